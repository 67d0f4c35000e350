/- The reference's first use of a path. How many paths there are, at most. The count is at most the number of paths; all paths, when they fit (plain). The true path: a round over the paths. The true path: all paths that begin with some points. The true path: all paths. The true path by timing. The refe -/
import Derived.Test.YtafomlbikcphgabGreatS6
import Derived.Test.YtafomlbikcphgabGreatS5

set_option linter.unusedSimpArgs false
set_option linter.unusedVariables false

/- The reference's first use of a path. -/
namespace Go.Proofs.YtafomlbikcphgabGreat.V
open Go (IntKind BinOp UnOp)
variable {π ρ κ : Id}

def preK (lv k i : Nat) : List Int := (List.range i).map (bitK lv k)
theorem preK_succ (lv k i : Nat) : preK lv k (i + 1) = preK lv k i ++ [bitK lv k i] := by simp [preK, List.range_succ]
theorem preK_len (lv k i : Nat) : (preK lv k i).length = i := by simp [preK]

theorem ua_loop1 (l : List Cell) (n : Net) (lv k : Nat) (hlv : n.leaves = lv) (hlv1 : lv ≤ 40) (hk : k ≤ 1000000) (path : List Int) :
    ∀ (j i : Nat) (x : Env × Sto), i + j = lv →
    mask [0, 2, 4, 8, 9, 10] [] x = some ([(0, .p (encLib l)), (2, .p (encInts path)), (4, .ref (4 :: π) 0), (8, .p (I k)), (9, .ap (1009 :: π)), (10, .p (I i))], [rowI (1009 :: π) (some (decide (i = 0))) (preK lv k i), (4 :: π, boxN n)]) →
    kpO [0, 2, 4, 8, 9] [6, 7] [] (bkO 2 (iter (round EE iter π [] [0, 2, 4, 8, 9, 10] c_ratchetref28_UsedAt_L1) x)) = some (.nm, [(0, .p (encLib l)), (2, .p (encInts path)), (4, .ref (4 :: π) 0), (8, .p (I k)), (9, .ap (1009 :: π))], [rowI (1009 :: π) (some (decide (lv = 0))) (bitsK lv k), (4 :: π, boxN n)])
  | 0, i, x, h, hm => by
    rw [loop_eq hm]
    have : i = lv := by omega
    subst this
    have : preK i k i = bitsK i k := rfl
    rw [this]
    simp [u_ratchetref28_UsedAt_L1, b_ratchetref28_UsedAt_L1, hlv]
  | j + 1, i, x, h, hm => by
    rw [loop_eq hm]
    have hil : i < lv := by omega
    have hws := w_succ hil (show lv ≤ top63 by simp only [top63]; omega)
    have hw1 : IntKind.i64.wrap ((lv : Int) - 1) = (lv : Int) - 1 := w64 ⟨by omega, by omega⟩
    have hw2 : IntKind.i64.wrap ((lv : Int) - 1 - i) = ((lv - 1 - i : Nat) : Int) := by rw [show (lv : Int) - 1 - i = ((lv - 1 - i : Nat) : Int) by omega]; exact w64 ⟨by omega, by omega⟩
    have hp := fun π => e_Pow (π := π) ((lv - 1 - i : Nat) : Int) (by omega) (by omega)
    rw [Int.toNat_natCast] at hp
    have hpp := pow_pos' (lv - 1 - i)
    have hne : ¬ (2 : Int) ^ (lv - 1 - i) = 0 := by omega
    have hq : (k : Int).tdiv (2 ^ (lv - 1 - i)) = ((k / 2 ^ (lv - 1 - i) : Nat) : Int) := by
      rw [Int.tdiv_eq_ediv_of_nonneg (by omega), ← pow_cast]; rfl
    have hdl : (((k / 2 ^ (lv - 1 - i) : Nat) : Int)) ≤ 1000000 ∧ 0 ≤ (((k / 2 ^ (lv - 1 - i) : Nat) : Int)) := by
      have := Nat.div_le_self k (2 ^ (lv - 1 - i))
      generalize k / 2 ^ (lv - 1 - i) = a at *
      omega
    have hbk : ((k / 2 ^ (lv - 1 - i) : Nat) : Int).tmod 2 = bitK lv k i := by
      rw [Int.tmod_eq_emod_of_nonneg hdl.2]
      unfold bitK
      generalize k / 2 ^ (lv - 1 - i) = a
      omega
    have hwq : IntKind.i64.wrap ((k / 2 ^ (lv - 1 - i) : Nat) : Int) = ((k / 2 ^ (lv - 1 - i) : Nat) : Int) := w64 ⟨by have := hdl.2; omega, by have := hdl.1; omega⟩
    have hpl := preK_len lv k i
    have hroom : (preK lv k i).length + 1 ≤ room := by rw [hpl]; simp only [room]; omega
    have hnext := ua_loop1 l n lv k hlv hlv1 hk path j (i + 1)
    rw [preK_succ, show decide (i + 1 = 0) = false by simp] at hnext
    generalize hqq : ((k / 2 ^ (lv - 1 - i) : Nat) : Int) = q at *
    generalize (2 : Int) ^ (lv - 1 - i) = P at *
    generalize preK lv k i = R at *
    generalize bitK lv k i = b at *
    simp [u_ratchetref28_UsedAt_L1, b_ratchetref28_UsedAt_L1, hlv, hil, hw1, hw2, hp, hne, hq, hwq, hbk, hroom]
    exact hnext _ (by omega) (by simp [hws, hlv])

theorem ua_loop0 (l : List Cell) (n : Net) (hv : NetV l n) (lv : Nat) (hlv : n.leaves = lv) (hlv1 : lv ≤ 10) (path : List Int) (hp : PathIn n path) :
    ∀ (j k : Nat) (x : Env × Sto), k + j = 2 ^ lv →
    mask [0, 2, 4, 8] [] x = some ([(0, .p (encLib l)), (2, .p (encInts path)), (4, .ref (4 :: π) 0), (8, .p (I k))], [(4 :: π, boxN n)]) →
    kpO [] [6, 7] [] (bkO 0 (iter (round EE iter π [] [0, 2, 4, 8] c_ratchetref28_UsedAt_L0) x)) = match firstU l n path lv j k with
      | none => some (.nm, [], [])
      | some b => some (.rt, [(6, .ap (1009 :: π)), (7, .p (.bool true))], [rowI (1009 :: π) (some (decide (lv = 0))) b])
  | 0, k, x, h, hm => by
    rw [loop_eq hm]
    have hk : (k : Int) = 2 ^ lv := by rw [← pow_cast]; omega
    have hpw := fun π => e_Pow (π := π) (lv : Int) (by omega) (by omega)
    rw [Int.toNat_natCast] at hpw
    simp [u_ratchetref28_UsedAt_L0, b_ratchetref28_UsedAt_L0, hlv, hpw, hk, firstU]
  | j + 1, k, x, h, hm => by
    rw [loop_eq hm]
    have hp10 : 2 ^ lv ≤ 2 ^ 10 := Nat.pow_le_pow_right (by omega) hlv1
    have hp10' : (2 : Nat) ^ 10 = 1024 := by decide
    have hkl : k < 2 ^ lv := by omega
    have hkl' : (k : Int) < 2 ^ lv := by rw [← pow_cast]; omega
    have hpw := fun π => e_Pow (π := π) (lv : Int) (by omega) (by omega)
    rw [Int.toNat_natCast] at hpw
    have hfill := ua_loop1 (π := π) l n lv k hlv (by omega) (by omega) path lv 0
    have hbl := bitsK_len lv k
    have hus := fun π => e_IsUsed (π := π) l n hv (bitsK lv k) (by omega) (bitsK_01 lv k) path hp
    have hws := w_succ hkl (show 2 ^ lv ≤ top63 by simp only [top63]; omega)
    have hnext := ua_loop0 l n hv lv hlv hlv1 path hp j (k + 1)
    rw [show preK lv k 0 = [] from rfl] at hfill
    rw [show firstU l n path lv (j + 1) k = if usedB l n path (valsN l n (bitsK lv k)) = true then some (bitsK lv k) else firstU l n path lv j (k + 1) from rfl]
    generalize hPP : (2 : Int) ^ lv = P0 at *
    generalize usedB l n path (valsN l n (bitsK lv k)) = u at *
    generalize firstU l n path lv j (k + 1) = F at *
    generalize bitsK lv k = B at *
    simp [u_ratchetref28_UsedAt_L0, b_ratchetref28_UsedAt_L0, hkl', hlv, hpw, thaw, thaw1]
    rw [hfill _ (by omega) (by simp [hlv])]
    cases u with
    | true =>
      simp [hus, freeze, evRO]
    | false =>
      simp [hus, freeze, evRO]
      exact hnext _ (by omega) (by simp [hws, hlv])

theorem e_UsedAtR (l : List Cell) (n : Net) (hv : NetV l n) (h10 : n.leaves ≤ 10) (path : List Int) (hp : PathIn n path) :
    EE π n_ratchetref28_UsedAt [.p (encLib l), .p (encNet n), .p (encInts path)] [] = match usedAtN l n path with
      | none => some (.p (.tup [.sl 1 (some true) [], .bool false]), [])
      | some b => some (.tup [.ap (1009 :: π), .p (.bool true)], [rowI (1009 :: π) (some (decide (n.leaves.toNat = 0))) b]) := by
  have hlv0 := hv.lv0
  have hl := ua_loop0 (π := π) l n hv n.leaves.toNat (by omega) (by omega) path hp (2 ^ n.leaves.toNat) 0
  unfold usedAtN
  generalize firstU l n path n.leaves.toNat (2 ^ n.leaves.toNat) 0 = F at *
  simp [e_ratchetref28_UsedAt, run_eq, c_ratchetref28_UsedAt]
  rw [hl _ (by omega) (by simp)]
  cases F <;> simp

theorem e_BitsErr (n : Net) : EE π n_ratchetref28_BitsErr [.p (encNet n)] [] = some (.p (I (unlE (decide (n.leaves ≤ 10)) 8)), []) := by
  by_cases h : n.leaves ≤ 10
  · have h' : ¬ (10 : Int) < n.leaves := by omega
    simp [e_ratchetref28_BitsErr, run_eq, c_ratchetref28_BitsErr, h, h', unlE]
  · have h' : (10 : Int) < n.leaves := by omega
    simp [e_ratchetref28_BitsErr, run_eq, c_ratchetref28_BitsErr, h, h', unlE]

end Go.Proofs.YtafomlbikcphgabGreat.V

/- How many paths there are, at most. -/
namespace Go.Proofs.YtafomlbikcphgabGreat.V
open Go (IntKind BinOp UnOp)
variable {π ρ κ : Id}

def cntGo (lv : Nat) (W : List Int) (p : Nat) : Nat → List Placed → Int → Int
  | _, [], a => a
  | i, c :: r, a => cntGo lv W p (i + 1) r (if memB c.sources ((p : Int) + 2) = true then min (a + W.getD (lv + i) 0) 501 else a)
def cntV (n : Net) (W : List Int) (p : Nat) : Int := cntGo n.leaves.toNat W p (p + 1 - n.leaves.toNat) (n.placed.drop (p + 1 - n.leaves.toNat)) (if endB n p then 1 else 0)
def cntL (n : Net) : Nat → List Int
  | 0 => List.replicate (n.leaves.toNat + n.placed.length) 0
  | k + 1 => (cntL n k).set (n.leaves.toNat + n.placed.length - 1 - k) (cntV n (cntL n k) (n.leaves.toNat + n.placed.length - 1 - k))
def cntS (n : Net) : Nat → Int
  | 0 => 0
  | k + 1 => if n.leaves.toNat + n.placed.length - 1 - k < n.leaves.toNat then min (cntS n k + cntV n (cntL n k) (n.leaves.toNat + n.placed.length - 1 - k)) 501 else cntS n k

theorem cntL_len (n : Net) : ∀ k, (cntL n k).length = n.leaves.toNat + n.placed.length
  | 0 => by simp [cntL]
  | k + 1 => by simp [cntL, cntL_len n k]
abbrev CB (L : List Int) : Prop := ∀ v ∈ L, 0 ≤ v ∧ v ≤ 501
theorem CB.getD {L : List Int} (h : CB L) (i : Nat) : 0 ≤ L.getD i 0 ∧ L.getD i 0 ≤ 501 := by
  rw [List.getD]
  cases hx : L[i]? with
  | none => simp
  | some v => exact h v (List.mem_of_getElem? hx)
theorem CB.set {L : List Int} (h : CB L) (i : Nat) {v : Int} (hv : 0 ≤ v ∧ v ≤ 501) : CB (L.set i v) := fun w hw => by
  rcases List.mem_or_eq_of_mem_set hw with h1 | h1
  · exact h w h1
  · rw [h1]; exact hv
theorem cntGo_in (lv : Nat) (W : List Int) (hW : CB W) (p : Nat) : ∀ (pl : List Placed) (i : Nat) (a : Int), 0 ≤ a → a ≤ 501 → 0 ≤ cntGo lv W p i pl a ∧ cntGo lv W p i pl a ≤ 501
  | [], i, a, h0, h1 => ⟨h0, h1⟩
  | c :: r, i, a, h0, h1 => by
    have hw := hW.getD (lv + i)
    simp only [cntGo]
    split
    · exact cntGo_in lv W hW p r (i + 1) _ (by omega) (by omega)
    · exact cntGo_in lv W hW p r (i + 1) a h0 h1
theorem cntV_in (n : Net) (W : List Int) (hW : CB W) (p : Nat) : 0 ≤ cntV n W p ∧ cntV n W p ≤ 501 := cntGo_in _ W hW p _ _ _ (by split <;> omega) (by split <;> omega)
theorem cntL_in (n : Net) : ∀ k, CB (cntL n k)
  | 0 => fun v hv => by simp [cntL, List.mem_replicate] at hv; omega
  | k + 1 => by
    simp only [cntL]
    exact (cntL_in n k).set _ (cntV_in n _ (cntL_in n k) _)
theorem cntS_in (n : Net) : ∀ k, 0 ≤ cntS n k ∧ cntS n k ≤ 501
  | 0 => by simp [cntS]
  | k + 1 => by
    have h1 := cntS_in n k
    have h2 := cntV_in n _ (cntL_in n k) (n.leaves.toNat + n.placed.length - 1 - k)
    simp only [cntS]
    split <;> omega

theorem cnt_loop1 (l : List Cell) (n : Net) (m : Model) (hv : Valid l n m) (W : List Int) (hWl : W.length = n.leaves.toNat + n.placed.length) (hW : CB W) (p : Nat) (hp : p < n.leaves.toNat + n.placed.length) (s : Int) :
    ∀ (suf : List Placed) (i : Nat) (a : Int) (W' : List Int) (x : Env × Sto), n.placed.drop i = suf → p < n.leaves.toNat + i → i ≤ n.placed.length → W' = W.set p a → 0 ≤ a → a ≤ 501 →
    mask [1, 3, 4, 5, 6] [] x = some ([(1, .ref (1 :: π) 0), (3, .ap (9 :: π)), (4, .p (I s)), (5, .p (I p)), (6, .p (I (n.leaves + i)))], [rowI (9 :: π) (some false) W', (1 :: π, boxNT n l)]) →
    kpO [1, 3, 4, 5] [2] [] (bkO 2 (iter (round EE iter π [] [1, 3, 4, 5, 6] c_timing_net_count_L1) x)) =
      some (.nm, [(1, .ref (1 :: π) 0), (3, .ap (9 :: π)), (4, .p (I s)), (5, .p (I p))], [rowI (9 :: π) (some false) (W.set p (cntGo n.leaves.toNat W p i suf a)), (1 :: π, boxNT n l)])
  | [], i, a, W', x, h, hpi, hil, hW', h0, h1, hm => by
    rw [loop_eq hm]
    have hlv0 := hv.lv0
    have hlv1 := hv.lv1
    have hnp := hv.np
    have hl : i = n.placed.length := by
      have := List.drop_eq_nil_iff.1 h
      omega
    have hpts := fun π => e_points (π := π) n l
    have hw : IntKind.i64.wrap (n.leaves + n.placed.length) = n.leaves + n.placed.length := w64 ⟨by omega, by omega⟩
    rw [hw] at hpts
    simp only [cntGo]
    rw [← hW']
    simp [u_timing_net_count_L1, b_timing_net_count_L1, hpts, hl]
  | y :: suf, i, a, W', x, h, hpi, hil, hW', h0, h1, hm => by
    rw [loop_eq hm]
    have hlen : i < n.placed.length := by
      have : (n.placed.drop i).length = (y :: suf).length := by rw [h]
      simp at this
      omega
    have hlv0 := hv.lv0
    have hlv1 := hv.lv1
    have hnp := hv.np
    have hpts := fun π => e_points (π := π) n l
    have hw : IntKind.i64.wrap (n.leaves + n.placed.length) = n.leaves + n.placed.length := w64 ⟨by omega, by omega⟩
    rw [hw] at hpts
    have hyi : n.placed[i]? = some y := by
      have : (n.placed.drop i)[0]? = some y := by rw [h]; rfl
      simpa using this
    have hyg : n.placed.getD i ⟨0, []⟩ = y := by simp [List.getD, hyi]
    have hsuf : n.placed.drop (i + 1) = suf := by
      rw [List.drop_eq_getElem_cons hlen] at h
      exact (List.cons.inj h).2
    have hhas := fun π => e_netHas (π := π) l n m hv i hlen (n.leaves + i) p rfl (by omega) (by omega)
    rw [srcB, hyg] at hhas
    have hws : IntKind.i64.wrap (n.leaves + (i : Int) + 1) = n.leaves + ((i + 1 : Nat) : Int) := by
      rw [show n.leaves + ((i + 1 : Nat) : Int) = n.leaves + (i : Int) + 1 by omega]
      exact w64 ⟨by omega, by omega⟩
    have hr := hW.getD (n.leaves.toNat + i)
    have hsl : W'.length = W.length := by rw [hW']; simp
    have hql' : n.leaves.toNat + i < W'.length := by omega
    have hpl' : p < W'.length := by omega
    have hpl : p < W.length := by omega
    have hsp : W'[p] = a := by simp [hW']
    have hnext := cnt_loop1 l n m hv W hWl hW p hp s suf (i + 1)
    have hqlt : n.leaves + (i : Int) < n.leaves + n.placed.length := by omega
    have htn : (n.leaves + (i : Int)).toNat = n.leaves.toNat + i := by omega
    have hq0 : 0 ≤ n.leaves + (i : Int) := by omega
    have hsq : W'[n.leaves.toNat + i] = W.getD (n.leaves.toNat + i) 0 := by
      simp only [hW']
      rw [List.getElem_set_ne (by omega)]; simp [List.getD, show n.leaves.toNat + i < W.length by omega]
    simp only [cntGo]
    cases hb : memB y.sources ((p : Int) + 2) with
    | false =>
      rw [hb] at hhas
      simp only [Bool.false_eq_true, if_false]
      simp [u_timing_net_count_L1, b_timing_net_count_L1, hpts, hqlt, hhas]
      exact hnext a W' _ hsuf (by omega) (by omega) hW' h0 h1 (by simp [hws])
    | true =>
      rw [hb] at hhas
      simp only [if_true]
      generalize W.getD (n.leaves.toNat + i) 0 = wq at *
      have hwd : IntKind.i64.wrap (a + wq) = a + wq := w64 ⟨by omega, by omega⟩
      have hset2 := ints_set W' p (min (a + wq) 501)
      rw [show W'.set p (min (a + wq) 501) = W.set p (min (a + wq) 501) by rw [hW', List.set_set]] at hset2
      have hmn : (if (501 : Int) < a + wq then 501 else a + wq) = min (a + wq) 501 := by omega
      have hnx := hnext (min (a + wq) 501) (W.set p (min (a + wq) 501))
      generalize W.set p (min (a + wq) 501) = W2 at *
      generalize hmm : min (a + wq) 501 = mm at *
      simp [u_timing_net_count_L1, b_timing_net_count_L1, hpts, hqlt, hhas, htn, hq0, hsq, hql', hpl', hsp, hwd, hmn, hset2, PV.setc]
      exact hnx _ hsuf (by omega) (by omega) rfl (by omega) (by omega) (by simp [hws])

theorem cntL_low (n : Net) : ∀ (k : Nat) (p : Nat), p + k < n.leaves.toNat + n.placed.length → (cntL n k).getD p 0 = 0
  | 0, p, h => by
    simp only [cntL, List.getD]
    rw [List.getElem?_replicate, if_pos (by omega)]; rfl
  | k + 1, p, h => by
    have ih := cntL_low n k p (by omega)
    simp only [cntL, List.getD] at ih ⊢
    rw [List.getElem?_set_ne (by omega)]
    exact ih

theorem cnt_loop0 (l : List Cell) (n : Net) (m : Model) (hv : Valid l n m) : ∀ (j k : Nat) (x : Env × Sto), k + j = n.leaves.toNat + n.placed.length →
    mask [1, 3, 4, 5] [] x = some ([(1, .ref (1 :: π) 0), (3, .ap (9 :: π)), (4, .p (I (cntS n k))), (5, .p (I ((j : Int) - 1)))], [rowI (9 :: π) (some false) (cntL n k), (1 :: π, boxNT n l)]) →
    kpO [4] [2] [] (bkO 0 (iter (round EE iter π [] [1, 3, 4, 5] c_timing_net_count_L0) x)) = some (.nm, [(4, .p (I (cntS n (n.leaves.toNat + n.placed.length))))], [])
  | 0, k, x, hk, hm => by
    rw [loop_eq hm]
    have : k = n.leaves.toNat + n.placed.length := by omega
    rw [this]
    generalize cntL n (n.leaves.toNat + n.placed.length) = W at *
    generalize cntS n (n.leaves.toNat + n.placed.length) = S at *
    simp [u_timing_net_count_L0, b_timing_net_count_L0]
  | j + 1, k, x, hk, hm => by
    rw [loop_eq hm]
    have hlv0 := hv.lv0
    have hlv1 := hv.lv1
    have hnp := hv.np
    have hWl := cntL_len n k
    have hWb := cntL_in n k
    have hSb := cntS_in n k
    have hj : (((j + 1 : Nat) : Int) - 1) = (j : Int) := by omega
    rw [hj]
    have hjp : n.leaves.toNat + n.placed.length - 1 - k = j := by omega
    have hend := fun π => e_isEnd (π := π) l n m hv (j : Int) (by omega) (by omega)
    have hlow := cntL_low n k j (by omega)
    have hjl : j < (cntL n k).length := by omega
    have hlj : (cntL n k)[j] = 0 := by simpa [List.getD, hjl] using hlow
    have hl1 := cnt_loop1 (π := π) l n m hv (cntL n k) hWl hWb j (by omega) (cntS n k) (n.placed.drop (j + 1 - n.leaves.toNat)) (j + 1 - n.leaves.toNat)
    have hcv := cntV_in n _ hWb j
    have hnext := cnt_loop0 l n m hv j (k + 1)
    have hWS : cntL n (k + 1) = (cntL n k).set j (cntV n (cntL n k) j) := by rw [cntL, hjp]
    have hSS : cntS n (k + 1) = if j < n.leaves.toNat then min (cntS n k + cntV n (cntL n k) j) 501 else cntS n k := by rw [cntS, hjp]
    rw [hWS, hSS] at hnext
    have hcvd : cntV n (cntL n k) j = cntGo n.leaves.toNat (cntL n k) j (j + 1 - n.leaves.toNat) (n.placed.drop (j + 1 - n.leaves.toNat)) (if endB n j then 1 else 0) := rfl
    have hws : IntKind.i64.wrap ((j : Int) - 1) = (j : Int) - 1 := w64 ⟨by omega, by omega⟩
    have hwj : IntKind.i64.wrap ((j : Int) + 1) = (j : Int) + 1 := w64 ⟨by omega, by omega⟩
    have hmx : (if n.leaves < (j : Int) + 1 then (j : Int) + 1 else n.leaves) = n.leaves + ((j + 1 - n.leaves.toNat : Nat) : Int) := by split <;> omega
    have hmx2 : (if (j : Int) + 1 < n.leaves then n.leaves else (j : Int) + 1) = n.leaves + ((j + 1 - n.leaves.toNat : Nat) : Int) := by split <;> omega
    have hdl : j + 1 - n.leaves.toNat ≤ n.placed.length := by omega
    have hl2 := hl1 (if endB n j then 1 else 0)
    rw [← hcvd] at hl2
    clear hcvd hl1
    generalize hV : cntV n (cntL n k) j = v at *
    generalize cntS n k = S at *
    generalize hW : cntL n k = W at *
    generalize j + 1 - n.leaves.toNat = d at *
    obtain ⟨W2, hW2⟩ : ∃ W2, W2 = W.set j v := ⟨_, rfl⟩
    rw [← hW2] at hnext
    have hgl : j < W2.length := by rw [hW2]; simpa using hjl
    have hget : W2[j] = v := by simp [hW2]
    have hwsum : IntKind.i64.wrap (S + v) = S + v := w64 ⟨by omega, by omega⟩
    rw [← hW2] at hl2
    cases hb : endB n j with
    | true =>
      rw [hb] at hend hl2
      simp only [if_true] at hl2
      have hset2 := ints_set W j 1
      have hl3 := fun x => hl2 (W.set j 1) x
      generalize hR3 : W.set j 1 = R3 at *
      by_cases hjlv : j < n.leaves.toNat
      · have hjlv' : (j : Int) < n.leaves := by omega
        have hmn : (if (501 : Int) < S + v then 501 else S + v) = min (S + v) 501 := by omega
        rw [if_pos hjlv] at hnext
        simp [u_timing_net_count_L0, b_timing_net_count_L0, hend, hjl, hset2, hwj, PV.setc]
        rw [hl3 _ trivial (by omega) (by omega) rfl (by omega) (by omega) (by simp [hmx])]
        simp [hjlv', hgl, hget, hwsum, hmn]
        exact hnext _ (by omega) (by simp [hws])
      · have hjlv' : ¬ (j : Int) < n.leaves := by omega
        rw [if_neg hjlv] at hnext
        simp [u_timing_net_count_L0, b_timing_net_count_L0, hend, hjl, hset2, hwj, PV.setc]
        rw [hl3 _ trivial (by omega) (by omega) rfl (by omega) (by omega) (by simp [hmx])]
        simp [hjlv']
        exact hnext _ (by omega) (by simp [hws])
    | false =>
      rw [hb] at hend hl2
      simp only [Bool.false_eq_true, if_false] at hl2
      have hl3 := fun x => hl2 W x
      have hRR : W = W.set j 0 := by rw [← hlj, List.set_getElem_self]
      by_cases hjlv : j < n.leaves.toNat
      · have hjlv' : (j : Int) < n.leaves := by omega
        have hmn : (if (501 : Int) < S + v then 501 else S + v) = min (S + v) 501 := by omega
        rw [if_pos hjlv] at hnext
        simp [u_timing_net_count_L0, b_timing_net_count_L0, hend, hwj]
        rw [hl3 _ trivial (by omega) (by omega) hRR (by omega) (by omega) (by simp [hmx])]
        simp [hjlv', hgl, hget, hwsum, hmn]
        exact hnext _ (by omega) (by simp [hws])
      · have hjlv' : ¬ (j : Int) < n.leaves := by omega
        rw [if_neg hjlv] at hnext
        simp [u_timing_net_count_L0, b_timing_net_count_L0, hend, hwj]
        rw [hl3 _ trivial (by omega) (by omega) hRR (by omega) (by omega) (by simp [hmx])]
        simp [hjlv']
        exact hnext _ (by omega) (by simp [hws])

theorem e_cnt (l : List Cell) (n : Net) (m : Model) (hv : Valid l n m) : EE π n_timing_net_count [.p (.agg (cellsN n l))] [] = some (.p (I (cntS n (n.leaves.toNat + n.placed.length))), []) := by
  have hlv0 := hv.lv0
  have hlv1 := hv.lv1
  have hnp := hv.np
  have hl := cnt_loop0 (π := π) l n m hv (n.leaves.toNat + n.placed.length) 0
  have hpts := fun π => e_points (π := π) n l
  have hw : IntKind.i64.wrap (n.leaves + n.placed.length) = n.leaves + n.placed.length := w64 ⟨by omega, by omega⟩
  rw [hw] at hpts
  have hc : ((n.leaves.toNat + n.placed.length : Nat) : Int) = n.leaves + n.placed.length := by omega
  have hw1 : IntKind.i64.wrap (n.leaves + n.placed.length - 1) = n.leaves + n.placed.length - 1 := w64 ⟨by omega, by omega⟩
  have hge : 0 ≤ n.leaves + (n.placed.length : Int) := by omega
  have htn : (n.leaves + (n.placed.length : Int)).toNat = n.leaves.toNat + n.placed.length := by omega
  have hroom : n.leaves.toNat + n.placed.length ≤ room := by simp only [room]; omega
  rw [hc] at hl
  generalize cntS n (n.leaves.toNat + n.placed.length) = S at *
  rw [show cntL n 0 = List.replicate (n.leaves.toNat + n.placed.length) 0 from rfl, show cntS n 0 = 0 from rfl] at hl
  simp [e_timing_net_count, run_eq, c_timing_net_count, hpts, hw1, hge, htn, hroom]
  rw [hl _ (by omega) (by simp)]
  simp

end Go.Proofs.YtafomlbikcphgabGreat.V

/- The count is at most the number of paths; all paths, when they fit (plain). -/
namespace Go.Proofs.YtafomlbikcphgabGreat.V
open Go (IntKind BinOp UnOp)
variable {π ρ κ : Id}

theorem cntGo_le (lv : Nat) (lvI : Int) (W : List Int) (p : Nat) (g : List Int → List (List Int)) (path : List Int) : ∀ (pl : List Placed) (i : Nat) (a : Int), (∀ (j : Nat) c, pl[j]? = some c → memB c.sources ((p : Int) + 2) = true → W.getD (lv + (i + j)) 0 ≤ ((g (path ++ [lvI + ((i + j : Nat) : Int)])).length : Int)) →
    cntGo lv W p i pl a ≤ a + ((allIn g lvI path p i pl).length : Int)
  | [], i, a, h => by simp [cntGo, allIn]
  | c :: r, i, a, h => by
    have h0 := h 0 c rfl
    rw [Nat.add_zero] at h0
    have hr := fun a => cntGo_le lv lvI W p g path r (i + 1) a (fun j c' hc hb => by
      have := h (j + 1) c' (by simpa using hc) hb
      rw [show i + (j + 1) = i + 1 + j by omega] at this
      exact this)
    simp only [cntGo, allIn, List.length_append]
    by_cases hb : memB c.sources ((p : Int) + 2) = true
    · rw [if_pos hb, if_pos hb]
      have h1 := hr (min (a + W.getD (lv + i) 0) 501)
      have h2 := h0 hb
      omega
    · rw [if_neg hb, if_neg hb]
      have h1 := hr a
      simp only [List.length_nil]
      omega

theorem allIn_drop (g : List Int → List (List Int)) (lvI : Int) (path : List Int) (last : Int) : ∀ (d i : Nat) (pl : List Placed), (allIn g lvI path last (i + d) (pl.drop d)).length ≤ (allIn g lvI path last i pl).length
  | 0, i, pl => Nat.le_refl _
  | d + 1, i, [] => by simp [allIn]
  | d + 1, i, c :: r => by
    have := allIn_drop g lvI path last d (i + 1) r
    simp only [List.drop_succ_cons, allIn, List.length_append]
    rw [show i + (d + 1) = i + 1 + d by omega]
    omega

theorem cntL_le (n : Net) (hlv0 : 0 ≤ n.leaves) : ∀ (k : Nat), k ≤ n.leaves.toNat + n.placed.length → ∀ q : Nat, n.leaves.toNat + n.placed.length - k ≤ q → q < n.leaves.toNat + n.placed.length → ∀ (f : Nat) (path : List Int), path.getLastD 0 = q → n.leaves.toNat + n.placed.length ≤ q + f → (cntL n k).getD q 0 ≤ ((allF n f path).length : Int)
  | 0, _, q, h1, h2, _, _, _, _ => by omega
  | k + 1, hk, q, h1, h2, f, path, hl, hf => by
    have ih := cntL_le n hlv0 k (by omega)
    have hlen := cntL_len n k
    simp only [cntL]
    by_cases hq : q = n.leaves.toNat + n.placed.length - 1 - k
    · rw [← hq, List.getD, List.getElem?_set_self (by omega)]
      show cntV n (cntL n k) q ≤ _
      cases f with
      | zero => omega
      | succ f =>
        unfold cntV
        simp only [allF, List.length_append]
        rw [hl]
        have h3 := cntGo_le n.leaves.toNat n.leaves (cntL n k) q (allF n f) path (n.placed.drop (q + 1 - n.leaves.toNat)) (q + 1 - n.leaves.toNat) (if endB n q then 1 else 0) (fun j c hc hb => by
          have hj : q + 1 - n.leaves.toNat + j < n.placed.length := by
            have := (List.getElem?_eq_some_iff.1 hc).1
            simp at this
            omega
          exact ih _ (by omega) (by omega) f _ (by simp; omega) (by omega))
        have h4 := allIn_drop (allF n f) n.leaves path q (q + 1 - n.leaves.toNat) 0 n.placed
        rw [Nat.zero_add] at h4
        have h5 : (if endB n q then (1 : Int) else 0) = ((if endB n q then [path] else []).length : Int) := by split <;> rfl
        omega
    · rw [List.getD, List.getElem?_set_ne (by omega), ← List.getD]
      exact ih q (by omega) h2 f path hl hf

theorem cntS_le (n : Net) (hlv0 : 0 ≤ n.leaves) : ∀ (k : Nat), k ≤ n.leaves.toNat + n.placed.length → cntS n k ≤ ((allT n (n.leaves.toNat + n.placed.length) (n.leaves.toNat - (n.leaves.toNat + n.placed.length - k)) (n.leaves.toNat + n.placed.length - k)).length : Int)
  | 0, _ => by simp [cntS]
  | k + 1, hk => by
    have ih := cntS_le n hlv0 k (by omega)
    obtain ⟨j, hjd⟩ : ∃ j, j = n.leaves.toNat + n.placed.length - 1 - k := ⟨_, rfl⟩
    have hj : n.leaves.toNat + n.placed.length - (k + 1) = j := by omega
    have hj1 : n.leaves.toNat + n.placed.length - k = j + 1 := by omega
    have hv := cntL_le n hlv0 (k + 1) hk j (by omega) (by omega) (n.leaves.toNat + n.placed.length) [(j : Int)] rfl (by omega)
    rw [cntL, List.getD, ← hjd, List.getElem?_set_self (by rw [cntL_len]; omega)] at hv
    have hv : cntV n (cntL n k) j ≤ ((allF n (n.leaves.toNat + n.placed.length) [(j : Int)]).length : Int) := hv
    simp only [cntS]
    rw [← hjd, hj]
    rw [hj1] at ih
    by_cases hjl : j < n.leaves.toNat
    · rw [if_pos hjl, show n.leaves.toNat - j = (n.leaves.toNat - (j + 1)) + 1 by omega]
      simp only [allT, List.length_append]
      omega
    · rw [if_neg hjl]
      rw [show n.leaves.toNat - (j + 1) = 0 by omega] at ih
      rw [show n.leaves.toNat - j = 0 by omega]
      exact ih

theorem cnt_all (n : Net) (hlv0 : 0 ≤ n.leaves) : cntS n (n.leaves.toNat + n.placed.length) ≤ ((allT n (n.leaves.toNat + n.placed.length) n.leaves.toNat 0).length : Int) := by
  have := cntS_le n hlv0 _ (Nat.le_refl _)
  rw [Nat.sub_self, Nat.sub_zero] at this
  exact this

/-! ### All paths, when they fit -/
theorem lonIn_fit (most : Nat) (g : List Int → List (List Int) → List (List Int)) (g' : List Int → List (List Int)) (hg : ∀ p o, o.length + (g' p).length ≤ most → g p o = o ++ g' p) (lv : Int) (path : List Int) (last : Int) :
    ∀ (pl : List Placed) (i : Nat) (out : List (List Int)), out.length + (allIn g' lv path last i pl).length ≤ most → lonIn g lv path last i pl out = out ++ allIn g' lv path last i pl
  | [], i, out, h => by simp [lonIn, allIn]
  | p :: r, i, out, h => by
    simp only [lonIn, allIn, List.length_append] at h ⊢
    by_cases hb : memB p.sources (last + 2) = true
    · rw [if_pos hb] at h ⊢
      rw [if_pos hb] at *
      rw [hg _ _ (by omega), lonIn_fit most g g' hg lv path last r (i + 1) _ (by rw [List.length_append]; omega), List.append_assoc]
    · rw [if_neg hb] at h ⊢
      rw [if_neg hb] at *
      rw [lonIn_fit most g g' hg lv path last r (i + 1) _ (by simpa using h)]
      simp
theorem lon_fit (n : Net) (most : Nat) : ∀ (f : Nat) (path : List Int) (out : List (List Int)), out.length + (allF n f path).length ≤ most → lon n most f path out = out ++ allF n f path
  | 0, path, out, h => by simp [lon, allF]
  | f + 1, path, out, h => by
    simp only [lon, allF] at h ⊢
    rw [List.length_append] at h
    rw [if_neg (by omega), lonIn_fit most (lon n most f) (allF n f) (lon_fit n most f)]
    · split <;> simp
    · split
      · rename_i he
        rw [if_pos he] at h
        simp only [List.length_append, List.length_singleton] at h ⊢
        omega
      · rename_i he
        rw [if_neg he] at h
        simpa using h
theorem allP_fit (n : Net) (most f : Nat) : ∀ (j p : Nat) (out : List (List Int)), out.length + (allT n f j p).length ≤ most → allP n most f j p out = out ++ allT n f j p
  | 0, p, out, h => by simp [allP, allT]
  | j + 1, p, out, h => by
    simp only [allP, allT, List.length_append] at h ⊢
    rw [lon_fit n most f _ _ (by omega), allP_fit n most f j (p + 1) _ (by rw [List.length_append]; omega), List.append_assoc]
theorem paths_fits (n : Net) (most : Nat) (h : (allT n (n.leaves.toNat + n.placed.length) n.leaves.toNat 0).length ≤ most) : pathsN n most = allT n (n.leaves.toNat + n.placed.length) n.leaves.toNat 0 := by
  unfold pathsN
  rw [allP_fit n most _ _ _ _ (by simpa using h)]
  simp
theorem paths_all {n : Net} {most : Nat} (hm : (pathsN n most).length ≤ most) : pathsN n most = allT n (n.leaves.toNat + n.placed.length) n.leaves.toNat 0 := by
  have := allP_all n most (n.leaves.toNat + n.placed.length) n.leaves.toNat 0 [] hm
  simpa [pathsN] using this

end Go.Proofs.YtafomlbikcphgabGreat.V

/- The true path: a round over the paths. -/
namespace Go.Proofs.YtafomlbikcphgabGreat.V
open Go (IntKind BinOp UnOp)
variable {π ρ κ : Id}

abbrev frU (π : Id) (st : FSt) : Id × Blk := (2000000 :: π, .frm π 65 [(7, .ref (7 :: π) 0), (11, .ref (11 :: π) 0), (13, .ref (13 :: π) 0), (14, .ref (14 :: π) 0)] [43] c_timing_TruePath_R0A c_timing_TruePath_R0B st)
abbrev idDU (π : Id) : Id := 1000018 :: 16 :: 22 :: π
abbrev coreU (π : Id) (l : List Cell) (n : Net) (m : Model) (D ats : List Int) (ld : Bool) (b : Option (List Int)) (k : Int) : Sto := [(14 :: π, .box false [.p (I k)]), (13 :: π, .box false [.p (encU b)]), (11 :: π, .box false (aggT l n m (1000018 :: 16 :: 22 :: π))), (1000018 :: 16 :: 22 :: π, .row ld t_int 1 (flagE n.placed) (ints D)), (7 :: π, .box false [.p (encInts ats)])]

/-- One more path is tried. -/
def visitU (w : List Int → Int) (u : List Int → Option (List Int)) (x : Option (List Int) × Int) (q : List Int) : Option (List Int) × Int := if x.2 < w q ∧ u q ≠ none then (some q, w q) else x

/-- Two ids differ, in each form. -/
structure NeI (a b : Id) : Prop where
  n1 : ¬ a = b
  n2 : ¬ b = a
  q1 : (a == b) = false
  q2 : (b == a) = false
theorem neI_of {a b : Id} (h : a ≠ b) : NeI a b := ⟨h, fun h' => h h'.symm, by simpa using h, by simpa using fun h' => h h'.symm⟩
structure PidOk (pid π : Id) : Prop where
  fr : NeI pid (2000000 :: π)
  b14 : NeI pid (14 :: π)
  b13 : NeI pid (13 :: π)
  b11 : NeI pid (11 :: π)
  rD : NeI pid (1000018 :: 16 :: 22 :: π)
  b7 : NeI pid (7 :: π)
  nw : NeI pid (0 :: 59 :: π)

theorem e_yldU {args : List AV} {s : Sto} : EE κ yieldF args s = runY EE iter args s := E_yld

theorem e_yieldU (l : List Cell) (n : Net) (m : Model) (hv : Valid l n m) (hnv : NetV l n) (h10 : n.leaves ≤ 10) (D : List Int) (hDl : D.length = n.placed.length) (hD : ∀ i, 0 ≤ D.getD i 0 ∧ D.getD i 0 ≤ 25400) (ats : List Int) (ha : (ats.length : Int) = n.leaves) (hat : ∀ v ∈ ats, 0 ≤ v ∧ v ≤ 1000000)
    (path : List Int) (hp : PathIn n path) (ld : Bool) (b : Option (List Int)) (k : Int) :
    EE κ yieldF [.p (.sl 1 (some false) (ints path)), .yld (2000000 :: π)] (frU π .ready :: coreU π l n m D ats ld b k) =
      some (.p (.bool true), frU π .ready :: coreU π l n m D ats ld (visitU (alongN n D ats) (usedAtN l n) (b, k) path).1 (visitU (alongN n D ats) (usedAtN l n) (b, k) path).2) := by
  have hal := fun π => e_along (π := π) l n m hv D hDl hD ats path ha hat hp
  have hus := fun π => e_used (π := π) l n hnv h10 path hp
  have hlen := hp.len
  have hfl : flE (ints path) = some false := by
    cases path with
    | nil => exact absurd rfl hp.ne
    | cons a r => rfl
  have hroom : path.length ≤ room := by simp only [room]; omega
  rw [e_yldU]
  unfold visitU
  generalize alongN n D ats path = w at *
  generalize usedAtN l n path = u at *
  by_cases hk : k < w
  · cases u with
    | none =>
      rw [if_neg (fun h => h.2 rfl)]
      simp [runY, u_timing_TruePath_R0A, b_timing_TruePath_R0A, u_timing_TruePath_R0B, b_timing_TruePath_R0B, hal, hus, hk, freeze, evRO]
    | some q =>
      rw [if_pos ⟨hk, by simp⟩]
      simp [runY, u_timing_TruePath_R0A, b_timing_TruePath_R0A, u_timing_TruePath_R0B, b_timing_TruePath_R0B, hal, hus, hk, freeze, evRO, o_slices_Clone_int_int, cloneO, hroom, hfl]
  · rw [if_neg (fun h => hk h.1)]
    simp [runY, u_timing_TruePath_R0A, b_timing_TruePath_R0A, u_timing_TruePath_R0B, b_timing_TruePath_R0B, hal, hus, hk, freeze, evRO]

end Go.Proofs.YtafomlbikcphgabGreat.V

/- The true path: all paths that begin with some points. -/
namespace Go.Proofs.YtafomlbikcphgabGreat.V
open Go (IntKind BinOp UnOp)
variable {π ρ κ : Id}

abbrev stU (π : Id) (l : List Cell) (n : Net) (m : Model) (D ats : List Int) (ld : Bool) (y : Option (List Int) × Int) : Sto := frU π .ready :: coreU π l n m D ats ld y.1 y.2
abbrev idsU (π : Id) : List Id := [2000000 :: π, 14 :: π, 13 :: π, 11 :: π, 1000018 :: 16 :: 22 :: π, 7 :: π]
abbrev foldU (w : List Int → Int) (u : List Int → Option (List Int)) (L : List (List Int)) (y : Option (List Int) × Int) : Option (List Int) × Int := L.foldl (visitU w u) y

@[simp] theorem sgB_true_none {d : Option Nat} {e : Env} {s : Sto} : sgB true d e s none = none := rfl
def gtO (want : Bool) (X : Option AV) (r : Option (Env × Sto)) : Option (Env × Sto) := match X with | some (.p (.bool b)) => bif b == want then r else none | _ => none
@[simp] theorem gtO_eq {b want : Bool} {r : Option (Env × Sto)} : gtO want (some (.p (.bool b))) r = bif b == want then r else none := rfl
@[simp] theorem st2_none_gd {C : Call} {d : Option Nat} {e : Env} {s : Sto} {t : Nat} {want : Bool} {op : IOp} : st2 C π ⟨d, some (t, want), op⟩ e s none = gtO want (e.lookup t) ((evT C π e s (d.getD 0) op).map fun r => (r.2.1.set d r.1, r.2.2)) := by
  rfl

/-- A new row's id, within a function that is called in a round. -/
theorem pid_new (d : Nat) (h : d ∉ [2000000, 14, 13, 11, 1000018, 7, 0]) : PidOk (d :: κ) π := by
  simp at h
  obtain ⟨h1, h2, h3, h4, h5, h6, h7⟩ := h
  refine ⟨neI_of ?_, neI_of ?_, neI_of ?_, neI_of ?_, neI_of ?_, neI_of ?_, neI_of ?_⟩ <;> simp <;> intro h <;> omega

theorem neI_len {a b : Id} (h : a.length < b.length) : NeI a b := neI_of fun e => by rw [e] at h; omega

abbrev PathsU (π : Id) (l : List Cell) (n : Net) (m : Model) (D ats : List Int) (ld : Bool) (f : Nat) : Prop := ∀ (path : List Int) (κ pid : Id) (r : Bool) (y : Option (List Int) × Int), PGood l n m ats path → path.length + f ≤ 500 → n.leaves.toNat + n.placed.length ≤ (path.getLastD 0).toNat + f → pid.length ≤ κ.length → PidOk pid π →
  EE κ n_timing_net_paths [.p (.agg (cellsN n l)), .ap pid, .yld (2000000 :: π)] ((pid, .row r t_int 1 (some false) (ints path)) :: stU π l n m D ats ld y) =
    some (.p (.bool true), (pid, .row true t_int 1 (some false) (ints path)) :: stU π l n m D ats ld (foldU (alongN n D ats) (usedAtN l n) (allF n f path) y))

theorem e_Clip (v : List Int) (fl : Option Bool) : EE π n_slices_Clip_int_int [.p (.sl 1 fl (ints v))] [] = some (.clip 1 fl (ints v), []) := by
  have h0 : (0 : Int) ≤ v.length := by omega
  have h1 : List.take v.length (ints v) = ints v := List.take_of_length_le (by simp)
  simp [e_slices_Clip_int_int, run_eq, c_slices_Clip_int_int, h1]

set_option maxHeartbeats 1000000 in
theorem paths_loopU (l : List Cell) (n : Net) (m : Model) (hv : Valid l n m) (D ats : List Int) (ha : (ats.length : Int) = n.leaves) (ld : Bool) (f : Nat) (hrec : PathsU π l n m D ats ld f)
    (path : List Int) (la : Int) (hla : path.getLastD 0 = la) (hg : PGood l n m ats path) (hl : path.length + (f + 1) ≤ 500) (hN : n.leaves.toNat + n.placed.length ≤ (la).toNat + f + 1) (pid : Id) (hk : pid.length ≤ κ.length) (hpid : PidOk pid π) :
    ∀ (suf : List Placed) (i : Nat) (y : Option (List Int) × Int) (x : Env × Sto), n.placed.drop i = suf → la < n.leaves + i → i ≤ n.placed.length →
    mask [1, 2, 3, 7, 8] (pid :: idsU π) x = some ([(1, .p (.sl 1 (some false) (ints path))), (2, .yld (2000000 :: π)), (3, .ref (3 :: κ) 0), (7, .p (I la)), (8, .p (I (n.leaves + i)))], (3 :: κ, boxNT n l) :: (pid, .row true t_int 1 (some false) (ints path)) :: stU π l n m D ats ld y) →
    kpO [] [6] (pid :: idsU π) (bkO 0 (iter (round EE iter κ (pid :: idsU π) [1, 2, 3, 7, 8] c_timing_net_paths_L0) x)) = some (.nm, [], (pid, .row true t_int 1 (some false) (ints path)) :: stU π l n m D ats ld (foldU (alongN n D ats) (usedAtN l n) (allIn (allF n f) n.leaves path la i suf) y))
  | [], i, y, x, h, hpi, hil, hm => by
    rw [loop_eq hm]
    have hlv0 := hv.lv0
    have hlv1 := hv.lv1
    have hnp := hv.np
    have hl : i = n.placed.length := by
      have := List.drop_eq_nil_iff.1 h
      omega
    have hpts := fun π => e_points (π := π) n l
    have hw : IntKind.i64.wrap (n.leaves + n.placed.length) = n.leaves + n.placed.length := w64 ⟨by omega, by omega⟩
    rw [hw] at hpts
    obtain ⟨⟨a1, a2, a3, a4⟩, ⟨b1, b2, b3, b4⟩, ⟨c1, c2, c3, c4⟩, ⟨d1, d2, d3, d4⟩, ⟨e1, e2, e3, e4⟩, ⟨f1, f2, f3, f4⟩, ⟨g1, g2, g3, g4⟩⟩ := hpid
    obtain ⟨k1, k2, k3, k4⟩ := neI_len (a := pid) (b := 3 :: κ) (by simp; omega)
    simp only [allIn, foldU, List.foldl_nil]
    simp [u_timing_net_paths_L0, b_timing_net_paths_L0, hpts, hl, a1, a2, a3, a4, b1, b2, b3, b4, c1, c2, c3, c4, d1, d2, d3, d4, e1, e2, e3, e4, f1, f2, f3, f4, k1, k2, k3, k4]
  | c :: suf, i, y, x, h, hpi, hil, hm => by
    rw [loop_eq hm]
    have hlen : i < n.placed.length := by
      have : (n.placed.drop i).length = (c :: suf).length := by rw [h]
      simp at this
      omega
    have hlv0 := hv.lv0
    have hlv1 := hv.lv1
    have hnp := hv.np
    have hl0 := hg.l0
    rw [hla] at hl0
    have hpts := fun π => e_points (π := π) n l
    have hw : IntKind.i64.wrap (n.leaves + n.placed.length) = n.leaves + n.placed.length := w64 ⟨by omega, by omega⟩
    rw [hw] at hpts
    have hyi : n.placed[i]? = some c := by
      have : (n.placed.drop i)[0]? = some c := by rw [h]; rfl
      simpa using this
    have hyg : n.placed.getD i ⟨0, []⟩ = c := by simp [List.getD, hyi]
    have hsuf : n.placed.drop (i + 1) = suf := by
      rw [List.drop_eq_getElem_cons hlen] at h
      exact (List.cons.inj h).2
    have hhas := fun π => e_netHas (π := π) l n m hv i hlen (n.leaves + i) (la) rfl (by omega) (by omega)
    rw [srcB, hyg] at hhas
    have hws : IntKind.i64.wrap (n.leaves + (i : Int) + 1) = n.leaves + ((i + 1 : Nat) : Int) := by
      rw [show n.leaves + ((i + 1 : Nat) : Int) = n.leaves + (i : Int) + 1 by omega]
      exact w64 ⟨by omega, by omega⟩
    have hnext := paths_loopU l n m hv D ats ha ld f hrec path la hla hg hl hN pid hk hpid suf (i + 1)
    have hqlt : n.leaves + (i : Int) < n.leaves + n.placed.length := by omega
    have hpid2 := hpid
    obtain ⟨⟨a1, a2, a3, a4⟩, ⟨b1, b2, b3, b4⟩, ⟨c1, c2, c3, c4⟩, ⟨d1, d2, d3, d4⟩, ⟨e1, e2, e3, e4⟩, ⟨f1, f2, f3, f4⟩, ⟨g1, g2, g3, g4⟩⟩ := hpid2
    obtain ⟨k1, k2, k3, k4⟩ := neI_len (a := pid) (b := 3 :: κ) (by simp; omega)
    obtain ⟨l1, l2, l3, l4⟩ := neI_len (a := pid) (b := 45 :: κ) (by simp; omega)
    obtain ⟨m1, m2, m3, m4⟩ := neI_len (a := pid) (b := 46 :: κ) (by simp; omega)
    simp only [allIn, foldU, List.foldl_append]
    cases hb : memB c.sources (la + 2) with
    | false =>
      rw [hb] at hhas
      simp only [Bool.false_eq_true, if_false, List.foldl_nil]
      simp [u_timing_net_paths_L0, b_timing_net_paths_L0, hpts, hqlt, hhas, freeze, evRO, a1, a2, a3, a4, b1, b2, b3, b4, c1, c2, c3, c4, d1, d2, d3, d4, e1, e2, e3, e4, f1, f2, f3, f4, k1, k2, k3, k4, l1, l2, l3, l4, m1, m2, m3, m4]
      exact hnext y _ hsuf (by omega) (by omega) (by simp [hws, a1, a2, a3, a4, b1, b2, b3, b4, c1, c2, c3, c4, d1, d2, d3, d4, e1, e2, e3, e4, f1, f2, f3, f4, k1, k2, k3, k4])
    | true =>
      rw [hb] at hhas
      simp only [if_true]
      have hstep := hg.step hv ha i c hyi (by rw [hla]; exact hb)
      have hll : (path ++ [n.leaves + (i : Int)]).getLastD 0 = n.leaves + i := by simp
      have hr2 := hrec (path ++ [n.leaves + (i : Int)]) (48 :: κ) (46 :: κ) false y hstep (by simp; omega) (by rw [hll]; omega) (by simp) (pid_new 46 (by decide))
      rw [show ints (path ++ [n.leaves + (i : Int)]) = ints path ++ [I (n.leaves + i)] by simp] at hr2
      have hroom : path.length + 1 ≤ room := by simp only [room]; omega
      have hint : (n.leaves + (i : Int)) = n.leaves + i := rfl
      generalize hy2 : foldU (alongN n D ats) (usedAtN l n) (allF n f (path ++ [n.leaves + (i : Int)])) y = y2 at *
      have hclip := fun π fl => e_Clip (π := π) path fl
      simp only [foldU] at hy2
      rw [hy2]
      simp [u_timing_net_paths_L0, b_timing_net_paths_L0, hpts, hqlt, hhas, hclip, hroom, hr2, freeze, evRO, a1, a2, a3, a4, b1, b2, b3, b4, c1, c2, c3, c4, d1, d2, d3, d4, e1, e2, e3, e4, f1, f2, f3, f4, k1, k2, k3, k4, l1, l2, l3, l4, m1, m2, m3, m4]
      exact hnext y2 _ hsuf (by omega) (by omega) (by simp [hws, a1, a2, a3, a4, b1, b2, b3, b4, c1, c2, c3, c4, d1, d2, d3, d4, e1, e2, e3, e4, f1, f2, f3, f4, k1, k2, k3, k4, l1, l2, l3, l4, m1, m2, m3, m4])

theorem allIn_skip (g : List Int → List (List Int)) (lvI : Int) (path : List Int) (last : Int) : ∀ (d i : Nat) (pl : List Placed), (∀ (j : Nat) c, j < d → pl[j]? = some c → memB c.sources (last + 2) = false) → allIn g lvI path last (i + d) (pl.drop d) = allIn g lvI path last i pl
  | 0, i, pl, _ => rfl
  | d + 1, i, [], _ => by simp [allIn]
  | d + 1, i, c :: r, h => by
    have h0 := h 0 c (by omega) rfl
    have := allIn_skip g lvI path last d (i + 1) r (fun j c' hj hc => h (j + 1) c' (by omega) (by simpa using hc))
    rw [show i + 1 + d = i + (d + 1) by omega] at this
    simp only [List.drop_succ_cons, allIn, h0, Bool.false_eq_true, if_false, List.nil_append]
    exact this

set_option maxHeartbeats 1000000 in
theorem e_pathsU (l : List Cell) (n : Net) (m : Model) (hv : Valid l n m) (hnv : NetV l n) (h10 : n.leaves ≤ 10) (D ats : List Int) (hDl : D.length = n.placed.length) (hD : ∀ i, 0 ≤ D.getD i 0 ∧ D.getD i 0 ≤ 25400) (ha : (ats.length : Int) = n.leaves) (hat : ∀ v ∈ ats, 0 ≤ v ∧ v ≤ 1000000) (ld : Bool) : ∀ (f : Nat), PathsU π l n m D ats ld f
  | 0 => fun path κ pid r y hg hl hN hk hpid => by
    have := hg.l0
    have := hv.lv0
    omega
  | f + 1 => fun path κ pid r y hg hl hN hk hpid => by
    have hlv0 := hv.lv0
    have hlv1 := hv.lv1
    have hnp := hv.np
    obtain ⟨la, hla⟩ : ∃ la, path.getLastD 0 = la := ⟨_, rfl⟩
    have hl0 := hg.l0
    rw [hla] at hl0 hN
    have hp0 : 0 < path.length := List.length_pos_iff.2 hg.ne
    have hlt : path.length - 1 < path.length := by omega
    have hlast : path[path.length - 1] = la := by
      rw [← hla, List.getLastD_eq_getLast?, List.getLast?_eq_getElem?, List.getElem?_eq_getElem hlt]; rfl
    have hw : IntKind.i64.wrap ((path.length : Int) - 1) = ((path.length - 1 : Nat) : Int) := by rw [show (path.length : Int) - 1 = ((path.length - 1 : Nat) : Int) by omega]; exact w64 ⟨by omega, by omega⟩
    have hw1 : IntKind.i64.wrap (la + 1) = la + 1 := w64 ⟨by omega, by omega⟩
    have hend := fun π => e_isEnd (π := π) l n m hv la (by omega) (by omega)
    obtain ⟨d, hd⟩ : ∃ d, d = (la + 1 - n.leaves).toNat := ⟨_, rfl⟩
    have hmx : (if n.leaves < la + 1 then la + 1 else n.leaves) = n.leaves + (d : Int) := by split <;> omega
    have hskip := allIn_skip (allF n f) n.leaves path la d 0 n.placed (fun j c hj hc => by
      cases hb : memB c.sources (la + 2) with
      | false => rfl
      | true =>
        have hs := hnv.src j c hc (la + 2) (by simpa [memB] using hb)
        omega)
    rw [Nat.zero_add] at hskip
    have hloop := fun y x => paths_loopU (κ := κ) l n m hv D ats ha ld f (e_pathsU l n m hv hnv h10 D ats hDl hD ha hat ld f) path la hla hg hl (by omega) pid hk hpid (n.placed.drop d) d y x rfl (by omega) (by omega)
    have hyld := fun κ (y : Option (List Int) × Int) => e_yieldU (π := π) (κ := κ) l n m hv hnv h10 D hDl hD ats ha hat path (hg.pathIn (by omega)) ld y.1 y.2
    obtain ⟨⟨a1, a2, a3, a4⟩, ⟨b1, b2, b3, b4⟩, ⟨c1, c2, c3, c4⟩, ⟨d1, d2, d3, d4⟩, ⟨e1, e2, e3, e4⟩, ⟨f1, f2, f3, f4⟩, ⟨g1, g2, g3, g4⟩⟩ := hpid
    obtain ⟨k1, k2, k3, k4⟩ := neI_len (a := pid) (b := 3 :: κ) (by simp; omega)
    simp only [allF]
    rw [hla, ← hskip]
    cases hb : endB n la with
    | false =>
      rw [hb] at hend
      simp [e_timing_net_paths, run_eq, c_timing_net_paths, hlt, hlast, hw, hw1, hend, hmx, freeze, a1, a2, a3, a4, b1, b2, b3, b4, c1, c2, c3, c4, d1, d2, d3, d4, e1, e2, e3, e4, f1, f2, f3, f4, k1, k2, k3, k4]
      rw [hloop y _ (by simp [a1, a2, a3, a4, b1, b2, b3, b4, c1, c2, c3, c4, d1, d2, d3, d4, e1, e2, e3, e4, f1, f2, f3, f4, k1, k2, k3, k4])]
      simp [a1, a2, a3, a4, b1, b2, b3, b4, c1, c2, c3, c4, d1, d2, d3, d4, e1, e2, e3, e4, f1, f2, f3, f4, k1, k2, k3, k4]
    | true =>
      rw [hb] at hend
      have hy := hyld (21 :: κ) y
      simp only [if_true, List.singleton_append, foldU, List.foldl_cons]
      generalize hyy : visitU (alongN n D ats) (usedAtN l n) y path = y2 at *
      have hy : EE (21 :: κ) yieldF [.p (.sl 1 (some false) (ints path)), .yld (2000000 :: π)] (stU π l n m D ats ld y) = some (.p (.bool true), stU π l n m D ats ld y2) := by
        rw [hy, ← hyy]
      simp [e_timing_net_paths, run_eq, c_timing_net_paths, hlt, hlast, hw, hw1, hend, hmx, hy, freeze, a1, a2, a3, a4, b1, b2, b3, b4, c1, c2, c3, c4, d1, d2, d3, d4, e1, e2, e3, e4, f1, f2, f3, f4, k1, k2, k3, k4]
      rw [hloop y2 _ (by simp [a1, a2, a3, a4, b1, b2, b3, b4, c1, c2, c3, c4, d1, d2, d3, d4, e1, e2, e3, e4, f1, f2, f3, f4, k1, k2, k3, k4])]
      simp [a1, a2, a3, a4, b1, b2, b3, b4, c1, c2, c3, c4, d1, d2, d3, d4, e1, e2, e3, e4, f1, f2, f3, f4, k1, k2, k3, k4]

end Go.Proofs.YtafomlbikcphgabGreat.V

/- The true path: all paths. -/
namespace Go.Proofs.YtafomlbikcphgabGreat.V
open Go (IntKind BinOp UnOp)
variable {π ρ κ : Id}

theorem pidA : PidOk (13 :: 3000000 :: π) π := by
  refine ⟨neI_of ?_, neI_of ?_, neI_of ?_, neI_of ?_, neI_of ?_, neI_of ?_, neI_of ?_⟩ <;> simp

theorem all_loopU (l : List Cell) (n : Net) (m : Model) (hv : Valid l n m) (hnv : NetV l n) (h10 : n.leaves ≤ 10) (D ats : List Int) (hDl : D.length = n.placed.length) (hD : ∀ i, 0 ≤ D.getD i 0 ∧ D.getD i 0 ≤ 25400) (ha : (ats.length : Int) = n.leaves) (hat : ∀ v ∈ ats, 0 ≤ v ∧ v ≤ 1000000) (ld : Bool) :
    ∀ (j p : Nat) (y : Option (List Int) × Int) (x : Env × Sto), j + p = n.leaves.toNat →
    mask [1, 2, 7, 8] (idsU π) x = some ([(1, .yld (2000000 :: π)), (2, .ref (2 :: 3000000 :: π) 0), (7, .p (I n.leaves)), (8, .p (I p))], (2 :: 3000000 :: π, boxNT n l) :: stU π l n m D ats ld y) →
    kpO [] [] (idsU π) (bkO 0 (iter (round EE iter (3000000 :: π) (idsU π) [1, 2, 7, 8] c_timing_net_all_L0) x)) = some (.nm, [], stU π l n m D ats ld (foldU (alongN n D ats) (usedAtN l n) (allT n (n.leaves.toNat + n.placed.length) j p) y))
  | 0, p, y, x, hj, hm => by
    rw [loop_eq hm]
    have hlv0 := hv.lv0
    have hp : ¬ (p : Int) < n.leaves := by omega
    simp [u_timing_net_all_L0, b_timing_net_all_L0, hp, allT]
  | j + 1, p, y, x, hj, hm => by
    rw [loop_eq hm]
    have hlv0 := hv.lv0
    have hlv1 := hv.lv1
    have hnp := hv.np
    have hp : (p : Int) < n.leaves := by omega
    have hpl : p < ats.length := by omega
    have hg : ([(p : Int)] : List Int).getLastD 0 = p := rfl
    have hgood : PGood l n m ats [(p : Int)] := by
      refine ⟨by simp, by simp; omega, by simp, by simp; omega, ?_⟩
      rw [hg, Int.toNat_natCast, arr_leaf l n m ats p hpl]
      simp [alongN, sumD]
    have hr := e_pathsU (π := π) l n m hv hnv h10 D ats hDl hD ha hat ld (n.leaves.toNat + n.placed.length) [(p : Int)] (15 :: 3000000 :: π) (13 :: 3000000 :: π) false y hgood (by simp; omega) (by rw [hg]; omega) (by simp) pidA
    have hws : IntKind.i64.wrap ((p : Int) + 1) = ((p + 1 : Nat) : Int) := w64 ⟨by omega, by omega⟩
    have hnext := all_loopU l n m hv hnv h10 D ats hDl hD ha hat ld j (p + 1)
    simp only [allT, foldU, List.foldl_append]
    simp only [foldU] at hr hnext
    generalize hy2 : (allF n (n.leaves.toNat + n.placed.length) [(p : Int)]).foldl (visitU (alongN n D ats) (usedAtN l n)) y = y2 at *
    have hr : EE (15 :: 3000000 :: π) n_timing_net_paths [.p (.agg (cellsN n l)), .ap (13 :: 3000000 :: π), .yld (2000000 :: π)] ((13 :: 3000000 :: π, .row false t_int 1 (some false) [I p]) :: stU π l n m D ats ld y) = some (.p (.bool true), (13 :: 3000000 :: π, .row true t_int 1 (some false) [I p]) :: stU π l n m D ats ld y2) := hr
    simp [u_timing_net_all_L0, b_timing_net_all_L0, hp, hr]
    exact hnext y2 _ (by omega) (by simp [hws])

theorem e_allU (l : List Cell) (n : Net) (m : Model) (hv : Valid l n m) (hnv : NetV l n) (h10 : n.leaves ≤ 10) (D ats : List Int) (hDl : D.length = n.placed.length) (hD : ∀ i, 0 ≤ D.getD i 0 ∧ D.getD i 0 ≤ 25400) (ha : (ats.length : Int) = n.leaves) (hat : ∀ v ∈ ats, 0 ≤ v ∧ v ≤ 1000000) (ld : Bool) (y : Option (List Int) × Int) :
    EE (3000000 :: π) n_timing_net_all [.p (.agg (cellsN n l)), .yld (2000000 :: π)] (stU π l n m D ats ld y) = some (.p (.tup []), stU π l n m D ats ld (foldU (alongN n D ats) (usedAtN l n) (allT n (n.leaves.toNat + n.placed.length) n.leaves.toNat 0) y)) := by
  have hl := all_loopU (π := π) l n m hv hnv h10 D ats hDl hD ha hat ld n.leaves.toNat 0 y
  simp [e_timing_net_all, run_eq, c_timing_net_all]
  rw [hl _ (by omega) (by simp)]
  simp

end Go.Proofs.YtafomlbikcphgabGreat.V

/- The true path by timing. -/
namespace Go.Proofs.YtafomlbikcphgabGreat.V
open Go (IntKind BinOp UnOp)
variable {π ρ κ : Id}

theorem evC_rfU {C : Call} {L : Loop} {k0 : List Id} {e : Env} {s : Sto} (g : Opd) (nt site : Nat) (live ps : List Nat) (a b : IR) : evC C L π k0 (.rf g nt site live ps a b) e s =
    if s.has ((2000000 + site) :: π) then none else match fnOf (g.get e) (.yld ((2000000 + site) :: π)) with
    | some (k, args) => if k = yieldF then none else match C ((3000000 + site) :: π) k args (((2000000 + site) :: π, .frm π nt (e.keep live) ps a b .ready) :: s) with
      | some (_, s1) => rfO k0 ((2000000 + site) :: π) ((rowIds s).foldl Env.kill e) s1
      | none => none
    | none => none := by
  rw [evC] <;> rfl

@[simp] theorem un_mth (g : Bool) (f : Nat) (l : List PV) : AV.un g (.mth f l) = .mth f l := rfl

/-- The true path, and its delay: the first of the greatest delay among those that are used. -/
def trueB (l : List Cell) (n : Net) (m : Model) (ats : List Int) : Option (List Int) × Int := foldU (alongN n (delaysN l n m) ats) (usedAtN l n) (allT n (n.leaves.toNat + n.placed.length) n.leaves.toNat 0) (none, -1)

theorem e_TruePath_err (l : List Cell) (n : Net) (m : Model) (h : netOk l n) (ats : List Int) (hd : ats.length ≤ top63) (he : errA l n m ats ≠ 0) :
    EE π n_timing_TruePath [.p (encLib l), .p (encNet n), .p (encModel m), .p (encInts ats)] [] = some (.p (.tup [.sl 1 (some true) [], I 0, I (errA l n m ats)]), []) := by
  by_cases ha : allE l n m = 0
  · have e : errA l n m ats = timesE ats n.leaves := by unfold errA; by_cases hz : timesE ats n.leaves = 0 <;> simp [firstE, hz, ha]
    rw [e] at he ⊢
    have ho := fun π => e_openTimes_ok (π := π) l n m h ha ats hd
    generalize delaysN l n m = D at *
    simp [e_timing_TruePath, run_eq, c_timing_TruePath, ho, he]
  · have e : errA l n m ats = allE l n m := by unfold errA; simp [firstE, ha]
    rw [e]
    simp [e_timing_TruePath, run_eq, c_timing_TruePath, e_openTimes_err l n m h ha ats hd, ha]

theorem e_TruePath_large (l : List Cell) (n : Net) (m : Model) (h : netOk l n) (ats : List Int) (hd : ats.length ≤ top63) (he : errA l n m ats = 0) (hb : ¬ (n.leaves ≤ 10)) :
    EE π n_timing_TruePath [.p (encLib l), .p (encNet n), .p (encModel m), .p (encInts ats)] [] = some (.p (.tup [.sl 1 (some true) [], I 0, I 8]), []) := by
  unfold errA at he
  rw [firstE_cons, firstE_cons] at he
  obtain ⟨ha, ht, _⟩ := he
  have hv := valid_of ha
  have ho := fun π => e_openTimes_ok (π := π) l n m h ha ats hd
  rw [ht] at ho
  generalize delaysN l n m = D at *
  simp [e_timing_TruePath, run_eq, c_timing_TruePath, ho, hb, e_unlessT, unlE, freeze, evRO]

theorem e_TruePath_ok (l : List Cell) (n : Net) (m : Model) (h : netOk l n) (ats : List Int) (hd : ats.length ≤ top63) (he : errA l n m ats = 0) (h10 : n.leaves ≤ 10) (hc : cntS n (n.leaves.toNat + n.placed.length) ≤ 500) :
    EE π n_timing_TruePath [.p (encLib l), .p (encNet n), .p (encModel m), .p (encInts ats)] [] = match trueB l n m ats with
      | (none, _) => some (.p (.tup [.sl 1 (some true) [], I 0, I 12]), [])
      | (some p, k) => some (.p (.tup [encL p, I k, I 0]), []) := by
  unfold errA at he
  rw [firstE_cons, firstE_cons] at he
  obtain ⟨ha, ht, _⟩ := he
  have hv := valid_of ha
  have hlv0 := hv.lv0
  obtain ⟨ht1, ht2⟩ := times_ok ht
  have hn : netE28 l n = 0 := by
    unfold allE at ha
    rw [firstE_cons] at ha
    exact ha.1
  obtain ⟨hnv, _⟩ := netV_of hn
  have ho := fun π => e_openTimes_ok (π := π) l n m h ha ats hd
  rw [ht] at ho
  have hDl : (delaysN l n m).length = n.placed.length := by simp [delaysN]
  have hal := fun ld => e_allU (π := π) l n m hv hnv h10 (delaysN l n m) ats hDl hv.D_ge ht1 ht2 ld (none, -1)
  have hcn := fun π => e_cnt (π := π) l n m hv
  have hT : foldU (alongN n (delaysN l n m) ats) (usedAtN l n) (allT n (n.leaves.toNat + n.placed.length) n.leaves.toNat 0) (none, -1) = trueB l n m ats := rfl
  rw [hT] at hal
  generalize trueB l n m ats = B at *
  generalize delaysN l n m = D at *
  generalize cntS n (n.leaves.toNat + n.placed.length) = S at *
  have hal := hal false
  dsimp only [stU, coreU] at hal
  obtain ⟨B1, B2⟩ := B
  simp [e_timing_TruePath, run_eq, c_timing_TruePath, ho, h10, hc, hcn, e_unlessT, unlE, freeze, evRO, evC_rfU, fnOf]
  rw [hal]
  cases B1 <;> simp

end Go.Proofs.YtafomlbikcphgabGreat.V

/- The reference's true path. -/
namespace Go.Proofs.YtafomlbikcphgabGreat.V
open Go (IntKind BinOp UnOp)
variable {π ρ κ : Id}

def isUsedN (l : List Cell) (n : Net) (q : List Int) : Bool := (usedAtN l n q).isSome
abbrev boxNR (n : Net) : Blk := .box false [.p (I n.leaves), .p (encPlaceds n.placed), .p (encInts n.outs)]
abbrev boxMR (m : Model) : Blk := .box false [.p (I m.perLoad), .p (I m.setup), .p (I m.hold), .p (I m.fast), .p (I m.slow)]

theorem true_loop (l : List Cell) (n : Net) (m : Model) (hnv : NetV l n) (h10 : n.leaves ≤ 10) (ats : List Int) (L : List (List Int)) (fl : Option Bool) (hL : ∀ p ∈ L, PathIn n p) (hLl : L.length ≤ 100000) :
    ∀ (suf pre : List (List Int)) (x : Env × Sto), L = pre ++ suf →
    mask [0, 3, 5, 6, 10, 11, 12] [] x = some ([(0, .p (encLib l)), (3, .p (encInts ats)), (5, .ref (5 :: π) 0), (6, .ref (6 :: π) 0), (10, .p (.sl 1 fl (L.map encL))), (11, .ap (1011 :: π)), (12, .p (I pre.length))], [rowL (1011 :: π) (flagE (pre.filter (isUsedN l n))) (pre.filter (isUsedN l n)), (6 :: π, boxMR m), (5 :: π, boxNR n)]) →
    kpO [0, 3, 5, 6, 11] [8, 9] [] (bkO 0 (iter (round EE iter π [] [0, 3, 5, 6, 10, 11, 12] c_ratchetref28_True_L0) x)) = some (.nm, [(0, .p (encLib l)), (3, .p (encInts ats)), (5, .ref (5 :: π) 0), (6, .ref (6 :: π) 0), (11, .ap (1011 :: π))], [rowL (1011 :: π) (flagE (L.filter (isUsedN l n))) (L.filter (isUsedN l n)), (6 :: π, boxMR m), (5 :: π, boxNR n)])
  | [], pre, x, h, hm => by
    rw [loop_eq hm]
    have : L = pre := by simpa using h
    simp [u_ratchetref28_True_L0, b_ratchetref28_True_L0, ← this]
  | y :: suf, pre, x, h, hm => by
    rw [loop_eq hm]
    have hlen : pre.length < L.length := by rw [h]; simp
    have hyg : L[pre.length]? = some y := by rw [h]; simp
    have hyg2 : L[pre.length] = y := by simpa [List.getElem?_eq_getElem hlen] using hyg
    have hy := hL y (by rw [h]; simp)
    have hus := fun π => e_UsedAtR (π := π) l n hnv h10 y hy
    have hws := w_succ hlen (show L.length ≤ top63 by simp only [top63]; omega)
    have hnext := true_loop l n m hnv h10 ats L fl hL hLl suf (pre ++ [y])
    have hroom : (pre.filter (isUsedN l n)).length + 1 ≤ room := by
      have := List.length_filter_le (isUsedN l n) pre
      simp only [room]; omega
    rw [show (pre ++ [y]).length = pre.length + 1 by simp, List.filter_append, show [y].filter (isUsedN l n) = if (usedAtN l n y).isSome = true then [y] else [] by rw [List.filter_cons]; rfl] at hnext
    generalize hF : pre.filter (isUsedN l n) = F at *
    generalize L.filter (isUsedN l n) = FL at *
    cases hu : usedAtN l n y with
    | none =>
      rw [hu] at hnext
      simp only [hu] at hus
      simp only [Option.isSome_none, Bool.false_eq_true, if_false, List.append_nil] at hnext
      simp [u_ratchetref28_True_L0, b_ratchetref28_True_L0, hlen, hyg2, hus, freeze, evRO]
      exact hnext _ (by simp [h]) (by simp [hws])
    | some q =>
      rw [hu] at hnext
      simp only [hu] at hus
      simp only [Option.isSome_some, if_true, flagE_snoc] at hnext
      simp [u_ratchetref28_True_L0, b_ratchetref28_True_L0, hlen, hyg2, hus, hroom, freeze, evRO]
      exact hnext _ (by simp [h]) (by simp [hws])

theorem e_True (l : List Cell) (n : Net) (m : Model) (hv : Valid l n m) (hnv : NetV l n) (h10 : n.leaves ≤ 10) (ats : List Int) (ha : (ats.length : Int) = n.leaves) (hat : ∀ v ∈ ats, 0 ≤ v ∧ v ≤ 1000000) (hL : ∀ p ∈ pathsN n 500, PathIn n p) (hLl : (pathsN n 500).length ≤ 100000) :
    EE π n_ratchetref28_True [.p (encLib l), .p (encNet n), .p (encModel m), .p (encInts ats)] [] =
      some (.p (.tup [encBest (critLG (alongN n (delaysN l n m) ats) ((pathsN n 500).filter (isUsedN l n)) none), .bool (critLG (alongN n (delaysN l n m) ats) ((pathsN n 500).filter (isUsedN l n)) none).isSome]), []) := by
  have ep : ∀ π : Id, EE π n_ratchetref28_Paths [.p (encNet n), .p (I 500)] [] = some (.ap (1005 :: π), [rowL (1005 :: π) (flagE (pathsN n 500)) (pathsN n 500)]) := fun π => e_Paths (π := π) l n m hv 500 (by omega)
  have hlp := true_loop (π := π) l n m hnv h10 ats (pathsN n 500) (flagE (pathsN n 500)) hL hLl (pathsN n 500) []
  have hc := fun π => e_Critical (π := π) l n m hv ats ha hat ((pathsN n 500).filter (isUsedN l n)) (fun p hp => hL p ((List.mem_filter.1 hp).1)) (by have := List.length_filter_le (isUsedN l n) (pathsN n 500); omega)
  generalize alongN n (delaysN l n m) ats = w at *
  generalize (pathsN n 500).filter (isUsedN l n) = F at *
  generalize pathsN n 500 = L at *
  simp [e_ratchetref28_True, run_eq, c_ratchetref28_True, ep, thaw, thaw1, freeze, evRO]
  rw [hlp _ rfl (by simp)]
  simp [hc, freeze, evRO]

theorem e_TrueErr (l : List Cell) (n : Net) (m : Model) (hv : Valid l n m) : EE π n_ratchetref28_TrueErr [.p (encNet n)] [] = some (.p (I (firstE [unlE (decide (n.leaves ≤ 10)) 8, unlE (decide ((pathsN n 500).length ≤ 500)) 8])), []) := by
  have ep : ∀ π : Id, EE π n_ratchetref28_Paths [.p (encNet n), .p (I 500)] [] = some (.ap (1005 :: π), [rowL (1005 :: π) (flagE (pathsN n 500)) (pathsN n 500)]) := fun π => e_Paths (π := π) l n m hv 500 (by omega)
  have hb := fun π => e_BitsErr (π := π) n
  generalize pathsN n 500 = L at *
  by_cases h10 : n.leaves ≤ 10
  · by_cases hl : L.length ≤ 500
    · have hl' : ¬ (500 : Int) < L.length := by omega
      simp [e_ratchetref28_TrueErr, run_eq, c_ratchetref28_TrueErr, hb, ep, h10, hl, hl', unlE, firstE, freeze, evRO]
    · have hl' : (500 : Int) < L.length := by omega
      simp [e_ratchetref28_TrueErr, run_eq, c_ratchetref28_TrueErr, hb, ep, h10, hl, hl', unlE, firstE, freeze, evRO]
  · simp [e_ratchetref28_TrueErr, run_eq, c_ratchetref28_TrueErr, hb, h10, unlE, firstE, freeze, evRO]

end Go.Proofs.YtafomlbikcphgabGreat.V

/- The law TimingUses, in the evaluator. -/
namespace Go.Proofs.YtafomlbikcphgabGreat.V
open Go (IntKind BinOp UnOp)
variable {π ρ κ : Id}

def encVis (w : List Int → Int) : Option (List Int) → Option (List Int) × Int
  | none => (none, -1)
  | some p => (some p, w p)
theorem fold_crit (w : List Int → Int) (l : List Cell) (n : Net) : ∀ (L : List (List Int)) (b : Option (List Int)), (∀ q ∈ L, 0 ≤ w q) → foldU w (usedAtN l n) L (encVis w b) = encVis w (critLG w (L.filter (isUsedN l n)) b)
  | [], b, _ => by simp [critLG]
  | q :: r, b, h => by
    have ih := fun b => fold_crit w l n r b (fun q hq => h q (List.mem_cons_of_mem _ hq))
    have hq := h q (List.mem_cons_self ..)
    simp only [foldU, List.foldl_cons] at ih ⊢
    rw [List.filter_cons]
    cases hu : usedAtN l n q with
    | none =>
      have h1 : isUsedN l n q = false := by unfold isUsedN; rw [hu]; rfl
      have h2 : visitU w (usedAtN l n) (encVis w b) q = encVis w b := by unfold visitU; rw [if_neg (fun h => h.2 hu)]
      rw [h1, h2, ih b]
      simp
    | some u =>
      have h1 : isUsedN l n q = true := by unfold isUsedN; rw [hu]; rfl
      rw [h1]
      simp only [if_true]
      cases b with
      | none =>
        have h2 : visitU w (usedAtN l n) (encVis w none) q = encVis w (some q) := by unfold visitU; rw [if_pos ⟨by simp only [encVis]; omega, by rw [hu]; simp⟩]; rfl
        rw [h2, ih (some q)]
        rfl
      | some c =>
        simp only [critLG]
        rw [← ih]
        congr 1
        unfold visitU
        simp only [encVis, hu]
        by_cases hc : w c < w q
        · rw [if_pos ⟨hc, by simp⟩, if_pos hc]
        · rw [if_neg (fun h => hc h.1), if_neg hc]

theorem crit_max (w : List Int → Int) : ∀ (L : List (List Int)) (b : Option (List Int)) (c : List Int), critLG w L b = some c → (∀ q ∈ L, w q ≤ w c) ∧ ∀ b', b = some b' → w b' ≤ w c
  | [], b, c, h => ⟨by simp, fun b' hb => by simp only [critLG] at h; rw [h] at hb; cases hb; exact Int.le_refl _⟩
  | q :: r, none, c, h => by
    simp only [critLG] at h
    obtain ⟨h1, h2⟩ := crit_max w r (some q) c h
    refine ⟨fun x hx => ?_, fun b' hb => by cases hb⟩
    rcases List.mem_cons.1 hx with rfl | hx
    · exact h2 _ rfl
    · exact h1 x hx
  | q :: r, some b, c, h => by
    simp only [critLG] at h
    by_cases hc : w b < w q
    · rw [if_pos hc] at h
      obtain ⟨h1, h2⟩ := crit_max w r (some q) c h
      have hq := h2 q rfl
      refine ⟨fun x hx => ?_, fun b' hb => by cases hb; omega⟩
      rcases List.mem_cons.1 hx with rfl | hx
      · exact hq
      · exact h1 x hx
    · rw [if_neg hc] at h
      obtain ⟨h1, h2⟩ := crit_max w r (some b) c h
      have hb := h2 b rfl
      refine ⟨fun x hx => ?_, fun b' hb' => by cases hb'; exact hb⟩
      rcases List.mem_cons.1 hx with rfl | hx
      · omega
      · exact h1 x hx

theorem crit_some (w : List Int → Int) : ∀ (L : List (List Int)) (b : List Int), ∃ c, critLG w L (some b) = some c
  | [], b => ⟨b, rfl⟩
  | q :: r, b => by
    simp only [critLG]
    split <;> exact crit_some w r _
theorem crit_ex {w : List Int → Int} {L : List (List Int)} {q : List Int} (h : q ∈ L) : ∃ c, critLG w L none = some c := by
  cases L with
  | nil => cases h
  | cons a r => exact crit_some w r a

theorem along_ge (n : Net) (D ats path : List Int) (hD : ∀ i, 0 ≤ D.getD i 0 ∧ D.getD i 0 ≤ 25400) (hat : ∀ v ∈ ats, 0 ≤ v ∧ v ≤ 1000000) : 0 ≤ alongN n D ats path := by
  unfold alongN
  refine (sumD_in n.leaves D hD _ _ ?_).1
  rw [List.getD]
  cases hx : ats[(path.headD 0).toNat]? with
  | none => simp
  | some v => exact (hat v (List.mem_of_getElem? hx)).1

theorem e_lightU (l : List Cell) (n : Net) (m : Model) : EE π n_ratchetlaw28_light [.p (.agg (circ l n m))] [] = some (.p (.bool (decide ((n.placed.length : Int) ≤ 9))), []) := by
  simp [e_ratchetlaw28_light, run_eq, c_ratchetlaw28_light]

theorem uses_big (l : List Cell) (n : Net) (m : Model) (ats path : List Int) (haw : Awake [23]) (hbig : ¬ (fewB l n = true ∧ ats.length ≤ 42 ∧ path.length ≤ 12)) :
    EE [] n_ratchetlaw28_TimingUses [.p (.agg (circ l n m)), .p (encInts ats), .p (encInts path)] [] = some (.p (.bool true), []) := by
  have hf := fun π => e_Few (π := π) l n m
  by_cases h1 : fewB l n = true
  · rw [h1] at hf
    by_cases h2 : ats.length ≤ 42
    · have h2' : ¬ (42 : Int) < ats.length := by omega
      have h3' : (12 : Int) < path.length := by
        have : ¬ path.length ≤ 12 := fun h => hbig ⟨h1, h2, h⟩
        omega
      simp [e_ratchetlaw28_TimingUses, run_eq, c_ratchetlaw28_TimingUses, haw, hf, h2', h3']
    · have h2' : (42 : Int) < ats.length := by omega
      simp [e_ratchetlaw28_TimingUses, run_eq, c_ratchetlaw28_TimingUses, haw, hf, h2']
  · have h1 : fewB l n = false := by simpa using h1
    rw [h1] at hf
    simp [e_ratchetlaw28_TimingUses, run_eq, c_ratchetlaw28_TimingUses, haw, hf]

theorem uses_badnet (l : List Cell) (n : Net) (m : Model) (ats path : List Int) (hok : netOk l n) (haw : Awake [23]) (hfew : fewB l n = true) (h42 : ats.length ≤ 42) (h12 : path.length ≤ 12) (he : netE28 l n ≠ 0) :
    EE [] n_ratchetlaw28_TimingUses [.p (.agg (circ l n m)), .p (encInts ats), .p (encInts path)] [] = some (.p (.bool true), []) := by
  have hf := fun π => e_Few (π := π) l n m
  rw [hfew] at hf
  have h42' : ¬ (42 : Int) < ats.length := by omega
  have h12' : ¬ (12 : Int) < path.length := by omega
  have hc := fun π => e_copied (π := π) l n m hfew
  have hca := fun π => e_CopyInts (π := π) (ints ats) (by simp only [room, List.length_map]; omega)
  have hcd := fun π => e_CopyInts (π := π) (ints path) (by simp only [room, List.length_map]; omega)
  have ea := fun π => e_AllErr (π := π) l n m hok
  have en := fun π => e_NetErr28 (π := π) l n hok
  have e2 : allE l n m = netE28 l n := by unfold allE; simp [firstE, he]
  have e1 : errA l n m ats = netE28 l n := by unfold errA; simp [firstE, e2, he]
  have e3 : errU l n path = netE28 l n := by unfold errU; simp [firstE, he]
  have eu := fun π => e_UsedAt_err (π := π) l n hok path (by omega) (by rw [e3]; exact he)
  have et := fun π => e_TruePath_err (π := π) l n m hok ats (by simp only [top63]; omega) (by rw [e1]; exact he)
  rw [e3] at eu
  rw [e1] at et
  rw [e2] at ea
  generalize netE28 l n = c at *
  simp [e_ratchetlaw28_TimingUses, run_eq, c_ratchetlaw28_TimingUses, haw, hf, h42', h12', hc, hca, hcd, ea, en, eu, et, he, freeze, evRO, w64z]

theorem firstU_len {l : List Cell} {n : Net} {path q : List Int} (h : usedAtN l n path = some q) : q.length = n.leaves.toNat := by
  have key : ∀ (j k : Nat), firstU l n path n.leaves.toNat j k = some q → q.length = n.leaves.toNat := by
    intro j
    induction j with
    | zero => intro k h; simp [firstU] at h
    | succ j ih =>
      intro k h
      simp only [firstU] at h
      split at h
      · simp at h; rw [← h, bitsK_len]
      · exact ih _ h
  exact key _ _ h

theorem uses_mid (l : List Cell) (n : Net) (m : Model) (ats path : List Int) (hok : netOk l n) (haw : Awake [23]) (hfew : fewB l n = true) (h42 : ats.length ≤ 42) (h12 : path.length ≤ 12) (hn : netE28 l n = 0) (hA : allE l n m ≠ 0) (hm6 : 6 < n.leaves ∧ n.leaves ≤ 10) :
    EE [] n_ratchetlaw28_TimingUses [.p (.agg (circ l n m)), .p (encInts ats), .p (encInts path)] [] = some (.p (.bool true), []) := by
  have hf := fun π => e_Few (π := π) l n m
  rw [hfew] at hf
  have h42' : ¬ (42 : Int) < ats.length := by omega
  have h12' : ¬ (12 : Int) < path.length := by omega
  have hc := fun π => e_copied (π := π) l n m hfew
  have hca := fun π => e_CopyInts (π := π) (ints ats) (by simp only [room, List.length_map]; omega)
  have hcd := fun π => e_CopyInts (π := π) (ints path) (by simp only [room, List.length_map]; omega)
  have ea := fun π => e_AllErr (π := π) l n m hok
  have en := fun π => e_NetErr28 (π := π) l n hok
  obtain ⟨hnv, hva⟩ := netV_of hn
  have epe := fun π => e_PathErr (π := π) l n _ hva path (by omega)
  have ebe := fun π => e_BitsErr (π := π) n
  have eq : errU l n path = firstE [pathE n path, unlE (decide (n.leaves ≤ 10)) 8] := by unfold errU; rw [if_pos hn]; simp [firstE, hn]
  rw [hn] at en
  have e1 : errA l n m ats = allE l n m := by unfold errA; simp [firstE, hA]
  have et := fun π => e_TruePath_err (π := π) l n m hok ats (by simp only [top63]; omega) (by rw [e1]; exact hA)
  rw [e1] at et
  obtain ⟨h6, h10⟩ := hm6
  generalize allE l n m = c at *
  by_cases e0 : errU l n path = 0
  · have eu := fun π => e_UsedAt_ok (π := π) l n hok path (by omega) e0
    generalize usedAtN l n path = r at *
    cases r <;> simp [e_ratchetlaw28_TimingUses, run_eq, c_ratchetlaw28_TimingUses, haw, hf, h42', h12', hc, hca, hcd, ea, en, eu, et, hA, h6, h10, freeze, evRO, w64z]
  · have eu := fun π => e_UsedAt_err (π := π) l n hok path (by omega) e0
    generalize errU l n path = r at *
    simp [e_ratchetlaw28_TimingUses, run_eq, c_ratchetlaw28_TimingUses, haw, hf, h42', h12', hc, hca, hcd, ea, en, eu, et, hA, h6, h10, freeze, evRO, w64z]

theorem uses_badmodel (l : List Cell) (n : Net) (m : Model) (ats path : List Int) (hok : netOk l n) (haw : Awake [23]) (hfew : fewB l n = true) (h42 : ats.length ≤ 42) (h12 : path.length ≤ 12) (hn : netE28 l n = 0) (hA : allE l n m ≠ 0) (hm6 : ¬ (6 < n.leaves ∧ n.leaves ≤ 10)) :
    EE [] n_ratchetlaw28_TimingUses [.p (.agg (circ l n m)), .p (encInts ats), .p (encInts path)] [] = some (.p (.bool true), []) := by
  have hf := fun π => e_Few (π := π) l n m
  rw [hfew] at hf
  have h42' : ¬ (42 : Int) < ats.length := by omega
  have h12' : ¬ (12 : Int) < path.length := by omega
  have hc := fun π => e_copied (π := π) l n m hfew
  have hca := fun π => e_CopyInts (π := π) (ints ats) (by simp only [room, List.length_map]; omega)
  have hcd := fun π => e_CopyInts (π := π) (ints path) (by simp only [room, List.length_map]; omega)
  have ea := fun π => e_AllErr (π := π) l n m hok
  have en := fun π => e_NetErr28 (π := π) l n hok
  obtain ⟨hnv, hva⟩ := netV_of hn
  have epe := fun π => e_PathErr (π := π) l n _ hva path (by omega)
  have ebe := fun π => e_BitsErr (π := π) n
  have eq : errU l n path = firstE [pathE n path, unlE (decide (n.leaves ≤ 10)) 8] := by unfold errU; rw [if_pos hn]; simp [firstE, hn]
  rw [hn] at en
  have e1 : errA l n m ats = allE l n m := by unfold errA; simp [firstE, hA]
  have et := fun π => e_TruePath_err (π := π) l n m hok ats (by simp only [top63]; omega) (by rw [e1]; exact hA)
  rw [e1] at et
  have hmid : 6 < n.leaves → ¬ n.leaves ≤ 10 := fun h1 h2 => hm6 ⟨h1, h2⟩
  generalize allE l n m = c at *
  by_cases hp : pathE n path = 0
  · by_cases h10 : n.leaves ≤ 10
    · have h6 : ¬ 6 < n.leaves := fun h => hmid h h10
      have e0 : errU l n path = 0 := by rw [eq]; simp [firstE, unlE, hp, h10]
      have eu := fun π => e_UsedAt_ok (π := π) l n hok path (by omega) e0
      have eur := fun π => e_UsedAtR (π := π) l n hnv h10 path (pathIn_of (by omega) hp)
      rw [hp] at epe
      cases hu : usedAtN l n path with
      | none =>
        simp only [hu] at eu eur
        simp [e_ratchetlaw28_TimingUses, run_eq, c_ratchetlaw28_TimingUses, haw, hf, h42', h12', hc, hca, hcd, ea, en, eu, epe, ebe, unlE, et, hA, eur, h10, h6, freeze, evRO, w64z]
      | some q =>
        simp only [hu] at eu eur
        have eqq := fun π => e_Ints (π := π) q q (by have := firstU_len hu; simp only [top63]; omega)
        simp [e_ratchetlaw28_TimingUses, run_eq, c_ratchetlaw28_TimingUses, haw, hf, h42', h12', hc, hca, hcd, ea, en, eu, epe, ebe, unlE, et, hA, eur, eqq, h10, h6, freeze, evRO, w64z]
    · have h6 : 6 < n.leaves := by omega
      have e0 : errU l n path = 8 := by rw [eq]; simp [firstE, unlE, hp, h10]
      have eu := fun π => e_UsedAt_err (π := π) l n hok path (by omega) (by rw [e0]; decide)
      rw [e0] at eu
      rw [hp] at epe
      simp [e_ratchetlaw28_TimingUses, run_eq, c_ratchetlaw28_TimingUses, haw, hf, h42', h12', hc, hca, hcd, ea, en, eu, epe, ebe, unlE, et, hA, h10, h6, freeze, evRO, w64z]
  · have e0 : errU l n path = pathE n path := by rw [eq]; simp [firstE, hp]
    have eu := fun π => e_UsedAt_err (π := π) l n hok path (by omega) (by rw [e0]; exact hp)
    rw [e0] at eu
    generalize pathE n path = pe at *
    by_cases h6 : 6 < n.leaves
    · have h10 := hmid h6
      simp [e_ratchetlaw28_TimingUses, run_eq, c_ratchetlaw28_TimingUses, haw, hf, h42', h12', hc, hca, hcd, ea, en, eu, epe, ebe, unlE, et, hA, h10, h6, hp, freeze, evRO, w64z]
    · have h10 : n.leaves ≤ 10 := by omega
      simp [e_ratchetlaw28_TimingUses, run_eq, c_ratchetlaw28_TimingUses, haw, hf, h42', h12', hc, hca, hcd, ea, en, eu, epe, ebe, unlE, et, hA, h6, hp, freeze, evRO, w64z]

theorem uses_many (l : List Cell) (n : Net) (m : Model) (ats path : List Int) (hok : netOk l n) (haw : Awake [23]) (hfew : fewB l n = true) (h42 : ats.length ≤ 42) (h12 : path.length ≤ 12) (hA : allE l n m = 0) (hmany : ¬ (n.placed.length ≤ 9 ∧ ¬ (6 < n.leaves ∧ n.leaves ≤ 10) ∧ (pathsN n 60).length ≤ 60)) :
    EE [] n_ratchetlaw28_TimingUses [.p (.agg (circ l n m)), .p (encInts ats), .p (encInts path)] [] = some (.p (.bool true), []) := by
  have hf := fun π => e_Few (π := π) l n m
  rw [hfew] at hf
  have h42' : ¬ (42 : Int) < ats.length := by omega
  have h12' : ¬ (12 : Int) < path.length := by omega
  have hc := fun π => e_copied (π := π) l n m hfew
  have hca := fun π => e_CopyInts (π := π) (ints ats) (by simp only [room, List.length_map]; omega)
  have hcd := fun π => e_CopyInts (π := π) (ints path) (by simp only [room, List.length_map]; omega)
  have ea := fun π => e_AllErr (π := π) l n m hok
  have en := fun π => e_NetErr28 (π := π) l n hok
  have hv := valid_of hA
  have ep : ∀ π : Id, EE π n_ratchetref28_Paths [.p (encNet n), .p (I 60)] [] = some (.ap (1005 :: π), [rowL (1005 :: π) (flagE (pathsN n 60)) (pathsN n 60)]) := fun π => e_Paths (π := π) l n m hv 60 (by omega)
  have el := fun π => e_lightU (π := π) l n m
  rw [hA] at ea
  by_cases h9 : n.placed.length ≤ 9
  · have h9' : (n.placed.length : Int) ≤ 9 := by omega
    by_cases h6 : 6 < n.leaves
    · by_cases h10 : n.leaves ≤ 10
      · simp [e_ratchetlaw28_TimingUses, run_eq, c_ratchetlaw28_TimingUses, haw, hf, h42', h12', hc, hca, hcd, ea, en, el, h9, h9', h6, h10, freeze, evRO, w64z]
      · have hp : (60 : Int) < (pathsN n 60).length := by
          have : ¬ (pathsN n 60).length ≤ 60 := fun h => hmany ⟨h9, fun h' => h10 h'.2, h⟩
          omega
        generalize pathsN n 60 = L at *
        simp [e_ratchetlaw28_TimingUses, run_eq, c_ratchetlaw28_TimingUses, haw, hf, h42', h12', hc, hca, hcd, ea, en, el, ep, hp, h9, h9', h6, h10, freeze, evRO, w64z]
    · have hp : (60 : Int) < (pathsN n 60).length := by
        have : ¬ (pathsN n 60).length ≤ 60 := fun h => hmany ⟨h9, fun h' => h6 h'.1, h⟩
        omega
      generalize pathsN n 60 = L at *
      simp [e_ratchetlaw28_TimingUses, run_eq, c_ratchetlaw28_TimingUses, haw, hf, h42', h12', hc, hca, hcd, ea, en, el, ep, hp, h9, h9', h6, freeze, evRO, w64z]
  · have h9' : ¬ (n.placed.length : Int) ≤ 9 := by omega
    simp [e_ratchetlaw28_TimingUses, run_eq, c_ratchetlaw28_TimingUses, haw, hf, h42', h12', hc, hca, hcd, ea, en, el, h9, h9', freeze, evRO, w64z]

theorem uses_times (l : List Cell) (n : Net) (m : Model) (ats path : List Int) (hok : netOk l n) (haw : Awake [23]) (hfew : fewB l n = true) (h42 : ats.length ≤ 42) (h12 : path.length ≤ 12) (hA : allE l n m = 0) (h9 : n.placed.length ≤ 9) (hm6 : ¬ (6 < n.leaves ∧ n.leaves ≤ 10)) (hpl : (pathsN n 60).length ≤ 60) (hT : timesE ats n.leaves ≠ 0) :
    EE [] n_ratchetlaw28_TimingUses [.p (.agg (circ l n m)), .p (encInts ats), .p (encInts path)] [] = some (.p (.bool true), []) := by
  have hf := fun π => e_Few (π := π) l n m
  rw [hfew] at hf
  have h42' : ¬ (42 : Int) < ats.length := by omega
  have h12' : ¬ (12 : Int) < path.length := by omega
  have hc := fun π => e_copied (π := π) l n m hfew
  have hca := fun π => e_CopyInts (π := π) (ints ats) (by simp only [room, List.length_map]; omega)
  have hcd := fun π => e_CopyInts (π := π) (ints path) (by simp only [room, List.length_map]; omega)
  have ea := fun π => e_AllErr (π := π) l n m hok
  have en := fun π => e_NetErr28 (π := π) l n hok
  have hn : netE28 l n = 0 := by
    have h := hA
    unfold allE at h
    rw [firstE_cons] at h
    exact h.1
  have hv := valid_of hA
  have ep : ∀ π : Id, EE π n_ratchetref28_Paths [.p (encNet n), .p (I 60)] [] = some (.ap (1005 :: π), [rowL (1005 :: π) (flagE (pathsN n 60)) (pathsN n 60)]) := fun π => e_Paths (π := π) l n m hv 60 (by omega)
  have el := fun π => e_lightU (π := π) l n m
  have h9' : (n.placed.length : Int) ≤ 9 := by omega
  have hmid : 6 < n.leaves → ¬ n.leaves ≤ 10 := fun h1 h2 => hm6 ⟨h1, h2⟩
  have hpl' : ¬ (60 : Int) < (pathsN n 60).length := by omega
  have eta := fun π => e_TimesErr (π := π) ats (by simp only [top63]; omega) n.leaves
  rw [hA] at ea
  obtain ⟨hnv, hva⟩ := netV_of hn
  have epe := fun π => e_PathErr (π := π) l n _ hva path (by omega)
  have ebe := fun π => e_BitsErr (π := π) n
  have eq : errU l n path = firstE [pathE n path, unlE (decide (n.leaves ≤ 10)) 8] := by unfold errU; rw [if_pos hn]; simp [firstE, hn]
  rw [hn] at en
  have e1 : errA l n m ats = timesE ats n.leaves := by unfold errA; simp [firstE, hA, hT]
  have et := fun π => e_TruePath_err (π := π) l n m hok ats (by simp only [top63]; omega) (by rw [e1]; exact hT)
  rw [e1] at et
  generalize timesE ats n.leaves = c at *
  by_cases hp : pathE n path = 0
  · by_cases h10 : n.leaves ≤ 10
    · have h6 : ¬ 6 < n.leaves := fun h => hmid h h10
      have e0 : errU l n path = 0 := by rw [eq]; simp [firstE, unlE, hp, h10]
      have eu := fun π => e_UsedAt_ok (π := π) l n hok path (by omega) e0
      have eur := fun π => e_UsedAtR (π := π) l n hnv h10 path (pathIn_of (by omega) hp)
      rw [hp] at epe
      generalize pathsN n 60 = L at *
      cases hu : usedAtN l n path with
      | none =>
        simp only [hu] at eu eur
        simp [e_ratchetlaw28_TimingUses, run_eq, c_ratchetlaw28_TimingUses, haw, hf, h42', h12', hc, hca, hcd, ea, en, eu, epe, ebe, unlE, et, el, ep, eta, hT, h9, h9', hpl', eur, h10, h6, freeze, evRO, w64z]
      | some q =>
        simp only [hu] at eu eur
        have eqq := fun π => e_Ints (π := π) q q (by have := firstU_len hu; simp only [top63]; omega)
        simp [e_ratchetlaw28_TimingUses, run_eq, c_ratchetlaw28_TimingUses, haw, hf, h42', h12', hc, hca, hcd, ea, en, eu, epe, ebe, unlE, et, el, ep, eta, hT, h9, h9', hpl', eur, eqq, h10, h6, freeze, evRO, w64z]
    · have h6 : 6 < n.leaves := by omega
      have e0 : errU l n path = 8 := by rw [eq]; simp [firstE, unlE, hp, h10]
      have eu := fun π => e_UsedAt_err (π := π) l n hok path (by omega) (by rw [e0]; decide)
      rw [e0] at eu
      rw [hp] at epe
      generalize pathsN n 60 = L at *
      simp [e_ratchetlaw28_TimingUses, run_eq, c_ratchetlaw28_TimingUses, haw, hf, h42', h12', hc, hca, hcd, ea, en, eu, epe, ebe, unlE, et, el, ep, eta, hT, h9, h9', hpl', h10, h6, freeze, evRO, w64z]
  · have e0 : errU l n path = pathE n path := by rw [eq]; simp [firstE, hp]
    have eu := fun π => e_UsedAt_err (π := π) l n hok path (by omega) (by rw [e0]; exact hp)
    rw [e0] at eu
    generalize pathsN n 60 = L at *
    generalize pathE n path = pe at *
    by_cases h6 : 6 < n.leaves
    · have h10 := hmid h6
      simp [e_ratchetlaw28_TimingUses, run_eq, c_ratchetlaw28_TimingUses, haw, hf, h42', h12', hc, hca, hcd, ea, en, eu, epe, ebe, unlE, et, el, ep, eta, hT, h9, h9', hpl', h10, h6, hp, freeze, evRO, w64z]
    · have h10 : n.leaves ≤ 10 := by omega
      simp [e_ratchetlaw28_TimingUses, run_eq, c_ratchetlaw28_TimingUses, haw, hf, h42', h12', hc, hca, hcd, ea, en, eu, epe, ebe, unlE, et, el, ep, eta, hT, h9, h9', hpl', h6, hp, freeze, evRO, w64z]

theorem uses_large (l : List Cell) (n : Net) (m : Model) (ats path : List Int) (hok : netOk l n) (haw : Awake [23]) (hfew : fewB l n = true) (h42 : ats.length ≤ 42) (h12 : path.length ≤ 12) (hA : allE l n m = 0) (h9 : n.placed.length ≤ 9) (hm6 : ¬ (6 < n.leaves ∧ n.leaves ≤ 10)) (hpl : (pathsN n 60).length ≤ 60) (hT : timesE ats n.leaves = 0) (h10 : ¬ n.leaves ≤ 10) :
    EE [] n_ratchetlaw28_TimingUses [.p (.agg (circ l n m)), .p (encInts ats), .p (encInts path)] [] = some (.p (.bool true), []) := by
  have hf := fun π => e_Few (π := π) l n m
  rw [hfew] at hf
  have h42' : ¬ (42 : Int) < ats.length := by omega
  have h12' : ¬ (12 : Int) < path.length := by omega
  have hc := fun π => e_copied (π := π) l n m hfew
  have hca := fun π => e_CopyInts (π := π) (ints ats) (by simp only [room, List.length_map]; omega)
  have hcd := fun π => e_CopyInts (π := π) (ints path) (by simp only [room, List.length_map]; omega)
  have ea := fun π => e_AllErr (π := π) l n m hok
  have en := fun π => e_NetErr28 (π := π) l n hok
  have hn : netE28 l n = 0 := by
    have h := hA
    unfold allE at h
    rw [firstE_cons] at h
    exact h.1
  have hv := valid_of hA
  have ep : ∀ π : Id, EE π n_ratchetref28_Paths [.p (encNet n), .p (I 60)] [] = some (.ap (1005 :: π), [rowL (1005 :: π) (flagE (pathsN n 60)) (pathsN n 60)]) := fun π => e_Paths (π := π) l n m hv 60 (by omega)
  have el := fun π => e_lightU (π := π) l n m
  have h9' : (n.placed.length : Int) ≤ 9 := by omega
  have hmid : 6 < n.leaves → ¬ n.leaves ≤ 10 := fun h1 h2 => hm6 ⟨h1, h2⟩
  have hpl' : ¬ (60 : Int) < (pathsN n 60).length := by omega
  have eta := fun π => e_TimesErr (π := π) ats (by simp only [top63]; omega) n.leaves
  rw [hA] at ea
  obtain ⟨hnv, hva⟩ := netV_of hn
  have epe := fun π => e_PathErr (π := π) l n _ hva path (by omega)
  have ebe := fun π => e_BitsErr (π := π) n
  have eq : errU l n path = firstE [pathE n path, unlE (decide (n.leaves ≤ 10)) 8] := by unfold errU; rw [if_pos hn]; simp [firstE, hn]
  rw [hn] at en
  have e1 : errA l n m ats = 0 := by unfold errA; simp [firstE, hA, hT]
  have et := fun π => e_TruePath_large (π := π) l n m hok ats (by simp only [top63]; omega) e1 h10
  have h6 : 6 < n.leaves := by omega
  have ete := fun π => e_TrueErr (π := π) l n m hv
  rw [show firstE [unlE (decide (n.leaves ≤ 10)) 8, unlE (decide ((pathsN n 500).length ≤ 500)) 8] = 8 by simp [firstE, unlE, h10]] at ete
  rw [hT] at eta
  by_cases hp : pathE n path = 0
  · have e0 : errU l n path = 8 := by rw [eq]; simp [firstE, unlE, hp, h10]
    have eu := fun π => e_UsedAt_err (π := π) l n hok path (by omega) (by rw [e0]; decide)
    rw [e0] at eu
    rw [hp] at epe
    generalize pathsN n 60 = L at *
    simp [e_ratchetlaw28_TimingUses, run_eq, c_ratchetlaw28_TimingUses, haw, hf, h42', h12', hc, hca, hcd, ea, en, eu, epe, ebe, unlE, et, ete, el, ep, eta, h9, h9', hpl', h10, h6, freeze, evRO, w64z]
  · have e0 : errU l n path = pathE n path := by rw [eq]; simp [firstE, hp]
    have eu := fun π => e_UsedAt_err (π := π) l n hok path (by omega) (by rw [e0]; exact hp)
    rw [e0] at eu
    generalize pathE n path = pe at *
    generalize pathsN n 60 = L at *
    simp [e_ratchetlaw28_TimingUses, run_eq, c_ratchetlaw28_TimingUses, haw, hf, h42', h12', hc, hca, hcd, ea, en, eu, epe, ebe, unlE, et, ete, el, ep, eta, hp, h9, h9', hpl', h10, h6, freeze, evRO, w64z]

set_option maxHeartbeats 2000000 in
theorem uses_true (l : List Cell) (n : Net) (m : Model) (ats path : List Int) (hok : netOk l n) (haw : Awake [23]) (hfew : fewB l n = true) (h42 : ats.length ≤ 42) (h12 : path.length ≤ 12) (hA : allE l n m = 0) (h9 : n.placed.length ≤ 9) (hm6 : ¬ (6 < n.leaves ∧ n.leaves ≤ 10)) (hpl : (pathsN n 60).length ≤ 60) (hT : timesE ats n.leaves = 0) (h6x : n.leaves ≤ 6) :
    EE [] n_ratchetlaw28_TimingUses [.p (.agg (circ l n m)), .p (encInts ats), .p (encInts path)] [] = some (.p (.bool true), []) := by
  have hf := fun π => e_Few (π := π) l n m
  rw [hfew] at hf
  have h42' : ¬ (42 : Int) < ats.length := by omega
  have h12' : ¬ (12 : Int) < path.length := by omega
  have hc := fun π => e_copied (π := π) l n m hfew
  have hca := fun π => e_CopyInts (π := π) (ints ats) (by simp only [room, List.length_map]; omega)
  have hcd := fun π => e_CopyInts (π := π) (ints path) (by simp only [room, List.length_map]; omega)
  have ea := fun π => e_AllErr (π := π) l n m hok
  have en := fun π => e_NetErr28 (π := π) l n hok
  have hn : netE28 l n = 0 := by
    have h := hA
    unfold allE at h
    rw [firstE_cons] at h
    exact h.1
  have hv := valid_of hA
  have ep : ∀ π : Id, EE π n_ratchetref28_Paths [.p (encNet n), .p (I 60)] [] = some (.ap (1005 :: π), [rowL (1005 :: π) (flagE (pathsN n 60)) (pathsN n 60)]) := fun π => e_Paths (π := π) l n m hv 60 (by omega)
  have el := fun π => e_lightU (π := π) l n m
  have h9' : (n.placed.length : Int) ≤ 9 := by omega
  have hmid : 6 < n.leaves → ¬ n.leaves ≤ 10 := fun h1 h2 => hm6 ⟨h1, h2⟩
  have hpl' : ¬ (60 : Int) < (pathsN n 60).length := by omega
  have eta := fun π => e_TimesErr (π := π) ats (by simp only [top63]; omega) n.leaves
  rw [hA] at ea
  obtain ⟨hnv, hva⟩ := netV_of hn
  have epe := fun π => e_PathErr (π := π) l n _ hva path (by omega)
  have ebe := fun π => e_BitsErr (π := π) n
  have eq : errU l n path = firstE [pathE n path, unlE (decide (n.leaves ≤ 10)) 8] := by unfold errU; rw [if_pos hn]; simp [firstE, hn]
  rw [hn] at en
  have e1 : errA l n m ats = 0 := by unfold errA; simp [firstE, hA, hT]
  obtain ⟨ht1, ht2⟩ := times_ok hT
  have hall : pathsN n 60 = allT n (n.leaves.toNat + n.placed.length) n.leaves.toNat 0 := paths_all hpl
  have h500 : pathsN n 500 = pathsN n 60 := by rw [hall]; exact paths_fits n 500 (by rw [← hall]; omega)
  have hcnt : cntS n (n.leaves.toNat + n.placed.length) ≤ 500 := by
    have := cnt_all n hv.lv0
    rw [← hall] at this
    omega
  have h10 : n.leaves ≤ 10 := by omega
  have et := fun π => e_TruePath_ok (π := π) l n m hok ats (by simp only [top63]; omega) e1 h10 hcnt
  have ete := fun π => e_TrueErr (π := π) l n m hv
  rw [show firstE [unlE (decide (n.leaves ≤ 10)) 8, unlE (decide ((pathsN n 500).length ≤ 500)) 8] = 0 by rw [h500]; simp [firstE, unlE, h10]; omega] at ete
  rw [hT] at eta
  have hgood := paths_good hv ht1 hpl
  have hpin : ∀ q ∈ pathsN n 60, PathIn n q := fun q hq => (hgood q hq).1.pathIn (hgood q hq).2
  have etr := fun π => e_True (π := π) l n m hv hnv h10 ats ht1 ht2 (by rw [h500]; exact hpin) (by rw [h500]; omega)
  rw [h500] at etr
  have ecr := fun π => e_Critical (π := π) l n m hv ats ht1 ht2 (pathsN n 60) hpin (by omega)
  have htb : trueB l n m ats = encVis (alongN n (delaysN l n m) ats) (critLG (alongN n (delaysN l n m) ats) ((pathsN n 60).filter (isUsedN l n)) none) := by
    rw [← fold_crit _ _ _ _ _ (fun q _ => along_ge n _ ats q hv.D_ge ht2)]
    unfold trueB
    rw [hall]
    rfl
  rw [htb] at et
  have hmx := crit_max (alongN n (delaysN l n m) ats) (pathsN n 60) none
  have hmem := critLG_mem (alongN n (delaysN l n m) ats) ((pathsN n 60).filter (isUsedN l n)) none
  have hmemc := critLG_mem (alongN n (delaysN l n m) ats) (pathsN n 60) none
  have hex := fun q => crit_ex (w := alongN n (delaysN l n m) ats) (L := pathsN n 60) (q := q)
  have edr := fun q hq π => e_DelayR (π := π) l n m hv ats q ht1 ht2 (hpin q hq)
  by_cases hp : pathE n path = 0
  · by_cases h10 : n.leaves ≤ 10
    · have h6 : ¬ 6 < n.leaves := fun h => hmid h h10
      have e0 : errU l n path = 0 := by rw [eq]; simp [firstE, unlE, hp, h10]
      have eu := fun π => e_UsedAt_ok (π := π) l n hok path (by omega) e0
      have eur := fun π => e_UsedAtR (π := π) l n hnv h10 path (pathIn_of (by omega) hp)
      rw [hp] at epe
      cases hu : usedAtN l n path with
      | none =>
        simp only [hu] at eu eur
        cases hk : critLG (alongN n (delaysN l n m) ats) ((pathsN n 60).filter (isUsedN l n)) none with
        | none =>
          rw [hk] at et etr
          simp only [encVis] at et
          generalize alongN n (delaysN l n m) ats = w at *
          generalize pathsN n 60 = L at *
          simp [e_ratchetlaw28_TimingUses, run_eq, c_ratchetlaw28_TimingUses, haw, hf, h42', h12', hc, hca, hcd, ea, en, eu, epe, ebe, unlE, etr, ete, el, ep, eta, h9, h9', hpl', eur, h10, h6, et, encBest, freeze, evRO, w64z]
        | some best =>
          rw [hk] at et etr
          simp only [encVis] at et
          have hb : best ∈ pathsN n 60 := by
            have := hmem best hk
            rcases this with h | h
            · exact (List.mem_filter.1 h).1
            · cases h
          obtain ⟨cr, hcr⟩ := hex best hb
          have hle := (hmx cr hcr).1 best hb
          have hcm : cr ∈ pathsN n 60 := by simpa using hmemc cr hcr
          have ed1 := edr best hb
          have ed2 := edr cr hcm
          have ei := fun π => e_Ints (π := π) best best (by have := (hgood _ hb).2; simp only [top63]; omega)
          rw [hcr] at ecr
          clear edr hex hmemc hmem hmx
          generalize alongN n (delaysN l n m) ats = w at *
          generalize pathsN n 60 = L at *
          simp [e_ratchetlaw28_TimingUses, run_eq, c_ratchetlaw28_TimingUses, haw, hf, h42', h12', hc, hca, hcd, ea, en, eu, epe, ebe, unlE, etr, ete, el, ep, eta, h9, h9', hpl', eur, h10, h6, et, ecr, ed1, ed2, ei, hle, encBest, freeze, evRO, w64z]
      | some q =>
        simp only [hu] at eu eur
        have eqq := fun π => e_Ints (π := π) q q (by have := firstU_len hu; simp only [top63]; omega)
        cases hk : critLG (alongN n (delaysN l n m) ats) ((pathsN n 60).filter (isUsedN l n)) none with
        | none =>
          rw [hk] at et etr
          simp only [encVis] at et
          generalize alongN n (delaysN l n m) ats = w at *
          generalize pathsN n 60 = L at *
          simp [e_ratchetlaw28_TimingUses, run_eq, c_ratchetlaw28_TimingUses, haw, hf, h42', h12', hc, hca, hcd, ea, en, eu, epe, ebe, unlE, etr, ete, el, ep, eta, h9, h9', hpl', eur, eqq, h10, h6, et, encBest, freeze, evRO, w64z]
        | some best =>
          rw [hk] at et etr
          simp only [encVis] at et
          have hb : best ∈ pathsN n 60 := by
            have := hmem best hk
            rcases this with h | h
            · exact (List.mem_filter.1 h).1
            · cases h
          obtain ⟨cr, hcr⟩ := hex best hb
          have hle := (hmx cr hcr).1 best hb
          have hcm : cr ∈ pathsN n 60 := by simpa using hmemc cr hcr
          have ed1 := edr best hb
          have ed2 := edr cr hcm
          have ei := fun π => e_Ints (π := π) best best (by have := (hgood _ hb).2; simp only [top63]; omega)
          rw [hcr] at ecr
          clear edr hex hmemc hmem hmx
          generalize alongN n (delaysN l n m) ats = w at *
          generalize pathsN n 60 = L at *
          simp [e_ratchetlaw28_TimingUses, run_eq, c_ratchetlaw28_TimingUses, haw, hf, h42', h12', hc, hca, hcd, ea, en, eu, epe, ebe, unlE, etr, ete, el, ep, eta, h9, h9', hpl', eur, eqq, h10, h6, et, ecr, ed1, ed2, ei, hle, encBest, freeze, evRO, w64z]
    · have h6 : 6 < n.leaves := by omega
      have e0 : errU l n path = 8 := by rw [eq]; simp [firstE, unlE, hp, h10]
      have eu := fun π => e_UsedAt_err (π := π) l n hok path (by omega) (by rw [e0]; decide)
      rw [e0] at eu
      rw [hp] at epe
      omega
  · have e0 : errU l n path = pathE n path := by rw [eq]; simp [firstE, hp]
    have eu := fun π => e_UsedAt_err (π := π) l n hok path (by omega) (by rw [e0]; exact hp)
    rw [e0] at eu
    generalize pathE n path = pe at *
    by_cases h6 : 6 < n.leaves
    · have h10 := hmid h6
      omega
    · have h10 : n.leaves ≤ 10 := by omega
      cases hk : critLG (alongN n (delaysN l n m) ats) ((pathsN n 60).filter (isUsedN l n)) none with
      | none =>
        rw [hk] at et etr
        simp only [encVis] at et
        generalize alongN n (delaysN l n m) ats = w at *
        generalize pathsN n 60 = L at *
        simp [e_ratchetlaw28_TimingUses, run_eq, c_ratchetlaw28_TimingUses, haw, hf, h42', h12', hc, hca, hcd, ea, en, eu, epe, ebe, unlE, etr, ete, el, ep, eta, h9, h9', hpl', h6, hp, et, encBest, freeze, evRO, w64z]
      | some best =>
        rw [hk] at et etr
        simp only [encVis] at et
        have hb : best ∈ pathsN n 60 := by
          have := hmem best hk
          rcases this with h | h
          · exact (List.mem_filter.1 h).1
          · cases h
        obtain ⟨cr, hcr⟩ := hex best hb
        have hle := (hmx cr hcr).1 best hb
        have hcm : cr ∈ pathsN n 60 := by simpa using hmemc cr hcr
        have ed1 := edr best hb
        have ed2 := edr cr hcm
        have ei := fun π => e_Ints (π := π) best best (by have := (hgood _ hb).2; simp only [top63]; omega)
        rw [hcr] at ecr
        clear edr hex hmemc hmem hmx
        generalize alongN n (delaysN l n m) ats = w at *
        generalize pathsN n 60 = L at *
        simp [e_ratchetlaw28_TimingUses, run_eq, c_ratchetlaw28_TimingUses, haw, hf, h42', h12', hc, hca, hcd, ea, en, eu, epe, ebe, unlE, etr, ete, el, ep, eta, h9, h9', hpl', h6, hp, et, ecr, ed1, ed2, ei, hle, encBest, freeze, evRO, w64z]

end Go.Proofs.YtafomlbikcphgabGreat.V
