/- Repeated times. Members, sources, ends. All paths, by the reference. The greatest delays from points to outputs. The critical path, by timing. Paths: their errors, their delays, the first one of the greatest delay (plain). Errors and delays of paths. Delays of paths; the reference's errors, delays a -/
import Derived.Test.YtafomlbikcphgabGreatS2

set_option linter.unusedSimpArgs false
set_option linter.unusedVariables false

/- Repeated times. -/
namespace Go.Proofs.YtafomlbikcphgabGreat.V
open Go (IntKind BinOp UnOp)
variable {π ρ : Id}

theorem wu64 {n : Int} (h : 0 ≤ n ∧ n ≤ 1000000000) : IntKind.u64.wrap n = n := Go.IntWalk.u64_in n ⟨by omega, by omega⟩
theorem mask32 (k : Nat) (hk : k ≤ 1000000) : ibits .and .u64 (k : Int) 4294967295 = some (k : Int) := by
  have e : ((BitVec.ofInt 64 (k : Int)) &&& BitVec.ofInt 64 4294967295).toNat = k := by
    rw [BitVec.toNat_and]
    have h1 : (BitVec.ofInt 64 (k : Int)).toNat = k := by simp [BitVec.toNat_ofInt]; omega
    have h2 : (BitVec.ofInt 64 4294967295).toNat = 2 ^ 32 - 1 := by decide
    rw [h1, h2, Nat.and_two_pow_sub_one_eq_mod]; omega
  show some (IntKind.u64.wrap (((BitVec.ofInt 64 (k : Int)) &&& BitVec.ofInt 64 4294967295).toNat : Int)) = _
  rw [e, wu64 ⟨by omega, by omega⟩]
theorem mask1 : ibits .and .u64 1 4294967295 = some 1 := by decide
theorem mask0 : ibits .and .u64 0 4294967295 = some 0 := by decide
theorem shr32 (k : Nat) (hk : k ≤ 1000000) : (k : Int).fdiv 4294967296 = 0 := by
  rw [Int.fdiv_eq_ediv_of_nonneg _ (by omega)]; omega

theorem e_Mul64 (k : Nat) (hk : k ≤ 1000000) : EE π n_bits_Mul64 [.p (.int .u64 1), .p (.int .u64 k)] [] = some (.p (.tup [.int .u64 0, .int .u64 k]), []) := by
  have hw := wu64 (n := (k : Int)) ⟨by omega, by omega⟩
  have h1 : (1 : Int).fdiv 4294967296 = 0 := by decide
  have h0 : (0 : Int).fdiv 4294967296 = 0 := by decide
  have hw0 := wu64 (n := 0) ⟨by omega, by omega⟩
  simp [e_bits_Mul64, run_eq, c_bits_Mul64, mask32 k hk, mask1, mask0, shr32 k hk, hw, h1, h0, hw0, IntKind.bits]
  done

theorem e_Mul (k : Nat) (hk : k ≤ 1000000) : EE π n_bits_Mul [.p (.int .u64 1), .p (.int .u64 k)] [] = some (.p (.tup [.int .u64 0, .int .u64 k]), []) := by
  simp [e_bits_Mul, run_eq, c_bits_Mul, e_Mul64 _ hk]

/-- The first ones are written. -/
def repL (v : Int) (k j : Nat) : List Int := List.replicate j v ++ List.replicate (k - j) 0
theorem repL_len {v : Int} {k j : Nat} (h : j ≤ k) : (repL v k j).length = k := by simp [repL]; omega
theorem repL_set {v : Int} {k j : Nat} (h : j ≤ k) : List.take j (ints (repL v k j)) ++ (List.take (k - j) (List.take j (ints (repL v k j))) ++ List.drop (j + min (k - j) j) (ints (repL v k j))) = ints (repL v k (j + min (k - j) j)) := by
  have e1 : (ints (repL v k j)).take j = ints (List.replicate j v) := by simp [repL]
  have e2 : (ints (repL v k j)).drop (j + min (k - j) j) = ints (List.replicate (k - (j + min (k - j) j)) 0) := by
    simp [repL, List.drop_append]; omega
  rw [e1, e2]
  simp [repL, ints, ← List.replicate_append_replicate]

theorem rep_loop (v : Int) (k : Nat) (hk : k ≤ 1000000) : ∀ (fuel j : Nat) (x : Env × Sto), k - j ≤ fuel → j ≤ k → (1 ≤ j ∨ k = 0) →
    mask [7, 8] [] x = some ([(7, .ap (30 :: π)), (8, .p (I j))], [rowI (30 :: π) (some false) (repL v k j)]) →
    kpO [7] [4] [] (bkO 0 (iter (round EE iter π [] [7, 8] c_slices_Repeat_int_int_L0) x)) = some (.nm, [(7, .ap (30 :: π))], [rowI (30 :: π) (some false) (List.replicate k v)]) := by
  intro fuel
  induction fuel with
  | zero =>
    intro j x hf hj h1 hm
    rw [loop_eq hm]
    have : j = k := by omega
    subst this
    have hl : (repL v j j).length = j := repL_len (Nat.le_refl _)
    have he : repL v j j = List.replicate j v := by simp [repL]
    generalize hR : repL v j j = R at *
    simp [u_slices_Repeat_int_int_L0, b_slices_Repeat_int_int_L0, hl, he]
  | succ f ih =>
    intro j x hf hj h1 hm
    rw [loop_eq hm]
    have hl : (repL v k j).length = k := repL_len hj
    by_cases hjk : j = k
    · subst hjk
      have he : repL v j j = List.replicate j v := by simp [repL]
      generalize hR : repL v j j = R at *
      simp [u_slices_Repeat_int_int_L0, b_slices_Repeat_int_int_L0, hl, he]
    · have hlt : (j : Int) < k := by omega
      have hset := repL_set (v := v) hj
      have hnext := ih (j + min (k - j) j)
      have hj0 : ¬ j = 0 := by omega
      have hkj : ¬ k ≤ j := by omega
      have hw : IntKind.i64.wrap ((j : Int) + ((min (k - j) j : Nat) : Int)) = (j : Int) + ((min (k - j) j : Nat) : Int) := w64 ⟨by omega, by omega⟩
      generalize hR : repL v k j = R at *
      generalize repL v k (j + min (k - j) j) = R' at *
      simp [u_slices_Repeat_int_int_L0, b_slices_Repeat_int_int_L0, hl, hlt, hj, hj0, hkj]
      exact hnext _ (by omega) (by omega) (by omega) (by simp [hset, hw])

theorem e_Repeat (v : Int) (k : Nat) (hk : k ≤ 1000000) : EE π n_slices_Repeat_int_int [.p (encInts [v]), .p (I k)] [] = some (.ap (30 :: π), [rowI (30 :: π) (some false) (List.replicate k v)]) := by
  have hw := wu64 (n := (k : Int)) ⟨by omega, by omega⟩
  have hw1 := wu64 (n := 1) ⟨by omega, by omega⟩
  have hw2 : IntKind.i64.wrap (k : Int) = k := w64 ⟨by omega, by omega⟩
  have hk0 : ¬ (k : Int) < 0 := by omega
  have hk9 : ¬ 9223372036854775807 < (k : Int) := by omega
  have hroom : k ≤ room := by simp only [room]; omega
  simp [e_slices_Repeat_int_int, run_eq, c_slices_Repeat_int_int, e_Mul _ hk, hw, hw1, hw2, hk0, hk9, hroom]
  by_cases h0 : k = 0
  · subst h0
    simp
    rw [rep_loop v 0 (by omega) 0 0 _ (by omega) (by omega) (by omega) (by simp [repL])]
    simp
  · have hm : min k 1 = 1 := by omega
    have ht : List.take k [I v] = [I v] := by rw [List.take_of_length_le]; simp; omega
    have hr : repL v k 1 = v :: List.replicate (k - 1) 0 := by simp [repL]
    simp [h0, hm, ht]
    rw [rep_loop v k hk k 1 _ (by omega) (by omega) (by omega) (by simp [hr])]
    simp

end Go.Proofs.YtafomlbikcphgabGreat.V

/- Members, sources, ends. -/
namespace Go.Proofs.YtafomlbikcphgabGreat.V
open Go (IntKind BinOp UnOp)
variable {π ρ κ : Id}

/-- Whether a number is in a list. -/
def memB (l : List Int) (x : Int) : Bool := l.any fun y => decide (x = y)
theorem memB_iff {l : List Int} {x : Int} : memB l x = true ↔ x ∈ l := by simp [memB]

theorem idx_loopX (l : List Int) (hl : l.length ≤ top63) (v : Int) : ∀ (suf pre : List Int) (x : Env × Sto), l = pre ++ suf → mask [0, 1, 7, 8] [] x = some ([(0, .p (encInts l)), (1, .p (I v)), (7, .p (I l.length)), (8, .p (I pre.length))], []) →
    kpO [] [4] [] (bkO 0 (iter (round EE iter π [] [0, 1, 7, 8] c_slices_Index_int_int_L0) x)) = (if idxOf (fun y => decide (v = y)) pre.length suf = -1 then some (.nm, [], []) else some (.rt, [(4, .p (I (idxOf (fun y => decide (v = y)) pre.length suf)))], []))
  | [], pre, x, h, hm => by
    rw [loop_eq hm]
    subst h
    simp [u_slices_Index_int_int_L0, b_slices_Index_int_int_L0, idxOf]
  | y :: suf, pre, x, h, hm => by
    rw [loop_eq hm]
    by_cases hpy : v = y
    · have : ¬ ((pre.length : Int) = -1) := by omega
      simp [u_slices_Index_int_int_L0, b_slices_Index_int_int_L0, lt_mid h, get_mid _ h, hpy, idxOf, this]
    · simp [u_slices_Index_int_int_L0, b_slices_Index_int_int_L0, lt_mid h, get_mid _ h, hpy, idxOf]
      rw [show pre.length + 1 = (pre ++ [y]).length by simp]
      exact idx_loopX l hl v suf (pre ++ [y]) _ (by simp [h]) (by simp [w_succ (show pre.length < l.length by have := lt_mid h; omega) hl])
theorem e_Index (l : List Int) (hl : l.length ≤ top63) (v : Int) : EE π n_slices_Index_int_int [.p (encInts l), .p (I v)] [] = some (.p (I (idxOf (fun y => decide (v = y)) 0 l)), []) := by
  simp [e_slices_Index_int_int, run_eq, c_slices_Index_int_int]
  rw [idx_loopX l hl v l [] _ rfl (by simp)]
  by_cases hz : idxOf (fun y => decide (v = y)) 0 l = -1 <;> simp [hz]
theorem e_Contains (l : List Int) (hl : l.length ≤ top63) (v : Int) : EE π n_slices_Contains_int_int [.p (encInts l), .p (I v)] [] = some (.p (.bool (memB l v)), []) := by
  have := idxOf_ge (fun y => decide (v = y)) 0 l
  unfold memB
  rw [← this]
  simp [e_slices_Contains_int_int, run_eq, c_slices_Contains_int_int, e_Index l hl]

theorem has_loop (l : List Int) (hl : l.length ≤ top63) (v : Int) : ∀ (suf pre : List Int) (x : Env × Sto), l = pre ++ suf → mask [0, 1, 5] [] x = some ([(0, .p (encInts l)), (1, .p (I v)), (5, .p (I pre.length))], []) →
    kpO [] [4] [] (bkO 0 (iter (round EE iter π [] [0, 1, 5] c_ratchetbase_Has_L0) x)) = (if memB suf v then some (.rt, [(4, .p (.bool true))], []) else some (.nm, [], []))
  | [], pre, x, h, hm => by
    rw [loop_eq hm]
    subst h
    simp [u_ratchetbase_Has_L0, b_ratchetbase_Has_L0, memB]
  | y :: suf, pre, x, h, hm => by
    rw [loop_eq hm]
    by_cases hpy : y = v
    · simp [u_ratchetbase_Has_L0, b_ratchetbase_Has_L0, lt_mid h, get_mid _ h, hpy, memB]
    · have hpy' : ¬ v = y := fun h => hpy h.symm
      simp [u_ratchetbase_Has_L0, b_ratchetbase_Has_L0, lt_mid h, get_mid _ h, hpy]
      rw [has_loop l hl v suf (pre ++ [y]) _ (by simp [h]) (by simp [w_succ (show pre.length < l.length by have := lt_mid h; omega) hl])]
      simp [memB, hpy']
theorem e_Has (l : List Int) (hl : l.length ≤ top63) (v : Int) : EE π n_ratchetbase_Has [.p (encInts l), .p (I v)] [] = some (.p (.bool (memB l v)), []) := by
  simp [e_ratchetbase_Has, run_eq, c_ratchetbase_Has]
  rw [has_loop l hl v l [] _ rfl (by simp)]
  cases memB l v <;> simp

/-- Whether a placed cell has a point as a source, and whether a point is an end. -/
def srcB (n : Net) (i : Nat) (p : Int) : Bool := memB (n.placed.getD i ⟨0, []⟩).sources (p + 2)
def endB (n : Net) (p : Int) : Bool := memB n.outs (p + 2)

theorem e_isEnd (l : List Cell) (n : Net) (m : Model) (hv : Valid l n m) (p : Int) (h0 : -1000 ≤ p) (h1 : p ≤ 1000) : EE π n_timing_net_isEnd [.p (.agg [I n.leaves, encPlaceds n.placed, encInts n.outs, encLib l]), .p (I p)] [] = some (.p (.bool (endB n p)), []) := by
  have hno := hv.no
  have hw : IntKind.i64.wrap (p + 2) = p + 2 := w64 ⟨by omega, by omega⟩
  have hc := fun π => e_Contains (π := π) n.outs (by simp only [top63]; omega) (p + 2)
  unfold endB
  simp [e_timing_net_isEnd, run_eq, c_timing_net_isEnd, hw, hc]

theorem e_netHas (l : List Cell) (n : Net) (m : Model) (hv : Valid l n m) (i : Nat) (hi : i < n.placed.length) (q p : Int) (hq : q = n.leaves + i) (h0 : -1000 ≤ p) (h1 : p ≤ 1000) : EE π n_timing_net_has [.p (.agg [I n.leaves, encPlaceds n.placed, encInts n.outs, encLib l]), .p (I q), .p (I p)] [] = some (.p (.bool (srcB n i p)), []) := by
  have hlv0 := hv.lv0
  have hlv1 := hv.lv1
  have hnp := hv.np
  have hw : IntKind.i64.wrap (p + 2) = p + 2 := w64 ⟨by omega, by omega⟩
  have hw2 : IntKind.i64.wrap (q - n.leaves) = (i : Int) := by rw [hq, show n.leaves + (i : Int) - n.leaves = i by omega]; exact w64 ⟨by omega, by omega⟩
  have hmem : n.placed[i] ∈ n.placed := List.getElem_mem hi
  obtain ⟨_, _, _, _, _, hs3⟩ := hv.cell _ hmem
  have hg : n.placed.getD i ⟨0, []⟩ = n.placed[i] := by simp [List.getD, hi]
  have hc := fun π => e_Contains (π := π) n.placed[i].sources (by simp only [top63]; omega) (p + 2)
  unfold srcB
  rw [hg]
  simp [e_timing_net_has, run_eq, c_timing_net_has, hw, hw2, hi, hc]


end Go.Proofs.YtafomlbikcphgabGreat.V

/- All paths, by the reference. -/
namespace Go.Proofs.YtafomlbikcphgabGreat.V
open Go (IntKind BinOp UnOp)
variable {π ρ κ : Id}

abbrev encL (x : List Int) : PV := .sl 1 (some false) (ints x)
abbrev rowL (i : Id) (nl : Option Bool) (L : List (List Int)) : Id × Blk := (i, .row false t_L_int 1 nl (L.map encL))
abbrev rowPl (i : Id) (x : List Int) : Id × Blk := (i, .row true t_int 1 (some false) (ints x))
/-- An id that is not made here. -/
structure Far (id π : Id) : Prop where
  e1 : ∀ a, ¬ id = a :: π
  e2 : ∀ a, ¬ a :: π = id
  e3 : ∀ a b, ¬ id = a :: b :: π
  e4 : ∀ a b, ¬ a :: b :: π = id
  b1 : ∀ a, (id == a :: π) = false
  b2 : ∀ a, (a :: π == id) = false
  b3 : ∀ a b, (id == a :: b :: π) = false
  b4 : ∀ a b, (a :: b :: π == id) = false
/-- An id that is not made here or below. -/
def FarX (id π : Id) : Prop := ∀ l : Id, l ≠ [] → id ≠ l ++ π
theorem far_of {id π : Id} (h1 : ∀ a, id ≠ a :: π) (h2 : ∀ a b, id ≠ a :: b :: π) : Far id π :=
  ⟨h1, fun a h => h1 a h.symm, h2, fun a b h => h2 a b h.symm, fun a => by simpa using h1 a, fun a => by simpa using (h1 a).symm, fun a b => by simpa using h2 a b, fun a b => by simpa using (h2 a b).symm⟩
theorem FarX.far {id π : Id} (h : FarX id π) : Far id π := far_of (fun a => h [a] (by simp)) (fun a b => h [a, b] (by simp))
theorem FarX.down {id π : Id} (h : FarX id π) (a : Nat) : FarX id (a :: π) := fun l _ => by
  have := h (l ++ [a]) (by simp)
  simpa using this
theorem far_new (π : Id) {a b c : Nat} (h : b ≠ c) : Far (a :: b :: π) (c :: π) :=
  far_of (fun d hh => h (by injection hh with _ hh; injection hh)) (fun d e hh => by have := congrArg List.length hh; simp at this)
theorem far_one (π : Id) {a c : Nat} : Far (a :: π) (c :: π) :=
  far_of (fun d hh => by have := congrArg List.length hh; simp at this) (fun d e hh => by have := congrArg List.length hh; simp at this)

/-- Longer paths by the cells from one on. -/
def lonIn (g : List Int → List (List Int) → List (List Int)) (lv : Int) (path : List Int) (last : Int) : Nat → List Placed → List (List Int) → List (List Int)
  | _, [], out => out
  | i, p :: r, out => lonIn g lv path last (i + 1) r (if memB p.sources (last + 2) then g (path ++ [lv + i]) out else out)
def lon (n : Net) (most : Nat) : Nat → List Int → List (List Int) → List (List Int)
  | 0, _, out => out
  | f + 1, path, out => if most < out.length then out else lonIn (lon n most f) n.leaves path (path.getLastD 0) 0 n.placed (if endB n (path.getLastD 0) then out ++ [path] else out)

theorem lonIn_len (n : Net) (most : Nat) (path : List Int) (last : Int) (g : List Int → List (List Int) → List (List Int)) (Cnd : List Int → List (List Int) → Prop)
    (hcnd : ∀ (i : Nat) p out, n.placed[i]? = some p → memB p.sources (last + 2) = true → out.length ≤ most + 1 → Cnd (path ++ [n.leaves + i]) out) (hgl : ∀ path' out', Cnd path' out' → (g path' out').length ≤ most + 1) :
    ∀ (suf pre : List Placed) (out : List (List Int)), n.placed = pre ++ suf → out.length ≤ most + 1 → (lonIn g n.leaves path last pre.length suf out).length ≤ most + 1
  | [], pre, out, h, ho => ho
  | y :: suf, pre, out, h, ho => by
    have := lonIn_len n most path last g Cnd hcnd hgl suf (pre ++ [y])
    rw [show (pre ++ [y]).length = pre.length + 1 by simp] at this
    simp only [lonIn]
    refine this _ (by simp [h]) ?_
    split
    · rename_i hb
      exact hgl _ _ (hcnd pre.length y out (by rw [h]; simp) hb ho)
    · exact ho

theorem lon_loop (l : List Cell) (n : Net) (m : Model) (hv : Valid l n m) (most : Nat) (pid oid : Id) (path : List Int) (last : Int) (hl0 : 0 ≤ last) (hl1 : last ≤ 1000) (hpl : path.length ≤ 1000) (hne : ¬ pid = oid) (fp : Far pid π) (fo : FarX oid π)
    (g : List Int → List (List Int) → List (List Int)) (Cnd : List Int → List (List Int) → Prop)
    (hcnd : ∀ (i : Nat) p out, n.placed[i]? = some p → memB p.sources (last + 2) = true → out.length ≤ most + 1 → Cnd (path ++ [n.leaves + i]) out) (hgl : ∀ path' out', Cnd path' out' → (g path' out').length ≤ most + 1)
    (hg : ∀ (ρ pid' : Id) (path' : List Int) (out' : List (List Int)), Cnd path' out' → ¬ pid' = oid → Far pid' ρ → FarX oid ρ →
      EE ρ n_ratchetref28_longer [.p (encNet n), .ap pid', .ap oid, .p (I most)] [rowI pid' (some false) path', rowL oid (flagE out') out'] = some (.ap oid, [rowPl pid' path', rowL oid (flagE (g path' out')) (g path' out')])) :
    ∀ (suf pre : List Placed) (out : List (List Int)) (x : Env × Sto), n.placed = pre ++ suf → out.length ≤ most + 1 →
    mask [1, 2, 3, 4, 9, 10] [pid, oid] x = some ([(1, .p (encL path)), (2, .ap oid), (3, .p (I most)), (4, .ref (4 :: π) 0), (9, .p (I last)), (10, .p (I pre.length))], [(4 :: π, boxN n), rowPl pid path, rowL oid (flagE out) out]) →
    kpO [2] [8] [pid, oid] (bkO 0 (iter (round EE iter π [pid, oid] [1, 2, 3, 4, 9, 10] c_ratchetref28_longer_L0) x)) =
      some (.nm, [(2, .ap oid)], [rowPl pid path, rowL oid (flagE (lonIn g n.leaves path last pre.length suf out)) (lonIn g n.leaves path last pre.length suf out)])
  | [], pre, out, x, h, hol, hm => by
    have fo' := fo.far
    have e1 := fp.e1; have e2 := fp.e2; have e5 := fp.b1; have e6 := fp.b2
    have o1 := fo'.e1; have o2 := fo'.e2; have o5 := fo'.b1; have o6 := fo'.b2
    have hpo : (pid == oid) = false := by simpa using hne
    have hop : (oid == pid) = false := by simpa using Ne.symm hne
    have hne' : ¬ oid = pid := fun h => hne h.symm
    rw [loop_eq hm]
    have : n.placed = pre := by simpa using h
    simp only [lonIn]
    simp [u_ratchetref28_longer_L0, b_ratchetref28_longer_L0, this, hpo, hop, hne, hne', e1, e2, e5, e6, o1, o2, o5, o6]
  | y :: suf, pre, out, x, h, hol, hm => by
    have fo' := fo.far
    have e1 := fp.e1; have e2 := fp.e2; have e3 := fp.e3; have e4 := fp.e4
    have e5 := fp.b1; have e6 := fp.b2; have e7 := fp.b3; have e8 := fp.b4
    have o1 := fo'.e1; have o2 := fo'.e2; have o3 := fo'.e3; have o4 := fo'.e4
    have o5 := fo'.b1; have o6 := fo'.b2; have o7 := fo'.b3; have o8 := fo'.b4
    have hpo : (pid == oid) = false := by simpa using hne
    have hop : (oid == pid) = false := by simpa using Ne.symm hne
    have hne' : ¬ oid = pid := fun h => hne h.symm
    rw [loop_eq hm]
    have hmem : y ∈ n.placed := by rw [h]; simp
    have hlen : pre.length < n.placed.length := by rw [h]; simp
    have hyp : n.placed[pre.length]? = some y := by rw [h]; simp
    have hyg : n.placed[pre.length] = y := by simpa [List.getElem?_eq_getElem hlen] using hyp
    have hnp := hv.np
    have hlv0 := hv.lv0
    have hlv1 := hv.lv1
    obtain ⟨_, _, _, _, _, hs3⟩ := hv.cell y hmem
    have hw : IntKind.i64.wrap (last + 2) = last + 2 := w64 ⟨by omega, by omega⟩
    have hw2 : IntKind.i64.wrap (n.leaves + (pre.length : Int)) = n.leaves + pre.length := w64 ⟨by omega, by omega⟩
    have hws := w_succ hlen (show n.placed.length ≤ top63 by simp only [top63]; omega)
    have hh := fun π => e_Has (π := π) y.sources (by simp only [top63]; omega) (last + 2)
    have hcp := fun π => e_CopyInts (π := π) (ints path) (by simp only [room, List.length_map]; omega)
    have hroom : path.length + 1 ≤ room := by simp only [room]; omega
    have hnext := lon_loop l n m hv most pid oid path last hl0 hl1 hpl hne fp fo g Cnd hcnd hgl hg suf (pre ++ [y])
    rw [show (pre ++ [y]).length = pre.length + 1 by simp] at hnext
    simp only [lonIn]
    cases hb : memB y.sources (last + 2) with
    | false =>
      rw [hb] at hh
      simp only [Bool.false_eq_true, if_false]
      simp [u_ratchetref28_longer_L0, b_ratchetref28_longer_L0, hlen, hyg, hh, hw, hpo, hop, hne, hne', e1, e2, e3, e4, e5, e6, e7, e8, o1, o2, o3, o4, o5, o6, o7, o8]
      exact hnext out _ (by simp [h]) hol (by simp [hws, hpo, hop, hne, hne', e1, e2, e3, e4, e5, e6, e7, e8, o1, o2, o3, o4, o5, o6, o7, o8])
    | true =>
      rw [hb] at hh
      have hcc := hcnd pre.length y out hyp hb hol
      have c1 := hg (59 :: π) (3 :: 50 :: π) (path ++ [n.leaves + pre.length]) out hcc (fun hh => o4 3 50 hh) (far_new π (by decide)) (fo.down 59)
      have c2 := hgl _ _ hcc
      generalize hG : g (path ++ [n.leaves + pre.length]) out = G at *
      have ec : ((3 :: 50 :: π, Blk.row false t_int 1 (some false) (ints path ++ [I (n.leaves + pre.length)])) : Id × Blk) = rowI (3 :: 50 :: π) (some false) (path ++ [n.leaves + pre.length]) := by simp
      rw [← ec] at c1
      simp only [if_true]
      simp [u_ratchetref28_longer_L0, b_ratchetref28_longer_L0, hlen, hyg, hh, hcp, hw, hw2, hroom, c1, hpo, hop, hne, hne', e1, e2, e3, e4, e5, e6, e7, e8, o1, o2, o3, o4, o5, o6, o7, o8, evRO, freeze]
      exact hnext G _ (by simp [h]) c2 (by simp [hws, hpo, hop, hne, hne', e1, e2, e3, e4, e5, e6, e7, e8, o1, o2, o3, o4, o5, o6, o7, o8])

/-- What a path must be for its longer ones. -/
structure LonOk (n : Net) (most f : Nat) (path : List Int) (out : List (List Int)) : Prop where
  ne : path ≠ []
  l0 : 0 ≤ path.getLastD 0
  l1 : path.getLastD 0 + 1 ≤ n.leaves + n.placed.length
  fu : n.leaves + n.placed.length - path.getLastD 0 ≤ f
  pl : path.length + f ≤ 500
  ol : out.length ≤ most + 1

theorem LonOk.step {l : List Cell} {n : Net} {m : Model} (hv : Valid l n m) {most f : Nat} {path : List Int} {out : List (List Int)} (h : LonOk n most (f + 1) path out) (i : Nat) (p : Placed) (out' : List (List Int)) (hp : n.placed[i]? = some p) (hb : memB p.sources (path.getLastD 0 + 2) = true) (ho : out'.length ≤ most + 1) :
    LonOk n most f (path ++ [n.leaves + i]) out' := by
  have hs := hv.src i p hp _ (memB_iff.1 hb)
  have hil : i < n.placed.length := (List.getElem?_eq_some_iff.1 hp).1
  have hfu := h.fu
  have hl0 := h.l0
  have hpl := h.pl
  have e : (path ++ [n.leaves + (i : Int)]).getLastD 0 = n.leaves + i := by simp
  refine ⟨by simp, ?_, ?_, ?_, ?_, ho⟩
  · rw [e]; omega
  · rw [e]; omega
  · rw [e]; omega
  · simp; omega

theorem lon_len {l : List Cell} {n : Net} {m : Model} (hv : Valid l n m) (most : Nat) : ∀ (f : Nat) (path : List Int) (out : List (List Int)), LonOk n most f path out → (lon n most f path out).length ≤ most + 1
  | 0, path, out, h => h.ol
  | f + 1, path, out, h => by
    simp only [lon]
    split
    · exact h.ol
    · rename_i hm
      refine lonIn_len n most path (path.getLastD 0) (lon n most f) (LonOk n most f) (fun i p o hp hb ho => h.step hv i p o hp hb ho) (lon_len hv most f) n.placed [] _ rfl ?_
      split
      · simp; omega
      · exact h.ol

theorem e_longer (l : List Cell) (n : Net) (m : Model) (hv : Valid l n m) (most : Nat) (hmost : most ≤ 1000) (oid : Id) : ∀ (f : Nat) (ρ pid : Id) (path : List Int) (out : List (List Int)), LonOk n most f path out → ¬ pid = oid → Far pid ρ → FarX oid ρ →
    EE ρ n_ratchetref28_longer [.p (encNet n), .ap pid, .ap oid, .p (I most)] [rowI pid (some false) path, rowL oid (flagE out) out] = some (.ap oid, [rowPl pid path, rowL oid (flagE (lon n most f path out)) (lon n most f path out)])
  | 0, ρ, pid, path, out, h, hne, fp, fo => by have := h.l1; have := h.fu; omega
  | f + 1, ρ, pid, path, out, h, hne, fp, fo => by
    have fo' := fo.far
    have e1 := fp.e1; have e2 := fp.e2; have e3 := fp.e3; have e4 := fp.e4
    have e5 := fp.b1; have e6 := fp.b2; have e7 := fp.b3; have e8 := fp.b4
    have o1 := fo'.e1; have o2 := fo'.e2; have o3 := fo'.e3; have o4 := fo'.e4
    have o5 := fo'.b1; have o6 := fo'.b2; have o7 := fo'.b3; have o8 := fo'.b4
    have hpo : (pid == oid) = false := by simpa using hne
    have hop : (oid == pid) = false := by simpa using Ne.symm hne
    have hne' : ¬ oid = pid := fun h => hne h.symm
    have hnp := hv.np
    have hno := hv.no
    have hlv0 := hv.lv0
    have hlv1 := hv.lv1
    have hl0 := h.l0
    have hl1 := h.l1
    have hpl := h.pl
    have hol := h.ol
    have hp0 : 0 < path.length := List.length_pos_iff.2 h.ne
    have hlt : path.length - 1 < path.length := by omega
    have hlast : path[path.length - 1] = path.getLastD 0 := by
      rw [List.getLastD_eq_getLast?, List.getLast?_eq_getElem?, List.getElem?_eq_getElem hlt]; rfl
    have hw : IntKind.i64.wrap ((path.length : Int) - 1) = ((path.length - 1 : Nat) : Int) := by rw [show (path.length : Int) - 1 = ((path.length - 1 : Nat) : Int) by omega]; exact w64 ⟨by omega, by omega⟩
    have hlo := lon_loop (π := ρ) l n m hv most pid oid path (path.getLastD 0) hl0 (by omega) (by omega) hne fp fo (lon n most f) (LonOk n most f) (fun i p o hp hb ho => h.step hv i p o hp hb ho) (lon_len hv most f) (fun ρ' pid' path' out' hc hn hp hx => e_longer l n m hv most hmost oid f ρ' pid' path' out' hc hn hp hx) n.placed []
    have hh := fun π => e_Has (π := π) n.outs (by simp only [top63]; omega) (path.getLastD 0 + 2)
    have hcp := fun π => e_CopyInts (π := π) (ints path) (by simp only [room, List.length_map]; omega)
    have hroom : out.length + 1 ≤ room := by simp only [room]; omega
    have hlw : IntKind.i64.wrap (path.getLastD 0 + 2) = path.getLastD 0 + 2 := w64 ⟨by omega, by omega⟩
    simp only [lon]
    by_cases hm : most < out.length
    · rw [if_pos hm]
      simp [e_ratchetref28_longer, run_eq, c_ratchetref28_longer, hm, hpo, hop, hne, hne', e1, e2, e3, e4, e5, e6, e7, e8, o1, o2, o3, o4, o5, o6, o7, o8, freeze]
    · rw [if_neg hm]
      have hE : endB n (path.getLastD 0) = memB n.outs (path.getLastD 0 + 2) := rfl
      cases hb : endB n (path.getLastD 0) with
      | false =>
        rw [hE] at hb
        rw [hb] at hh
        have hlo := hlo out
        simp only [Bool.false_eq_true, if_false]
        generalize lonIn (lon n most f) n.leaves path (path.getLastD 0) ([] : List Placed).length n.placed out = R at *
        generalize path.getLastD 0 = last at *
        simp [e_ratchetref28_longer, run_eq, c_ratchetref28_longer, hm, hpo, hop, hne, hne', e1, e2, e3, e4, e5, e6, e7, e8, o1, o2, o3, o4, o5, o6, o7, o8, freeze, hh, hw, hlt, hlast, hlw, hcp, hroom, thaw, thaw1]
        rw [hlo _ rfl hol (by simp [hpo, hop, hne, hne', e1, e2, e3, e4, e5, e6, e7, e8, o1, o2, o3, o4, o5, o6, o7, o8])]
        simp [hpo, hop, hne, hne', e1, e2, e3, e4, e5, e6, e7, e8, o1, o2, o3, o4, o5, o6, o7, o8]
      | true =>
        rw [hE] at hb
        rw [hb] at hh
        have hlo := hlo (out ++ [path])
        simp only [if_true]
        generalize lonIn (lon n most f) n.leaves path (path.getLastD 0) ([] : List Placed).length n.placed (out ++ [path]) = R at *
        generalize path.getLastD 0 = last at *
        simp [e_ratchetref28_longer, run_eq, c_ratchetref28_longer, hm, hpo, hop, hne, hne', e1, e2, e3, e4, e5, e6, e7, e8, o1, o2, o3, o4, o5, o6, o7, o8, freeze, hh, hw, hlt, hlast, hlw, hcp, hroom, thaw, thaw1]
        rw [hlo _ rfl (by simp; omega) (by simp [hpo, hop, hne, hne', e1, e2, e3, e4, e5, e6, e7, e8, o1, o2, o3, o4, o5, o6, o7, o8])]
        simp [hpo, hop, hne, hne', e1, e2, e3, e4, e5, e6, e7, e8, o1, o2, o3, o4, o5, o6, o7, o8]

/-- All paths that begin at a leaf bit from one on. -/
def allP (n : Net) (most f : Nat) : Nat → Nat → List (List Int) → List (List Int)
  | 0, _, out => out
  | j + 1, p, out => allP n most f j (p + 1) (lon n most f [(p : Int)] out)
/-- All paths. -/
def pathsN (n : Net) (most : Nat) : List (List Int) := allP n most (n.leaves.toNat + n.placed.length) n.leaves.toNat 0 []

theorem lonOk_one {l : List Cell} {n : Net} {m : Model} (hv : Valid l n m) {most : Nat} {p : Nat} (hp : (p : Int) < n.leaves) {out : List (List Int)} (ho : out.length ≤ most + 1) : LonOk n most (n.leaves.toNat + n.placed.length) [(p : Int)] out := by
  have hlv0 := hv.lv0
  have hlv1 := hv.lv1
  have hnp := hv.np
  have e : ([(p : Int)] : List Int).getLastD 0 = p := rfl
  refine ⟨by simp, ?_, ?_, ?_, ?_, ho⟩
  · rw [e]; omega
  · rw [e]; omega
  · rw [e]; omega
  · simp; omega

theorem paths_loop (l : List Cell) (n : Net) (m : Model) (hv : Valid l n m) (most : Nat) (hmost : most ≤ 1000) : ∀ (j p : Nat) (out : List (List Int)) (x : Env × Sto), ((j + p : Nat) : Int) = n.leaves → out.length ≤ most + 1 →
    mask [1, 2, 5, 6] [] x = some ([(1, .p (I most)), (2, .ref (2 :: π) 0), (5, .ap (1005 :: π)), (6, .p (I p))], [rowL (1005 :: π) (flagE out) out, (2 :: π, boxN n)]) →
    kpO [5] [4] [] (bkO 0 (iter (round EE iter π [] [1, 2, 5, 6] c_ratchetref28_Paths_L0) x)) = some (.nm, [(5, .ap (1005 :: π))], [rowL (1005 :: π) (flagE (allP n most (n.leaves.toNat + n.placed.length) j p out)) (allP n most (n.leaves.toNat + n.placed.length) j p out)])
  | 0, p, out, x, hj, ho, hm => by
    rw [loop_eq hm]
    have hp : n.leaves = (p : Int) := by omega
    simp only [allP]
    simp [u_ratchetref28_Paths_L0, b_ratchetref28_Paths_L0, hp]
  | j + 1, p, out, x, hj, ho, hm => by
    rw [loop_eq hm]
    have hlv1 := hv.lv1
    have hp : (p : Int) < n.leaves := by omega
    have hok := lonOk_one hv (most := most) hp ho
    have hx : FarX (1005 :: π) (18 :: π) := fun l hl hh => by
      have := congrArg List.length hh
      simp at this
      exact hl this
    have c1 := e_longer l n m hv most hmost (1005 :: π) _ (18 :: π) (15 :: π) [(p : Int)] out hok (by simp) (far_one π) hx
    have c2 := lon_len hv most _ _ _ hok
    have hnext := paths_loop l n m hv most hmost j (p + 1) (lon n most (n.leaves.toNat + n.placed.length) [(p : Int)] out)
    have hws : IntKind.i64.wrap ((p : Int) + 1) = (p : Int) + 1 := w64 ⟨by omega, by omega⟩
    simp only [allP]
    generalize lon n most (n.leaves.toNat + n.placed.length) [(p : Int)] out = R at *
    have ec : ((15 :: π, Blk.row false t_int 1 (some false) [I (p : Int)]) : Id × Blk) = rowI (15 :: π) (some false) [(p : Int)] := by simp
    rw [← ec] at c1
    simp [u_ratchetref28_Paths_L0, b_ratchetref28_Paths_L0, hp, c1]
    exact hnext _ (by omega) c2 (by simp [hws])

theorem e_Paths (l : List Cell) (n : Net) (m : Model) (hv : Valid l n m) (most : Nat) (hmost : most ≤ 1000) : EE π n_ratchetref28_Paths [.p (encNet n), .p (I most)] [] = some (.ap (1005 :: π), [rowL (1005 :: π) (flagE (pathsN n most)) (pathsN n most)]) := by
  have hlv0 := hv.lv0
  have hl := paths_loop (π := π) l n m hv most hmost n.leaves.toNat 0 []
  unfold pathsN
  generalize allP n most (n.leaves.toNat + n.placed.length) n.leaves.toNat 0 [] = R at *
  simp [e_ratchetref28_Paths, run_eq, c_ratchetref28_Paths, thaw, thaw1]
  rw [hl _ (by omega) (by simp) (by simp)]
  simp

end Go.Proofs.YtafomlbikcphgabGreat.V

/- The greatest delays from points to outputs. -/
namespace Go.Proofs.YtafomlbikcphgabGreat.V
open Go (IntKind BinOp UnOp)
variable {π ρ κ : Id}

/-- The greatest delay of a way from a point on, by the cells from one on. -/
def restGo (lv : Nat) (D R : List Int) (p : Nat) : Nat → List Placed → Int → Int
  | _, [], acc => acc
  | i, c :: r, acc => restGo lv D R p (i + 1) r (if p < lv + i ∧ memB c.sources ((p : Int) + 2) = true ∧ R.getD (lv + i) 0 ≠ -1 then max acc (D.getD i 0 + R.getD (lv + i) 0) else acc)
def restV (n : Net) (D R : List Int) (p : Nat) : Int := restGo n.leaves.toNat D R p 0 n.placed (if endB n p then 0 else -1)
/-- The last points' ones, when some have come. -/
def restL (n : Net) (D : List Int) : Nat → List Int
  | 0 => List.replicate (n.leaves.toNat + n.placed.length) (-1)
  | k + 1 => (restL n D k).set (n.leaves.toNat + n.placed.length - 1 - k) (restV n D (restL n D k) (n.leaves.toNat + n.placed.length - 1 - k))

theorem restL_len (n : Net) (D : List Int) : ∀ k, (restL n D k).length = n.leaves.toNat + n.placed.length
  | 0 => by simp [restL]
  | k + 1 => by simp [restL, restL_len n D k]

abbrev Bnd (L : List Int) (B : Int) : Prop := ∀ v ∈ L, -1 ≤ v ∧ v ≤ B
theorem Bnd.getD {L : List Int} {B : Int} (h : Bnd L B) (hB : 0 ≤ B) (i : Nat) : -1 ≤ L.getD i 0 ∧ L.getD i 0 ≤ B := by
  rw [List.getD]
  cases hx : L[i]? with
  | none => simp; omega
  | some v => exact h v (List.mem_of_getElem? hx)
theorem Bnd.set {L : List Int} {B : Int} (h : Bnd L B) (i : Nat) {v : Int} (hv : -1 ≤ v ∧ v ≤ B) : Bnd (L.set i v) B := fun w hw => by
  rcases List.mem_or_eq_of_mem_set hw with h1 | h1
  · exact h w h1
  · rw [h1]; exact hv
theorem Bnd.mono {L : List Int} {B B' : Int} (h : Bnd L B) (hb : B ≤ B') : Bnd L B' := fun w hw => by have := h w hw; omega

theorem restGo_in (lv : Nat) (D R : List Int) (p : Nat) (B : Int) (hB : 0 ≤ B) (hD : ∀ i, 0 ≤ D.getD i 0 ∧ D.getD i 0 ≤ 25400) (hR : Bnd R B) : ∀ (pl : List Placed) (i : Nat) (acc : Int), -1 ≤ acc → acc ≤ B + 25400 → -1 ≤ restGo lv D R p i pl acc ∧ restGo lv D R p i pl acc ≤ B + 25400
  | [], i, acc, h0, h1 => ⟨h0, h1⟩
  | c :: r, i, acc, h0, h1 => by
    have hd := hD i
    have hr := hR.getD hB (lv + i)
    simp only [restGo]
    split
    · exact restGo_in lv D R p B hB hD hR r (i + 1) _ (by omega) (by omega)
    · exact restGo_in lv D R p B hB hD hR r (i + 1) _ h0 h1
theorem restL_in (n : Net) (D : List Int) (hD : ∀ i, 0 ≤ D.getD i 0 ∧ D.getD i 0 ≤ 25400) : ∀ k : Nat, Bnd (restL n D k) (25400 * (k : Int))
  | 0 => fun v hv => by simp [restL, List.mem_replicate] at hv; omega
  | k + 1 => by
    have ih := restL_in n D hD k
    have := restGo_in n.leaves.toNat D (restL n D k) (n.leaves.toNat + n.placed.length - 1 - k) (25400 * (k : Int)) (by omega) hD ih n.placed 0 (if endB n (n.leaves.toNat + n.placed.length - 1 - k : Nat) then 0 else -1) (by split <;> omega) (by split <;> omega)
    simp only [restL]
    refine (ih.mono (by omega)).set _ ?_
    unfold restV
    omega

abbrev boxT (l : List Cell) (n : Net) (m : Model) (D : List Int) : Blk := .box false [.p (I n.leaves), .p (encPlaceds n.placed), .p (encInts n.outs), .p (encLib l), .p (I m.perLoad), .p (I m.setup), .p (I m.hold), .p (I m.fast), .p (I m.slow), .p (encInts D)]

theorem rest_loop1 (l : List Cell) (n : Net) (m : Model) (hv : Valid l n m) (D R : List Int) (hDl : D.length = n.placed.length) (hD : ∀ i, 0 ≤ D.getD i 0 ∧ D.getD i 0 ≤ 25400) (hRl : R.length = n.leaves.toNat + n.placed.length) (hR : Bnd R 3000000) (p : Nat) (hp : p < n.leaves.toNat + n.placed.length) :
    ∀ (suf pre : List Placed) (acc : Int) (R' : List Int) (x : Env × Sto), n.placed = pre ++ suf → R' = R.set p acc → -1 ≤ acc → acc ≤ 3025400 →
    mask [1, 3, 4, 5] [] x = some ([(1, .ref (1 :: π) 0), (3, .ap (30 :: 10 :: π)), (4, .p (I p)), (5, .p (I (n.leaves + pre.length)))], [rowI (30 :: 10 :: π) (some false) R', (1 :: π, boxT l n m D)]) →
    kpO [1, 3, 4] [2] [] (bkO 2 (iter (round EE iter π [] [1, 3, 4, 5] c_timing_timed_rests_L1) x)) =
      some (.nm, [(1, .ref (1 :: π) 0), (3, .ap (30 :: 10 :: π)), (4, .p (I p))], [rowI (30 :: 10 :: π) (some false) (R.set p (restGo n.leaves.toNat D R p pre.length suf acc)), (1 :: π, boxT l n m D)])
  | [], pre, acc, R', x, h, hR', h0, h1, hm => by
    rw [loop_eq hm]
    have hlv0 := hv.lv0
    have hlv1 := hv.lv1
    have hnp := hv.np
    have : n.placed = pre := by simpa using h
    have hl : pre.length = n.placed.length := by rw [this]
    have hpts := fun π => e_points (π := π) n l
    have hw : IntKind.i64.wrap (n.leaves + n.placed.length) = n.leaves + n.placed.length := w64 ⟨by omega, by omega⟩
    rw [hw] at hpts
    simp only [restGo]
    rw [← hR']
    simp [u_timing_timed_rests_L1, b_timing_timed_rests_L1, hpts, hl]
  | y :: suf, pre, acc, R', x, h, hR', h0, h1, hm => by
    rw [loop_eq hm]
    have hlen : pre.length < n.placed.length := by rw [h]; simp
    have hlv0 := hv.lv0
    have hlv1 := hv.lv1
    have hnp := hv.np
    have hpts := fun π => e_points (π := π) n l
    have hw : IntKind.i64.wrap (n.leaves + n.placed.length) = n.leaves + n.placed.length := w64 ⟨by omega, by omega⟩
    rw [hw] at hpts
    have hyg : n.placed.getD pre.length ⟨0, []⟩ = y := by simp [List.getD, h]
    have hhas := fun π => e_netHas (π := π) l n m hv pre.length hlen (n.leaves + pre.length) p rfl (by omega) (by omega)
    rw [srcB, hyg] at hhas
    have hdel := fun π => e_delay (π := π) l n m D (n.leaves.toNat + pre.length) hlv0 hlv1 (by omega) (by omega) (by omega)
    rw [show n.leaves.toNat + pre.length - n.leaves.toNat = pre.length by omega, show ((n.leaves.toNat + pre.length : Nat) : Int) = n.leaves + pre.length by omega] at hdel
    have hws : IntKind.i64.wrap (n.leaves + (pre.length : Int) + 1) = n.leaves + ((pre ++ [y]).length : Int) := by
      rw [show n.leaves + ((pre ++ [y]).length : Int) = n.leaves + (pre.length : Int) + 1 by simp; omega]
      exact w64 ⟨by omega, by omega⟩
    have hd := hD pre.length
    have hr := hR.getD (by omega) (n.leaves.toNat + pre.length)
    have hql : n.leaves.toNat + pre.length < R.length := by omega
    have hpl : p < R.length := by omega
    have hsl : R'.length = R.length := by rw [hR']; simp
    have hql' : n.leaves.toNat + pre.length < R'.length := by omega
    have hpl' : p < R'.length := by omega
    have hsp : R'[p] = acc := by simp [hR']
    have hnext := rest_loop1 l n m hv D R hDl hD hRl hR p hp suf (pre ++ [y])
    rw [show (pre ++ [y]).length = pre.length + 1 by simp] at hnext hws
    have hqlt : n.leaves + (pre.length : Int) < n.leaves + n.placed.length := by omega
    have htn : (n.leaves + (pre.length : Int)).toNat = n.leaves.toNat + pre.length := by omega
    have hq0 : 0 ≤ n.leaves + (pre.length : Int) := by omega
    simp only [restGo]
    by_cases c1 : p < n.leaves.toNat + pre.length
    · have c1' : (p : Int) < n.leaves + pre.length := by omega
      have hsq : R'[n.leaves.toNat + pre.length] = R.getD (n.leaves.toNat + pre.length) 0 := by
        simp only [hR']
        rw [List.getElem_set_ne (by omega)]; simp [List.getD, hql]
      cases hb : memB y.sources ((p : Int) + 2) with
      | false =>
        rw [hb] at hhas
        simp only [Bool.false_eq_true, false_and, and_false, if_false]
        simp [u_timing_timed_rests_L1, b_timing_timed_rests_L1, hpts, hqlt, c1', hhas]
        exact hnext acc R' _ (by simp [h]) hR' h0 h1 (by simp [hws])
      | true =>
        rw [hb] at hhas
        by_cases c3 : R.getD (n.leaves.toNat + pre.length) 0 = -1
        · simp only [c3, ne_eq, not_true_eq_false, and_false, if_false]
          rw [c3] at hsq
          simp [u_timing_timed_rests_L1, b_timing_timed_rests_L1, hpts, hqlt, c1', hhas, htn, hq0, hsq, hql']
          exact hnext acc R' _ (by simp [h]) hR' h0 h1 (by simp [hws])
        · simp only [c1, c3, ne_eq, not_false_eq_true, and_self, if_true]
          generalize R.getD (n.leaves.toNat + pre.length) 0 = rq at *
          generalize D.getD pre.length 0 = d at *
          have hwd : IntKind.i64.wrap (d + rq) = d + rq := w64 ⟨by omega, by omega⟩
          have hset2 := ints_set R' p (max acc (d + rq))
          rw [show R'.set p (max acc (d + rq)) = R.set p (max acc (d + rq)) by rw [hR', List.set_set]] at hset2
          have hmx : (if acc < d + rq then d + rq else acc) = max acc (d + rq) := by omega
          have hnx := hnext (max acc (d + rq)) (R.set p (max acc (d + rq)))
          generalize R.set p (max acc (d + rq)) = R2 at *
          generalize hmm : max acc (d + rq) = mm at *
          simp [u_timing_timed_rests_L1, b_timing_timed_rests_L1, hpts, hqlt, c1', hhas, htn, hq0, hsq, hql', hpl', hsp, c3, hdel, hwd, hmx, hset2, PV.setc]
          exact hnx _ (by simp [h]) rfl (by omega) (by omega) (by simp [hws])
    · have c1' : ¬ (p : Int) < n.leaves + pre.length := by omega
      simp only [c1, false_and, if_false]
      simp [u_timing_timed_rests_L1, b_timing_timed_rests_L1, hpts, hqlt, c1']
      exact hnext acc R' _ (by simp [h]) hR' h0 h1 (by simp [hws])

theorem restL_low (n : Net) (D : List Int) : ∀ (k : Nat) (p : Nat), p + k < n.leaves.toNat + n.placed.length → (restL n D k).getD p 0 = -1
  | 0, p, h => by
    simp only [restL, List.getD]
    rw [List.getElem?_replicate, if_pos (by omega)]; rfl
  | k + 1, p, h => by
    have ih := restL_low n D k p (by omega)
    simp only [restL, List.getD] at ih ⊢
    rw [List.getElem?_set_ne (by omega)]
    exact ih

theorem rest_loop0 (l : List Cell) (n : Net) (m : Model) (hv : Valid l n m) (D : List Int) (hDl : D.length = n.placed.length) (hD : ∀ i, 0 ≤ D.getD i 0 ∧ D.getD i 0 ≤ 25400) : ∀ (j k : Nat) (x : Env × Sto), k + j = n.leaves.toNat + n.placed.length →
    mask [1, 3, 4] [] x = some ([(1, .ref (1 :: π) 0), (3, .ap (30 :: 10 :: π)), (4, .p (I ((j : Int) - 1)))], [rowI (30 :: 10 :: π) (some false) (restL n D k), (1 :: π, boxT l n m D)]) →
    kpO [3] [2] [] (bkO 0 (iter (round EE iter π [] [1, 3, 4] c_timing_timed_rests_L0) x)) = some (.nm, [(3, .ap (30 :: 10 :: π))], [rowI (30 :: 10 :: π) (some false) (restL n D (n.leaves.toNat + n.placed.length))])
  | 0, k, x, hk, hm => by
    rw [loop_eq hm]
    have : k = n.leaves.toNat + n.placed.length := by omega
    rw [this]
    generalize restL n D (n.leaves.toNat + n.placed.length) = R at *
    simp [u_timing_timed_rests_L0, b_timing_timed_rests_L0]
  | j + 1, k, x, hk, hm => by
    rw [loop_eq hm]
    have hlv0 := hv.lv0
    have hlv1 := hv.lv1
    have hnp := hv.np
    have hRl := restL_len n D k
    have hRb := (restL_in n D hD k).mono (show 25400 * (k : Int) ≤ 3000000 by omega)
    have hj : (((j + 1 : Nat) : Int) - 1) = (j : Int) := by omega
    rw [hj]
    have hjp : n.leaves.toNat + n.placed.length - 1 - k = j := by omega
    have hend := fun π => e_isEnd (π := π) l n m hv (j : Int) (by omega) (by omega)
    have hlow := restL_low n D k j (by omega)
    have hjl : j < (restL n D k).length := by omega
    have hlj : (restL n D k)[j] = -1 := by simpa [List.getD, hjl] using hlow
    have hl1 := rest_loop1 (π := π) l n m hv D (restL n D k) hDl hD hRl hRb j (by omega) n.placed []
    have hnext := rest_loop0 l n m hv D hDl hD j (k + 1)
    have hRS : restL n D (k + 1) = (restL n D k).set j (restV n D (restL n D k) j) := by rw [restL, hjp]
    rw [hRS] at hnext
    unfold restV at hnext
    have hws : IntKind.i64.wrap ((j : Int) - 1) = (j : Int) - 1 := w64 ⟨by omega, by omega⟩
    generalize hR : restL n D k = R at *
    cases hb : endB n j with
    | true =>
      rw [hb] at hend hnext
      simp only [if_true] at hnext
      have hset2 := ints_set R j 0
      have hl2 := hl1 0 (R.set j 0)
      generalize R.set j (restGo n.leaves.toNat D R j ([] : List Placed).length n.placed 0) = R2 at *
      generalize hR3 : R.set j 0 = R3 at *
      simp [u_timing_timed_rests_L0, b_timing_timed_rests_L0, hend, hjl, hset2, PV.setc]
      rw [hl2 _ rfl rfl (by omega) (by omega) (by simp)]
      simp
      exact hnext _ (by omega) (by simp [hws])
    | false =>
      rw [hb] at hend hnext
      simp only [Bool.false_eq_true, if_false] at hnext
      have hl2 := hl1 (-1) R
      have hRR : R = R.set j (-1) := by rw [← hlj, List.set_getElem_self]
      generalize R.set j (restGo n.leaves.toNat D R j ([] : List Placed).length n.placed (-1)) = R2 at *
      simp [u_timing_timed_rests_L0, b_timing_timed_rests_L0, hend]
      rw [hl2 _ rfl hRR (by omega) (by omega) (by simp)]
      simp
      exact hnext _ (by omega) (by simp [hws])

/-- The greatest delays of ways from all points to outputs; -1: there is none. -/
def restN (l : List Cell) (n : Net) (m : Model) : List Int := restL n (delaysN l n m) (n.leaves.toNat + n.placed.length)

theorem e_rests (l : List Cell) (n : Net) (m : Model) (hv : Valid l n m) : EE π n_timing_timed_rests [.p (.agg (cellsP l n m (delaysN l n m)))] [] = some (.ap (30 :: 10 :: π), [rowI (30 :: 10 :: π) (some false) (restN l n m)]) := by
  have hlv0 := hv.lv0
  have hlv1 := hv.lv1
  have hnp := hv.np
  have hDl : (delaysN l n m).length = n.placed.length := by simp [delaysN]
  have hl := rest_loop0 (π := π) l n m hv (delaysN l n m) hDl hv.D_ge (n.leaves.toNat + n.placed.length) 0
  have hpts := fun π => e_points (π := π) n l
  have hw : IntKind.i64.wrap (n.leaves + n.placed.length) = n.leaves + n.placed.length := w64 ⟨by omega, by omega⟩
  rw [hw] at hpts
  have hc : ((n.leaves.toNat + n.placed.length : Nat) : Int) = n.leaves + n.placed.length := by omega
  have hrp := fun π => e_Repeat (π := π) (-1) (n.leaves.toNat + n.placed.length) (by omega)
  rw [hc] at hrp hl
  have hrp' : ∀ π : Id, EE π n_slices_Repeat_int_int [.p (.sl 1 none [I (-1)]), .p (I (n.leaves + n.placed.length))] [] = some (.ap (30 :: π), [rowI (30 :: π) (some false) (List.replicate (n.leaves.toNat + n.placed.length) (-1))]) := hrp
  have hws : IntKind.i64.wrap (n.leaves + n.placed.length - 1) = n.leaves + n.placed.length - 1 := w64 ⟨by omega, by omega⟩
  unfold restN
  have h0 : restL n (delaysN l n m) 0 = List.replicate (n.leaves.toNat + n.placed.length) (-1) := rfl
  rw [h0] at hl
  generalize restL n (delaysN l n m) (n.leaves.toNat + n.placed.length) = R at *
  generalize List.replicate (n.leaves.toNat + n.placed.length) (-1 : Int) = R0 at *
  generalize delaysN l n m = D at *
  simp [e_timing_timed_rests, run_eq, c_timing_timed_rests, hpts, hrp', hws]
  rw [hl _ (by omega) (by simp)]
  simp

end Go.Proofs.YtafomlbikcphgabGreat.V

/- The critical path, by timing. -/
namespace Go.Proofs.YtafomlbikcphgabGreat.V
open Go (IntKind BinOp UnOp)
variable {π ρ κ : Id}

/-- Where the critical path begins, and its delay. -/
def critGo (R : List Int) : Nat → List Int → Int → Int → Int × Int
  | _, [], b, k => (b, k)
  | p, t :: r, b, k => if R.getD p 0 ≠ -1 ∧ k < t + R.getD p 0 then critGo R (p + 1) r p (t + R.getD p 0) else critGo R (p + 1) r b k
/-- The first cell that goes on. -/
def nextI (lv : Nat) (D R : List Int) (p : Nat) : Nat → List Placed → Option Nat
  | _, [] => none
  | i, c :: r => if p < lv + i ∧ memB c.sources ((p : Int) + 2) = true ∧ R.getD (lv + i) 0 ≠ -1 ∧ D.getD i 0 + R.getD (lv + i) 0 = R.getD p 0 then some i else nextI lv D R p (i + 1) r

abbrev idR (π : Id) : Id := 30 :: 10 :: 33 :: π
abbrev idD (π : Id) : Id := 1000018 :: 16 :: 26 :: π
abbrev stC (π : Id) (l : List Cell) (n : Net) (m : Model) (R D : List Int) : Sto := [rowI (30 :: 10 :: 33 :: π) (some false) R, (11 :: π, .box false (aggT l n m (1000018 :: 16 :: 26 :: π))), (1000018 :: 16 :: 26 :: π, .row true t_int 1 (flagE n.placed) (ints D))]

theorem crit_loop0 (l : List Cell) (n : Net) (m : Model) (R D : List Int) (ats : List Int) (hR : Bnd R 3000000) (hat : ∀ v ∈ ats, 0 ≤ v ∧ v ≤ 1000000) (hRl : ats.length ≤ R.length) (hal : ats.length ≤ 1000) : ∀ (suf pre : List Int) (b k : Int) (x : Env × Sto), ats = pre ++ suf →
    mask [11, 13, 14, 15, 34, 35, 36] [] x = some ([(11, .ref (11 :: π) 0), (13, .ap (30 :: 10 :: 33 :: π)), (14, .p (I b)), (15, .p (I k)), (34, .p (encInts ats)), (35, .p (I ats.length)), (36, .p (I pre.length))], stC π l n m R D) →
    kpO [11, 13, 14, 15] [8, 9, 10] [] (bkO 0 (iter (round EE iter π [] [11, 13, 14, 15, 34, 35, 36] c_timing_CriticalPath_L0) x)) =
      some (.nm, [(11, .ref (11 :: π) 0), (13, .ap (30 :: 10 :: 33 :: π)), (14, .p (I (critGo R pre.length suf b k).1)), (15, .p (I (critGo R pre.length suf b k).2))], stC π l n m R D)
  | [], pre, b, k, x, h, hm => by
    rw [loop_eq hm]
    have : ats = pre := by simpa using h
    rw [← this]
    simp [u_timing_CriticalPath_L0, b_timing_CriticalPath_L0, critGo]
  | y :: suf, pre, b, k, x, h, hm => by
    rw [loop_eq hm]
    have hlen : pre.length < ats.length := by rw [h]; simp
    have hy := hat y (by rw [h]; simp)
    have hpR : pre.length < R.length := by omega
    have hr := hR.getD (by omega) pre.length
    have hg : R[pre.length] = R.getD pre.length 0 := by simp [List.getD, hpR]
    have hws := w_succ hlen (show ats.length ≤ top63 by simp only [top63]; omega)
    have hnext := crit_loop0 l n m R D ats hR hat hRl hal suf (pre ++ [y])
    rw [show (pre ++ [y]).length = pre.length + 1 by simp] at hnext
    simp only [critGo]
    generalize R.getD pre.length 0 = r at *
    have hw : IntKind.i64.wrap (y + r) = y + r := w64 ⟨by omega, by omega⟩
    by_cases c1 : r = -1
    · simp only [c1, ne_eq, not_true_eq_false, false_and, if_false]
      rw [c1] at hg
      simp [u_timing_CriticalPath_L0, b_timing_CriticalPath_L0, lt_mid h, get_mid _ h, hpR, hg]
      exact hnext b k _ (by simp [h]) (by simp [hws])
    · by_cases c2 : k < y + r
      · simp only [c1, c2, ne_eq, not_false_eq_true, and_self, if_true]
        simp [u_timing_CriticalPath_L0, b_timing_CriticalPath_L0, lt_mid h, get_mid _ h, hpR, hg, c1, c2, hw]
        exact hnext _ _ _ (by simp [h]) (by simp [hws])
      · simp only [c1, c2, ne_eq, not_false_eq_true, and_false, if_false]
        simp [u_timing_CriticalPath_L0, b_timing_CriticalPath_L0, lt_mid h, get_mid _ h, hpR, hg, c1, c2, hw]
        exact hnext b k _ (by simp [h]) (by simp [hws])

abbrev stP (π : Id) (l : List Cell) (n : Net) (m : Model) (R D path : List Int) : Sto := rowI (67 :: π) (some false) path :: stC π l n m R D

theorem crit_loop2 (l : List Cell) (n : Net) (m : Model) (hv : Valid l n m) (R D : List Int) (hDl : D.length = n.placed.length) (hD : ∀ i, 0 ≤ D.getD i 0 ∧ D.getD i 0 ≤ 25400) (hRl : R.length = n.leaves.toNat + n.placed.length) (hR : Bnd R 3000000) (most : Int) (p : Nat) (hp : p < n.leaves.toNat + n.placed.length) (path : List Int) (hpl : path.length ≤ 1000) :
    ∀ (suf pre : List Placed) (x : Env × Sto), n.placed = pre ++ suf →
    mask [11, 13, 15, 18, 19, 20] [] x = some ([(11, .ref (11 :: π) 0), (13, .ap (30 :: 10 :: 33 :: π)), (15, .p (I most)), (18, .ap (67 :: π)), (19, .p (I p)), (20, .p (I (n.leaves + pre.length)))], stP π l n m R D path) →
    kpO [11, 13, 15, 18, 19] [8, 9, 10] [] (bkO 4 (iter (round EE iter π [] [11, 13, 15, 18, 19, 20] c_timing_CriticalPath_L2) x)) =
      (match nextI n.leaves.toNat D R p pre.length suf with
      | some i => some (.nm, [(11, .ref (11 :: π) 0), (13, .ap (30 :: 10 :: 33 :: π)), (15, .p (I most)), (18, .ap (67 :: π)), (19, .p (I (n.leaves + i)))], stP π l n m R D (path ++ [n.leaves + i]))
      | none => some (.nm, [(11, .ref (11 :: π) 0), (13, .ap (30 :: 10 :: 33 :: π)), (15, .p (I most)), (18, .ap (67 :: π)), (19, .p (I p))], stP π l n m R D path))
  | [], pre, x, h, hm => by
    rw [loop_eq hm]
    have hlv0 := hv.lv0
    have hlv1 := hv.lv1
    have hnp := hv.np
    have : n.placed = pre := by simpa using h
    have hl : pre.length = n.placed.length := by rw [this]
    have hpts := fun π => e_points (π := π) n l
    have hw : IntKind.i64.wrap (n.leaves + n.placed.length) = n.leaves + n.placed.length := w64 ⟨by omega, by omega⟩
    rw [hw] at hpts
    simp only [nextI]
    simp [u_timing_CriticalPath_L2, b_timing_CriticalPath_L2, hpts, hl]
  | y :: suf, pre, x, h, hm => by
    rw [loop_eq hm]
    have hlen : pre.length < n.placed.length := by rw [h]; simp
    have hlv0 := hv.lv0
    have hlv1 := hv.lv1
    have hnp := hv.np
    have hpts := fun π => e_points (π := π) n l
    have hw : IntKind.i64.wrap (n.leaves + n.placed.length) = n.leaves + n.placed.length := w64 ⟨by omega, by omega⟩
    rw [hw] at hpts
    have hyg : n.placed.getD pre.length ⟨0, []⟩ = y := by simp [List.getD, h]
    have hhas := fun π => e_netHas (π := π) l n m hv pre.length hlen (n.leaves + pre.length) p rfl (by omega) (by omega)
    rw [srcB, hyg] at hhas
    have hdel := fun π => e_delay (π := π) l n m D (n.leaves.toNat + pre.length) hlv0 hlv1 (by omega) (by omega) (by omega)
    rw [show n.leaves.toNat + pre.length - n.leaves.toNat = pre.length by omega, show ((n.leaves.toNat + pre.length : Nat) : Int) = n.leaves + pre.length by omega] at hdel
    have hws : IntKind.i64.wrap (n.leaves + (pre.length : Int) + 1) = n.leaves + ((pre ++ [y]).length : Int) := by
      rw [show n.leaves + ((pre ++ [y]).length : Int) = n.leaves + (pre.length : Int) + 1 by simp; omega]
      exact w64 ⟨by omega, by omega⟩
    have hd := hD pre.length
    have hr := hR.getD (by omega) (n.leaves.toNat + pre.length)
    have hql : n.leaves.toNat + pre.length < R.length := by omega
    have hpR : p < R.length := by omega
    have hsq : R[n.leaves.toNat + pre.length] = R.getD (n.leaves.toNat + pre.length) 0 := by simp [List.getD, hql]
    have hsp : R[p] = R.getD p 0 := by simp [List.getD, hpR]
    have hnext := crit_loop2 l n m hv R D hDl hD hRl hR most p hp path hpl suf (pre ++ [y])
    rw [show (pre ++ [y]).length = pre.length + 1 by simp] at hnext hws
    have hqlt : n.leaves + (pre.length : Int) < n.leaves + n.placed.length := by omega
    have htn : (n.leaves + (pre.length : Int)).toNat = n.leaves.toNat + pre.length := by omega
    have hq0 : 0 ≤ n.leaves + (pre.length : Int) := by omega
    have hroom : path.length + 1 ≤ room := by simp only [room]; omega
    simp only [nextI]
    by_cases c1 : p < n.leaves.toNat + pre.length
    · have c1' : (p : Int) < n.leaves + pre.length := by omega
      cases hb : memB y.sources ((p : Int) + 2) with
      | false =>
        rw [hb] at hhas
        simp only [Bool.false_eq_true, false_and, and_false, if_false]
        simp [u_timing_CriticalPath_L2, b_timing_CriticalPath_L2, hpts, hqlt, c1', hhas]
        exact hnext _ (by simp [h]) (by simp [hws])
      | true =>
        rw [hb] at hhas
        by_cases c3 : R.getD (n.leaves.toNat + pre.length) 0 = -1
        · simp only [c3, ne_eq, not_true_eq_false, false_and, and_false, if_false]
          rw [c3] at hsq
          simp [u_timing_CriticalPath_L2, b_timing_CriticalPath_L2, hpts, hqlt, c1', hhas, htn, hq0, hsq, hql]
          exact hnext _ (by simp [h]) (by simp [hws])
        · generalize R.getD (n.leaves.toNat + pre.length) 0 = rq at *
          generalize R.getD p 0 = rp at *
          generalize D.getD pre.length 0 = d at *
          have hwd : IntKind.i64.wrap (d + rq) = d + rq := w64 ⟨by omega, by omega⟩
          by_cases c4 : d + rq = rp
          · have hwr : IntKind.i64.wrap rp = rp := by rw [← c4]; exact hwd
            simp only [c1, c3, c4, ne_eq, not_false_eq_true, and_self, if_true]
            simp [u_timing_CriticalPath_L2, b_timing_CriticalPath_L2, hpts, hqlt, c1', hhas, htn, hq0, hsq, hql, hpR, hsp, c3, c4, hdel, hwr, hroom, freeze]
          · simp only [c1, c3, c4, ne_eq, not_false_eq_true, and_false, if_false]
            simp [u_timing_CriticalPath_L2, b_timing_CriticalPath_L2, hpts, hqlt, c1', hhas, htn, hq0, hsq, hql, hpR, hsp, c3, c4, hdel, hwd, hroom, freeze]
            exact hnext _ (by simp [h]) (by simp [hws])
    · have c1' : ¬ (p : Int) < n.leaves + pre.length := by omega
      simp only [c1, false_and, if_false]
      simp [u_timing_CriticalPath_L2, b_timing_CriticalPath_L2, hpts, hqlt, c1']
      exact hnext _ (by simp [h]) (by simp [hws])

/-- The critical path from a point on. -/
def critW (n : Net) (D R : List Int) : Nat → Nat → List Int → List Int
  | 0, _, path => path
  | f + 1, p, path => if 0 < R.getD p 0 then (match nextI n.leaves.toNat D R p 0 n.placed with
    | some i => critW n D R f (n.leaves.toNat + i) (path ++ [n.leaves + i])
    | none => path) else path

theorem nextI_in (lv : Nat) (D R : List Int) (p : Nat) : ∀ (pl : List Placed) (i j : Nat), nextI lv D R p i pl = some j → i ≤ j ∧ j < i + pl.length ∧ p < lv + j
  | [], i, j, h => by simp [nextI] at h
  | c :: r, i, j, h => by
    simp only [nextI] at h
    split at h
    · rename_i hc
      simp at h
      subst h
      simp; exact hc.1
    · have := nextI_in lv D R p r (i + 1) j h
      simp; omega

theorem crit_loop1 (l : List Cell) (n : Net) (m : Model) (hv : Valid l n m) (R D : List Int) (hDl : D.length = n.placed.length) (hD : ∀ i, 0 ≤ D.getD i 0 ∧ D.getD i 0 ≤ 25400) (hRl : R.length = n.leaves.toNat + n.placed.length) (hR : Bnd R 3000000) (most : Int)
    (hex : ∀ p, p < n.leaves.toNat + n.placed.length → 0 < R.getD p 0 → ∃ i, nextI n.leaves.toNat D R p 0 n.placed = some i) :
    ∀ (f p : Nat) (path : List Int) (x : Env × Sto), p < n.leaves.toNat + n.placed.length → n.leaves.toNat + n.placed.length ≤ p + f → path.length + f ≤ 1000 →
    mask [11, 13, 15, 18, 19] [] x = some ([(11, .ref (11 :: π) 0), (13, .ap (30 :: 10 :: 33 :: π)), (15, .p (I most)), (18, .ap (67 :: π)), (19, .p (I p))], stP π l n m R D path) →
    kpO [15, 18] [8, 9, 10] [] (bkO 2 (iter (round EE iter π [] [11, 13, 15, 18, 19] c_timing_CriticalPath_L1) x)) =
      some (.nm, [(15, .p (I most)), (18, .ap (67 :: π))], [rowI (67 :: π) (some false) (critW n D R f p path)])
  | 0, p, path, x, hp, hf, hl, hm => by omega
  | f + 1, p, path, x, hp, hf, hl, hm => by
    rw [loop_eq hm]
    have hlv0 := hv.lv0
    have hpR : p < R.length := by omega
    have hsp : R[p] = R.getD p 0 := by simp [List.getD, hpR]
    simp only [critW]
    by_cases c : 0 < R.getD p 0
    · obtain ⟨i, hi⟩ := hex p hp c
      obtain ⟨_, hi2, hi3⟩ := nextI_in _ _ _ _ _ _ _ hi
      have h2 := crit_loop2 (π := π) l n m hv R D hDl hD hRl hR most p hp path (by omega) n.placed []
      have hnext := crit_loop1 l n m hv R D hDl hD hRl hR most hex f (n.leaves.toNat + i) (path ++ [n.leaves + i])
      rw [show (([] : List Placed).length) = 0 from rfl, hi] at h2
      simp only at h2
      rw [if_pos c, hi]
      simp only
      rw [show ((n.leaves.toNat + i : Nat) : Int) = n.leaves + i by omega] at hnext
      have hpl' : (path ++ [n.leaves + (i : Int)]).length = path.length + 1 := by simp
      generalize critW n D R f (n.leaves.toNat + i) (path ++ [n.leaves + i]) = W at *
      generalize path ++ [n.leaves + i] = path' at *
      generalize R.getD p 0 = rp at *
      simp [u_timing_CriticalPath_L1, b_timing_CriticalPath_L1, hpR, hsp, c, thaw, thaw1]
      rw [h2 _ rfl (by simp)]
      simp
      exact hnext _ (by omega) (by omega) (by omega) (by simp)
    · rw [if_neg c]
      generalize R.getD p 0 = rp at *
      simp [u_timing_CriticalPath_L1, b_timing_CriticalPath_L1, hpR, hsp, c]

theorem restGo_congr (lv : Nat) (D R R' : List Int) (p : Nat) (h : ∀ q, p < q → R.getD q 0 = R'.getD q 0) : ∀ (pl : List Placed) (i : Nat) (acc : Int), restGo lv D R p i pl acc = restGo lv D R' p i pl acc
  | [], i, acc => rfl
  | c :: r, i, acc => by
    simp only [restGo]
    by_cases hq : p < lv + i
    · rw [h _ hq]; exact restGo_congr lv D R R' p h r (i + 1) _
    · simp only [hq, false_and, if_false]; exact restGo_congr lv D R R' p h r (i + 1) _

theorem restL_stay (n : Net) (D : List Int) (q : Nat) : ∀ (j k : Nat), n.leaves.toNat + n.placed.length ≤ q + k → k + j ≤ n.leaves.toNat + n.placed.length → (restL n D (k + j)).getD q 0 = (restL n D k).getD q 0
  | 0, k, h, _ => rfl
  | j + 1, k, h, hkj => by
    rw [← restL_stay n D q j k h (by omega), show k + (j + 1) = (k + j) + 1 by omega]
    simp only [restL, List.getD]
    by_cases hq : q < n.leaves.toNat + n.placed.length
    · rw [List.getElem?_set_ne (by omega)]
    · rw [List.getElem?_eq_none (by simp [restL_len]; omega), List.getElem?_eq_none (by simp [restL_len]; omega)]

/-- What the greatest delays are. -/
theorem rest_fix (n : Net) (D : List Int) (p : Nat) (hp : p < n.leaves.toNat + n.placed.length) : (restL n D (n.leaves.toNat + n.placed.length)).getD p 0 = restV n D (restL n D (n.leaves.toNat + n.placed.length)) p := by
  have hk : n.leaves.toNat + n.placed.length = (n.leaves.toNat + n.placed.length - 1 - p + 1) + p := by omega
  have h1 := restL_stay n D p p (n.leaves.toNat + n.placed.length - 1 - p + 1) (by omega) (by omega)
  rw [← hk] at h1
  rw [h1]
  have hpp : n.leaves.toNat + n.placed.length - 1 - (n.leaves.toNat + n.placed.length - 1 - p) = p := by omega
  have hset : (restL n D (n.leaves.toNat + n.placed.length - 1 - p + 1)).getD p 0 = restV n D (restL n D (n.leaves.toNat + n.placed.length - 1 - p)) p := by
    rw [restL, hpp]
    simp only [List.getD]
    rw [List.getElem?_set_self (by rw [restL_len]; exact hp)]
    rfl
  rw [hset]
  unfold restV
  refine restGo_congr _ _ _ _ _ (fun q hq => ?_) _ _ _
  have h2 := restL_stay n D q (1 + p) (n.leaves.toNat + n.placed.length - 1 - p) (by omega) (by omega)
  rw [show n.leaves.toNat + n.placed.length - 1 - p + (1 + p) = n.leaves.toNat + n.placed.length by omega] at h2
  exact h2.symm

theorem restGo_from (lv : Nat) (D R : List Int) (p : Nat) (v : Int) : ∀ (pl : List Placed) (i : Nat) (acc : Int), restGo lv D R p i pl acc = v → acc ≠ v → ∃ j c, i ≤ j ∧ pl[j - i]? = some c ∧ p < lv + j ∧ memB c.sources ((p : Int) + 2) = true ∧ R.getD (lv + j) 0 ≠ -1 ∧ D.getD j 0 + R.getD (lv + j) 0 = v
  | [], i, acc, h, hne => absurd h hne
  | c :: r, i, acc, h, hne => by
    simp only [restGo] at h
    have tail : ∀ acc', restGo lv D R p (i + 1) r acc' = v → acc' ≠ v → ∃ j c', i ≤ j ∧ (c :: r)[j - i]? = some c' ∧ p < lv + j ∧ memB c'.sources ((p : Int) + 2) = true ∧ R.getD (lv + j) 0 ≠ -1 ∧ D.getD j 0 + R.getD (lv + j) 0 = v := fun acc' h' hne' => by
      obtain ⟨j, c', g1, g2, g3⟩ := restGo_from lv D R p v r (i + 1) acc' h' hne'
      refine ⟨j, c', by omega, ?_, g3⟩
      rw [show j - i = (j - (i + 1)) + 1 by omega]
      simpa using g2
    split at h
    · rename_i hc
      by_cases he : max acc (D.getD i 0 + R.getD (lv + i) 0) = v
      · exact ⟨i, c, Nat.le_refl _, by simp, hc.1, hc.2.1, hc.2.2, by omega⟩
      · exact tail _ h he
    · exact tail _ h hne

theorem nextI_ex (lv : Nat) (D R : List Int) (p : Nat) : ∀ (pl : List Placed) (i j : Nat) (c : Placed), i ≤ j → pl[j - i]? = some c → p < lv + j → memB c.sources ((p : Int) + 2) = true → R.getD (lv + j) 0 ≠ -1 → D.getD j 0 + R.getD (lv + j) 0 = R.getD p 0 → ∃ k, nextI lv D R p i pl = some k
  | [], i, j, c, _, h, _, _, _, _ => by simp at h
  | d :: r, i, j, c, hij, h, h1, h2, h3, h4 => by
    simp only [nextI]
    split
    · exact ⟨i, rfl⟩
    · rename_i hn
      have hne : i ≠ j := by
        rintro rfl
        simp at h
        subst h
        exact hn ⟨h1, h2, h3, h4⟩
      refine nextI_ex lv D R p r (i + 1) j c (by omega) ?_ h1 h2 h3 h4
      rw [show j - i = (j - (i + 1)) + 1 by omega] at h
      simpa using h

theorem rest_next (n : Net) (D : List Int) (p : Nat) (hp : p < n.leaves.toNat + n.placed.length) (h : 0 < (restL n D (n.leaves.toNat + n.placed.length)).getD p 0) : ∃ i, nextI n.leaves.toNat D (restL n D (n.leaves.toNat + n.placed.length)) p 0 n.placed = some i := by
  have hf := rest_fix n D p hp
  generalize restL n D (n.leaves.toNat + n.placed.length) = R at *
  unfold restV at hf
  obtain ⟨j, c, g1, g2, g3, g4, g5, g6⟩ := restGo_from n.leaves.toNat D R p (R.getD p 0) n.placed 0 (if endB n p then 0 else -1) hf.symm (by split <;> omega)
  exact nextI_ex n.leaves.toNat D R p n.placed 0 j c (Nat.zero_le _) g2 g3 g4 g5 g6

theorem critGo_in (R : List Int) : ∀ (l : List Int) (p : Nat) (b k : Int), (critGo R p l b k = (b, k)) ∨ ∃ (q : Nat) (t : Int), p ≤ q ∧ l[q - p]? = some t ∧ (critGo R p l b k).1 = q ∧ (critGo R p l b k).2 = t + R.getD q 0 ∧ R.getD q 0 ≠ -1 ∧ k < (critGo R p l b k).2
  | [], p, b, k => .inl rfl
  | t :: r, p, b, k => by
    simp only [critGo]
    split
    · rename_i hc
      rcases critGo_in R r (p + 1) p (t + R.getD p 0) with h | ⟨q, t', h1, h2, h3, h4, h5, h6⟩
      · exact .inr ⟨p, t, Nat.le_refl _, by simp, by rw [h], by rw [h], hc.1, by rw [h]; exact hc.2⟩
      · refine .inr ⟨q, t', by omega, ?_, h3, h4, h5, by omega⟩
        rw [show q - p = (q - (p + 1)) + 1 by omega]; simpa using h2
    · rcases critGo_in R r (p + 1) b k with h | ⟨q, t', h1, h2, h3, h4, h5, h6⟩
      · exact .inl h
      · refine .inr ⟨q, t', by omega, ?_, h3, h4, h5, h6⟩
        rw [show q - p = (q - (p + 1)) + 1 by omega]; simpa using h2

/-- Where the critical path begins, its delay, and itself. -/
def critB (l : List Cell) (n : Net) (m : Model) (ats : List Int) : Int × Int := critGo (restN l n m) 0 ats 0 (-1)
def critP (l : List Cell) (n : Net) (m : Model) (ats : List Int) : List Int := critW n (delaysN l n m) (restN l n m) (n.leaves.toNat + n.placed.length) (critB l n m ats).1.toNat [(critB l n m ats).1]

theorem e_CriticalPath_err (l : List Cell) (n : Net) (m : Model) (h : netOk l n) (ats : List Int) (hd : ats.length ≤ top63) (he : errA l n m ats ≠ 0) :
    EE π n_timing_CriticalPath [.p (encLib l), .p (encNet n), .p (encModel m), .p (encInts ats)] [] = some (.p (.tup [.sl 1 (some true) [], I 0, I (errA l n m ats)]), []) := by
  unfold errA at *
  by_cases ha : allE l n m = 0
  · have e : firstE [allE l n m, timesE ats n.leaves] = timesE ats n.leaves := by by_cases hz : timesE ats n.leaves = 0 <;> simp [firstE, hz, ha]
    rw [e] at he ⊢
    have ho := fun π => e_openTimes_ok (π := π) l n m h ha ats hd
    generalize delaysN l n m = D at *
    simp [e_timing_CriticalPath, run_eq, c_timing_CriticalPath, ho, he]
  · have e : firstE [allE l n m, timesE ats n.leaves] = allE l n m := by simp [firstE, ha]
    rw [e]
    simp [e_timing_CriticalPath, run_eq, c_timing_CriticalPath, e_openTimes_err l n m h ha ats hd, ha]

theorem e_CriticalPath_none (l : List Cell) (n : Net) (m : Model) (h : netOk l n) (ats : List Int) (hd : ats.length ≤ top63) (he : errA l n m ats = 0) (hk : (critB l n m ats).2 = -1) :
    EE π n_timing_CriticalPath [.p (encLib l), .p (encNet n), .p (encModel m), .p (encInts ats)] [] = some (.p (.tup [.sl 1 (some true) [], I 0, I 12]), []) := by
  unfold errA at he
  rw [firstE_cons, firstE_cons] at he
  obtain ⟨ha, ht, _⟩ := he
  have hv := valid_of ha
  have hlv1 := hv.lv1
  have hnp := hv.np
  obtain ⟨ht1, ht2⟩ := times_ok ht
  have ho := fun π => e_openTimes_ok (π := π) l n m h ha ats hd
  rw [ht] at ho
  have hr := fun π => e_rests (π := π) l n m hv
  have hRl : (restN l n m).length = n.leaves.toNat + n.placed.length := restL_len _ _ _
  have hRb : Bnd (restN l n m) 3000000 := (restL_in n (delaysN l n m) hv.D_ge _).mono (by omega)
  have h0 := crit_loop0 (π := π) l n m (restN l n m) (delaysN l n m) ats hRb ht2 (by omega) (by omega) ats [] 0 (-1)
  unfold critB at hk
  rw [show (([] : List Int).length) = 0 from rfl, hk] at h0
  generalize (critGo (restN l n m) 0 ats 0 (-1)).1 = b at *
  generalize delaysN l n m = D at *
  generalize restN l n m = R at *
  simp [e_timing_CriticalPath, run_eq, c_timing_CriticalPath, ho, hr]
  rw [h0 _ rfl (by simp)]
  simp

theorem e_CriticalPath_ok (l : List Cell) (n : Net) (m : Model) (h : netOk l n) (ats : List Int) (hd : ats.length ≤ top63) (he : errA l n m ats = 0) (hk : (critB l n m ats).2 ≠ -1) :
    EE π n_timing_CriticalPath [.p (encLib l), .p (encNet n), .p (encModel m), .p (encInts ats)] [] = some (.tup [.ap (67 :: π), .p (I (critB l n m ats).2), .p (I 0)], [rowI (67 :: π) (some false) (critP l n m ats)]) := by
  unfold errA at he
  rw [firstE_cons, firstE_cons] at he
  obtain ⟨ha, ht, _⟩ := he
  have hv := valid_of ha
  have hlv0 := hv.lv0
  have hlv1 := hv.lv1
  have hnp := hv.np
  obtain ⟨ht1, ht2⟩ := times_ok ht
  have ho := fun π => e_openTimes_ok (π := π) l n m h ha ats hd
  rw [ht] at ho
  have hr := fun π => e_rests (π := π) l n m hv
  have hRl : (restN l n m).length = n.leaves.toNat + n.placed.length := restL_len _ _ _
  have hRb : Bnd (restN l n m) 3000000 := (restL_in n (delaysN l n m) hv.D_ge _).mono (by omega)
  have hDl : (delaysN l n m).length = n.placed.length := by simp [delaysN]
  have h0 := crit_loop0 (π := π) l n m (restN l n m) (delaysN l n m) ats hRb ht2 (by omega) (by omega) ats [] 0 (-1)
  rw [show (([] : List Int).length) = 0 from rfl] at h0
  unfold critP
  unfold critB at *
  have hb : ∃ q : Nat, (critGo (restN l n m) 0 ats 0 (-1)).1 = q ∧ q < ats.length := by
    rcases critGo_in (restN l n m) ats 0 0 (-1) with hh | ⟨q, t, _, g2, g3, _⟩
    · rw [hh] at hk; exact absurd rfl hk
    · exact ⟨q, g3, by have := (List.getElem?_eq_some_iff.1 g2).1; omega⟩
  obtain ⟨q, hq, hql⟩ := hb
  have h1 := crit_loop1 (π := π) l n m hv (restN l n m) (delaysN l n m) hDl hv.D_ge hRl hRb (critGo (restN l n m) 0 ats 0 (-1)).2 (fun p hp h0 => rest_next n (delaysN l n m) p hp h0) (n.leaves.toNat + n.placed.length) q [(q : Int)]
  rw [hq] at h0 ⊢
  rw [show ((q : Nat) : Int).toNat = q from Int.toNat_natCast q]
  generalize critW n (delaysN l n m) (restN l n m) (n.leaves.toNat + n.placed.length) q [(q : Int)] = W at *
  generalize (critGo (restN l n m) 0 ats 0 (-1)).2 = k at *
  generalize delaysN l n m = D at *
  generalize restN l n m = R at *
  simp [e_timing_CriticalPath, run_eq, c_timing_CriticalPath, ho, hr]
  rw [h0 _ rfl (by simp)]
  simp [hk, thaw, thaw1]
  rw [h1 _ (by omega) (by omega) (by simp; omega) (by simp)]
  simp

end Go.Proofs.YtafomlbikcphgabGreat.V

/- Paths: their errors, their delays, the first one of the greatest delay (plain). -/
namespace Go.Proofs.YtafomlbikcphgabGreat.V
open Go (IntKind BinOp UnOp)
variable {π ρ κ : Id}

abbrev wr (x : Int) : Int := IntKind.i64.wrap x
/-- The error of a path's point. -/
def stepErr (n : Net) (path : List Int) (i : Nat) (p : Int) : Int :=
  if i = 0 then unlE (within p 0 (n.leaves - 1)) 6
  else if within p n.leaves (n.leaves + n.placed.length - 1) = true then unlE (memB (n.placed.getD (p - n.leaves).toNat ⟨0, []⟩).sources (IntKind.i64.wrap (path.getD (i - 1) 0 + 2))) 14 else 6
def pathE (n : Net) (path : List Int) : Int :=
  if path = [] then 10 else if (eachE (stepErr n path) 0 path).2 ≠ 0 then (eachE (stepErr n path) 0 path).2 else unlE (memB n.outs (IntKind.i64.wrap (path.getLastD 0 + 2))) 21

/-- The delays of some cells' points. -/
def sumD (lv : Int) (D : List Int) : List Int → Int → Int
  | [], a => a
  | p :: r, a => sumD lv D r (a + D.getD (p - lv).toNat 0)
def alongN (n : Net) (D ats path : List Int) : Int := sumD n.leaves D (path.drop 1) (ats.getD (path.headD 0).toNat 0)

/-- Points of a path: a leaf bit, then cells. -/
structure PathIn (n : Net) (path : List Int) : Prop where
  ne : path ≠ []
  h0 : 0 ≤ path.headD 0 ∧ path.headD 0 < n.leaves
  cs : ∀ p ∈ path.drop 1, n.leaves ≤ p ∧ p < n.leaves + n.placed.length
  len : path.length ≤ 1000

theorem sumD_in (lv : Int) (D : List Int) (hD : ∀ i, 0 ≤ D.getD i 0 ∧ D.getD i 0 ≤ 25400) : ∀ (ps : List Int) (a : Int), 0 ≤ a → 0 ≤ sumD lv D ps a ∧ sumD lv D ps a ≤ a + 25400 * (ps.length : Int)
  | [], a, h => by simp [sumD]; omega
  | p :: r, a, h => by
    have hd := hD (p - lv).toNat
    have := sumD_in lv D hD r (a + D.getD (p - lv).toNat 0) (by omega)
    simp only [sumD, List.length_cons]
    omega

theorem step_cells {n : Net} {path : List Int} : ∀ (ps : List Int) (i : Nat), 0 < i → (eachE (stepErr n path) i ps).2 = 0 → ∀ p ∈ ps, n.leaves ≤ p ∧ p < n.leaves + n.placed.length
  | [], i, hi, h, p, hp => by cases hp
  | q :: r, i, hi, h, p, hp => by
    simp only [eachE] at h
    by_cases hz : stepErr n path i q = 0
    · rw [if_pos hz] at h
      rcases List.mem_cons.1 hp with rfl | hp
      · unfold stepErr at hz
        rw [if_neg (by omega)] at hz
        split at hz
        · rename_i hw
          have := within_iff.1 hw
          omega
        · cases hz
      · exact step_cells r (i + 1) (by omega) h p hp
    · rw [if_neg hz] at h
      exact absurd h hz

theorem pathIn_of {n : Net} {path : List Int} (hl : path.length ≤ 1000) (h : pathE n path = 0) : PathIn n path := by
  unfold pathE at h
  split at h
  · cases h
  · rename_i hne
    split at h
    · rename_i hz; exact absurd h hz
    · rename_i hz
      simp only [ne_eq, Decidable.not_not] at hz
      cases path with
      | nil => exact absurd rfl hne
      | cons p r =>
        simp only [eachE] at hz
        by_cases h1 : stepErr n (p :: r) 0 p = 0
        · rw [if_pos h1] at hz
          unfold stepErr at h1
          rw [if_pos rfl, unlE_z (by decide), within_iff] at h1
          exact ⟨hne, by simp; omega, step_cells r 1 (by omega) hz, hl⟩
        · rw [if_neg h1] at hz
          exact absurd hz h1

/-- The error of a path's delay. -/
def errQ (l : List Cell) (n : Net) (m : Model) (ats path : List Int) : Int := if errA l n m ats = 0 then pathE n path else errA l n m ats

/-- The first path of the greatest delay. -/
def critLG (w : List Int → Int) : List (List Int) → Option (List Int) → Option (List Int)
  | [], b => b
  | p :: r, none => critLG w r (some p)
  | p :: r, some b => critLG w r (if w b < w p then some p else some b)
abbrev encBest : Option (List Int) → PV
  | none => .sl 1 (some true) []
  | some b => encInts b

theorem encInts_cons (a : Int) (r : List Int) : encInts (a :: r) = .sl 1 none (I a :: ints r) := rfl

theorem critLG_mem (w : List Int → Int) : ∀ (L : List (List Int)) (b : Option (List Int)) (p : List Int), critLG w L b = some p → p ∈ L ∨ b = some p
  | [], b, p, h => Or.inr h
  | q :: r, b, p, h => by
    cases b with
    | none =>
      simp only [critLG] at h
      cases critLG_mem w r _ p h with
      | inl h => exact Or.inl (List.mem_cons_of_mem _ h)
      | inr h => cases h; exact Or.inl (List.mem_cons_self ..)
    | some b =>
      simp only [critLG] at h
      split at h
      · cases critLG_mem w r _ p h with
        | inl h => exact Or.inl (List.mem_cons_of_mem _ h)
        | inr h => cases h; exact Or.inl (List.mem_cons_self ..)
      · cases critLG_mem w r _ p h with
        | inl h => exact Or.inl (List.mem_cons_of_mem _ h)
        | inr h => exact Or.inr h

theorem critLG_some (w : List Int → Int) : ∀ (L : List (List Int)) (b : List Int), ∃ c, critLG w L (some b) = some c
  | [], b => ⟨b, rfl⟩
  | q :: r, b => by
    simp only [critLG]
    split
    · exact critLG_some w r q
    · exact critLG_some w r b
end Go.Proofs.YtafomlbikcphgabGreat.V

/- Errors and delays of paths. -/
namespace Go.Proofs.YtafomlbikcphgabGreat.V
open Go (IntKind BinOp UnOp)
variable {π ρ κ : Id}

abbrev cells4 (l : List Cell) (n : Net) : List PV := [I n.leaves, encPlaceds n.placed, encInts n.outs, encLib l]

theorem e_isEndW (l : List Cell) (n : Net) (m : Model) (hv : Valid l n m) (p : Int) : EE π n_timing_net_isEnd [.p (.agg (cells4 l n)), .p (I p)] [] = some (.p (.bool (memB n.outs (IntKind.i64.wrap (p + 2)))), []) := by
  have hno := hv.no
  have hc := fun π => e_Contains (π := π) n.outs (by simp only [top63]; omega) (IntKind.i64.wrap (p + 2))
  simp [e_timing_net_isEnd, run_eq, c_timing_net_isEnd, hc]

theorem e_netHasW (l : List Cell) (n : Net) (m : Model) (hv : Valid l n m) (q p : Int) (h0 : n.leaves ≤ q) (h1 : q ≤ n.leaves + n.placed.length - 1) : EE π n_timing_net_has [.p (.agg (cells4 l n)), .p (I q), .p (I p)] [] = some (.p (.bool (memB (n.placed.getD (q - n.leaves).toNat ⟨0, []⟩).sources (IntKind.i64.wrap (p + 2)))), []) := by
  have hlv0 := hv.lv0
  have hlv1 := hv.lv1
  have hnp := hv.np
  have hi : (q - n.leaves).toNat < n.placed.length := by omega
  have hi' : q - n.leaves < (n.placed.length : Int) := by omega
  have hw2 : IntKind.i64.wrap (q - n.leaves) = q - n.leaves := w64 ⟨by omega, by omega⟩
  have hmem : n.placed[(q - n.leaves).toNat] ∈ n.placed := List.getElem_mem hi
  obtain ⟨_, _, _, _, _, hs3⟩ := hv.cell _ hmem
  have hg : n.placed.getD (q - n.leaves).toNat ⟨0, []⟩ = n.placed[(q - n.leaves).toNat] := by simp [List.getD, hi]
  have hc := fun π => e_Contains (π := π) n.placed[(q - n.leaves).toNat].sources (by simp only [top63]; omega) (IntKind.i64.wrap (p + 2))
  rw [hg]
  simp [e_timing_net_has, run_eq, c_timing_net_has, hw2, h0, hi, hi', hc]

theorem e_pathErr1 (l : List Cell) (n : Net) (m : Model) (hv : Valid l n m) (path : List Int) (hpl : path.length ≤ 1000) (i : Nat) (p : Int) (hp : path[i]? = some p) :
    EE π n_timing_net_pathErr_1 [.p (I i), .p (I p), .p (.ptr (cells4 l n)), .p (.ptr [encInts path])] [] = some (.p (I (stepErr n path i p)), []) := by
  have hlv0 := hv.lv0
  have hlv1 := hv.lv1
  have hnp := hv.np
  have hil : i < path.length := (List.getElem?_eq_some_iff.1 hp).1
  have hcell := fun π => e_isCell (π := π) l n m hv p
  have hw1 : IntKind.i64.wrap (n.leaves - 1) = n.leaves - 1 := w64 ⟨by omega, by omega⟩
  unfold stepErr
  by_cases hi : i = 0
  · subst hi
    simp [e_timing_net_pathErr_1, run_eq, c_timing_net_pathErr_1, hw1, e_withinT, e_unlessT]
  · rw [if_neg hi]
    have hi' : ¬ (i : Int) = 0 := by omega
    have hl1 : i - 1 < path.length := by omega
    have hw2 : IntKind.i64.wrap ((i : Int) - 1) = ((i - 1 : Nat) : Int) := by rw [show (i : Int) - 1 = ((i - 1 : Nat) : Int) by omega]; exact w64 ⟨by omega, by omega⟩
    have hg : path.getD (i - 1) 0 = path[i - 1] := by simp [List.getD, hl1]
    rw [hg]
    cases hc : within p n.leaves (n.leaves + n.placed.length - 1) with
    | true =>
      rw [hc] at hcell
      obtain ⟨h0, h1⟩ := within_iff.1 hc
      have hh := fun π => e_netHasW (π := π) l n m hv p path[i - 1] h0 h1
      rw [if_pos rfl]
      simp [e_timing_net_pathErr_1, run_eq, c_timing_net_pathErr_1, hi, hi', hcell, hw2, hl1, hh, e_unlessT]
    | false =>
      rw [hc] at hcell
      simp [e_timing_net_pathErr_1, run_eq, c_timing_net_pathErr_1, hi, hi', hcell]

theorem e_pathErrT (l : List Cell) (n : Net) (m : Model) (hv : Valid l n m) (path : List Int) (hpl : path.length ≤ 1000) :
    EE π n_timing_net_pathErr [.p (.agg (cells4 l n)), .p (encInts path)] [] = some (.p (I (pathE n path)), []) := by
  unfold pathE
  by_cases h0 : path = []
  · subst h0
    simp [e_timing_net_pathErr, run_eq, c_timing_net_pathErr]
  · rw [if_neg h0]
    have hp0 : 0 < path.length := List.length_pos_iff.2 h0
    have hne : ¬ path.length = 0 := by omega
    have hlt : path.length - 1 < path.length := by omega
    have hlast : path[path.length - 1] = path.getLastD 0 := by
      rw [List.getLastD_eq_getLast?, List.getLast?_eq_getElem?, List.getElem?_eq_getElem hlt]; rfl
    have hw : IntKind.i64.wrap ((path.length : Int) - 1) = ((path.length - 1 : Nat) : Int) := by rw [show (path.length : Int) - 1 = ((path.length - 1 : Nat) : Int) by omega]; exact w64 ⟨by omega, by omega⟩
    have he := fun π => e_eachT (π := π) path (by simp only [top63]; omega) (f := n_timing_net_pathErr_1) (caps := [.ptr (cells4 l n), .ptr [encInts path]]) (err := stepErr n path) (fun i p hp => by
      simpa using e_pathErr1 l n m hv path hpl i p hp)
    have hend := fun π => e_isEndW (π := π) l n m hv (path.getLastD 0)
    by_cases hz : (eachE (stepErr n path) 0 path).2 = 0
    · rw [if_neg (by simpa using hz)]
      rw [hz] at he
      generalize (eachE (stepErr n path) 0 path).1 = ii at *
      generalize path.getLastD 0 = last at *
      simp [e_timing_net_pathErr, run_eq, c_timing_net_pathErr, h0, hne, he, hw, hlt, hlast, hend, e_unlessT]
    · rw [if_pos hz]
      generalize (eachE (stepErr n path) 0 path).1 = ii at *
      generalize (eachE (stepErr n path) 0 path).2 = ee at *
      simp [e_timing_net_pathErr, run_eq, c_timing_net_pathErr, h0, hne, he, hz]

end Go.Proofs.YtafomlbikcphgabGreat.V

/- Delays of paths; the reference's errors, delays and critical path. -/
namespace Go.Proofs.YtafomlbikcphgabGreat.V
open Go (IntKind BinOp UnOp)
variable {π ρ κ : Id}

theorem along_loop (l : List Cell) (n : Net) (m : Model) (hv : Valid l n m) (D : List Int) (hDl : D.length = n.placed.length) (hD : ∀ i, 0 ≤ D.getD i 0 ∧ D.getD i 0 ≤ 25400) (ps : List Int) (fl : Option Bool) (hps : ∀ p ∈ ps, n.leaves ≤ p ∧ p < n.leaves + n.placed.length) (hpl : ps.length ≤ 1000) :
    ∀ (suf pre : List Int) (a : Int) (x : Env × Sto), ps = pre ++ suf → 0 ≤ a → a ≤ 1000000 + 25400 * (pre.length : Int) →
    mask [3, 7, 17, 18, 19] [] x = some ([(3, .ref (3 :: π) 0), (7, .p (I a)), (17, .p (.sl 1 fl (ints ps))), (18, .p (I ps.length)), (19, .p (I pre.length))], [(3 :: π, boxT l n m D)]) →
    kpO [7] [6] [] (bkO 0 (iter (round EE iter π [] [3, 7, 17, 18, 19] c_timing_timed_along_L0) x)) = some (.nm, [(7, .p (I (sumD n.leaves D suf a)))], [])
  | [], pre, a, x, h, h0, h1, hm => by
    rw [loop_eq hm]
    have : ps = pre := by simpa using h
    rw [← this]
    simp [u_timing_timed_along_L0, b_timing_timed_along_L0, sumD]
  | y :: suf, pre, a, x, h, h0, h1, hm => by
    rw [loop_eq hm]
    have hlen : pre.length < ps.length := by rw [h]; simp
    have hy := hps y (by rw [h]; simp)
    have hlv0 := hv.lv0
    have hlv1 := hv.lv1
    have hnp := hv.np
    have hdel := fun π => e_delay (π := π) l n m D y.toNat hlv0 hlv1 (by omega) (by omega) (by omega)
    rw [show ((y.toNat : Nat) : Int) = y by omega, show y.toNat - n.leaves.toNat = (y - n.leaves).toNat by omega] at hdel
    have hd := hD (y - n.leaves).toNat
    have hws := w_succ hlen (show ps.length ≤ top63 by simp only [top63]; omega)
    have hnext := along_loop l n m hv D hDl hD ps fl hps hpl suf (pre ++ [y])
    rw [show (pre ++ [y]).length = pre.length + 1 by simp] at hnext
    simp only [sumD]
    generalize D.getD (y - n.leaves).toNat 0 = d at *
    have hw : IntKind.i64.wrap (a + d) = a + d := w64 ⟨by omega, by omega⟩
    simp [u_timing_timed_along_L0, b_timing_timed_along_L0, lt_mid h, get_mid _ h, hdel, hw]
    exact hnext _ _ (by simp [h]) (by omega) (by omega) (by simp [hws])

theorem e_along (l : List Cell) (n : Net) (m : Model) (hv : Valid l n m) (D : List Int) (hDl : D.length = n.placed.length) (hD : ∀ i, 0 ≤ D.getD i 0 ∧ D.getD i 0 ≤ 25400) (ats path : List Int) (ha : (ats.length : Int) = n.leaves) (hat : ∀ v ∈ ats, 0 ≤ v ∧ v ≤ 1000000) (hp : PathIn n path) :
    EE π n_timing_timed_along [.p (.agg (cellsP l n m D)), .p (encInts ats), .p (encInts path)] [] = some (.p (I (alongN n D ats path)), []) := by
  have hlv1 := hv.lv1
  have hne := hp.ne
  have hh0 := hp.h0
  have hcs := hp.cs
  have hlen := hp.len
  cases path with
  | nil => exact absurd rfl hne
  | cons p0 r =>
    simp only [List.headD_cons, List.drop_succ_cons, List.drop_zero, List.length_cons] at hh0 hcs hlen
    have hl := fun fl => along_loop (π := π) l n m hv D hDl hD r fl hcs (by omega) r [] (ats.getD p0.toNat 0)
    have hlt : p0.toNat < ats.length := by omega
    have hlt' : p0 < (ats.length : Int) := by omega
    have hg : ats.getD p0.toNat 0 = ats[p0.toNat] := by simp [List.getD, hlt]
    have hb := hat ats[p0.toNat] (List.getElem_mem hlt)
    unfold alongN
    simp only [List.headD_cons, List.drop_succ_cons, List.drop_zero]
    rw [hg] at hl ⊢
    generalize hga : ats[p0.toNat] = a at *
    have hl1 := hl none
    generalize sumD n.leaves D r a = S at *
    have hr0 : (0 : Int) ≤ (r.length : Int) + 1 := by omega
    have htk : List.take r.length (List.map I r) = List.map I r := List.take_of_length_le (by simp)
    simp [e_timing_timed_along, run_eq, c_timing_timed_along, hlt, hlt', hh0.1, hga, hr0, htk]
    rw [hl1 _ rfl hb.1 (by have := hb.2; simp; omega) (by simp)]
    simp

end Go.Proofs.YtafomlbikcphgabGreat.V

/- The reference's errors of paths, delays, and the critical path. -/
namespace Go.Proofs.YtafomlbikcphgabGreat.V
open Go (IntKind BinOp UnOp)
variable {π ρ κ : Id}

theorem perr_loop (l : List Cell) (n : Net) (m : Model) (hv : Valid l n m) (path : List Int) (hpl : path.length ≤ 1000) : ∀ (suf pre : List Int) (x : Env × Sto), path = pre ++ suf →
    mask [1, 2, 5] [] x = some ([(1, .p (encInts path)), (2, .ref (2 :: π) 0), (5, .p (I pre.length))], [(2 :: π, boxN n)]) →
    kpO [1, 2] [4] [] (bkO 0 (iter (round EE iter π [] [1, 2, 5] c_ratchetref28_PathErr_L0) x)) =
      (if (eachE (stepErr n path) pre.length suf).2 = 0 then some (.nm, [(1, .p (encInts path)), (2, .ref (2 :: π) 0)], [(2 :: π, boxN n)]) else some (.rt, [(4, .p (I (eachE (stepErr n path) pre.length suf).2))], []))
  | [], pre, x, h, hm => by
    rw [loop_eq hm]
    have : path = pre := by simpa using h
    rw [← this]
    simp [u_ratchetref28_PathErr_L0, b_ratchetref28_PathErr_L0, eachE]
  | y :: suf, pre, x, h, hm => by
    rw [loop_eq hm]
    have hlen : pre.length < path.length := by rw [h]; simp
    have hlv0 := hv.lv0
    have hlv1 := hv.lv1
    have hnp := hv.np
    have hw1 : IntKind.i64.wrap (n.leaves - 1) = n.leaves - 1 := w64 ⟨by omega, by omega⟩
    have hpts := fun π => e_Points (π := π) n
    have hw : IntKind.i64.wrap (n.leaves + n.placed.length) = n.leaves + n.placed.length := w64 ⟨by omega, by omega⟩
    have hw3 : IntKind.i64.wrap (n.leaves + n.placed.length - 1) = n.leaves + n.placed.length - 1 := w64 ⟨by omega, by omega⟩
    rw [hw] at hpts
    have hws := w_succ hlen (show path.length ≤ top63 by simp only [top63]; omega)
    have hnext := perr_loop l n m hv path hpl suf (pre ++ [y])
    rw [show (pre ++ [y]).length = pre.length + 1 by simp] at hnext
    simp only [eachE]
    have hse : stepErr n path pre.length y = if pre.length = 0 then unlE (within y 0 (n.leaves - 1)) 6
      else if within y n.leaves (n.leaves + n.placed.length - 1) = true then unlE (memB (n.placed.getD (y - n.leaves).toNat ⟨0, []⟩).sources (IntKind.i64.wrap (path.getD (pre.length - 1) 0 + 2))) 14 else 6 := rfl
    by_cases hi : pre.length = 0
    · have hpe : pre = [] := List.eq_nil_of_length_eq_zero hi
      have hl0 : 0 < path.length := by omega
      have hg0 : path[0] = y := by simp [h, hpe]
      rw [if_pos hi] at hse
      cases hb : within y 0 (n.leaves - 1) with
      | false =>
        rw [hb] at hse
        simp only [unlE, Bool.false_eq_true, if_false] at hse
        simp only [hse]
        simp [u_ratchetref28_PathErr_L0, b_ratchetref28_PathErr_L0, hpe, hl0, hg0, hw1, e_Within, hb]
      | true =>
        rw [hb] at hse
        simp only [unlE, if_true] at hse
        simp only [hse, if_true]
        rw [hpe] at hnext hws ⊢
        simp [u_ratchetref28_PathErr_L0, b_ratchetref28_PathErr_L0, hl0, hg0, hw1, e_Within, hb]
        exact hnext _ (by simp [h, hpe]) (by simpa using hws)
    · have hi' : ¬ (pre.length : Int) = 0 := by omega
      have hi3 : 0 < pre.length := by omega
      have hpn : ¬ pre = [] := fun hh => hi (by rw [hh]; rfl)
      have hi2 : (0 : Int) < pre.length := by omega
      rw [if_neg hi] at hse
      have hl1 : pre.length - 1 < path.length := by omega
      have hwp : IntKind.i64.wrap ((pre.length : Int) - 1) = ((pre.length - 1 : Nat) : Int) := by rw [show (pre.length : Int) - 1 = ((pre.length - 1 : Nat) : Int) by omega]; exact w64 ⟨by omega, by omega⟩
      have hg : path.getD (pre.length - 1) 0 = path[pre.length - 1] := by simp [List.getD, hl1]
      rw [hg] at hse
      cases hc : within y n.leaves (n.leaves + n.placed.length - 1) with
      | false =>
        rw [hc] at hse
        simp only [Bool.false_eq_true, if_false] at hse
        simp only [hse]
        simp [u_ratchetref28_PathErr_L0, b_ratchetref28_PathErr_L0, lt_mid h, get_mid _ h, hpn, hi', hi2, hi3, hpts, hw3, e_Within, hc]
      | true =>
        obtain ⟨hy0, hy1⟩ := within_iff.1 hc
        have hyl : (y - n.leaves).toNat < n.placed.length := by omega
        have hyl' : y - n.leaves < (n.placed.length : Int) := by omega
        have hwy : IntKind.i64.wrap (y - n.leaves) = y - n.leaves := w64 ⟨by omega, by omega⟩
        have hmem : n.placed[(y - n.leaves).toNat] ∈ n.placed := List.getElem_mem hyl
        obtain ⟨_, _, _, _, _, hs3⟩ := hv.cell _ hmem
        have hgp : n.placed.getD (y - n.leaves).toNat ⟨0, []⟩ = n.placed[(y - n.leaves).toNat] := by simp [List.getD, hyl]
        have hh := fun π => e_Has (π := π) n.placed[(y - n.leaves).toNat].sources (by simp only [top63]; omega) (IntKind.i64.wrap (path[pre.length - 1] + 2))
        rw [hc, if_pos rfl, hgp] at hse
        cases hb : memB n.placed[(y - n.leaves).toNat].sources (IntKind.i64.wrap (path[pre.length - 1] + 2)) with
        | false =>
          rw [hb] at hh hse
          simp only [unlE, Bool.false_eq_true, if_false] at hse
          simp only [hse]
          simp [u_ratchetref28_PathErr_L0, b_ratchetref28_PathErr_L0, lt_mid h, get_mid _ h, hpn, hi', hi2, hi3, hpts, hw3, e_Within, hc, hwy, hyl, hyl', hy0, hwp, hl1, hh]
        | true =>
          rw [hb] at hh hse
          simp only [unlE, if_true] at hse
          simp only [hse, if_true]
          simp [u_ratchetref28_PathErr_L0, b_ratchetref28_PathErr_L0, lt_mid h, get_mid _ h, hpn, hi', hi2, hi3, hpts, hw3, e_Within, hc, hwy, hyl, hyl', hy0, hwp, hl1, hh]
          exact (hnext _ (by simp [h]) (by simp [hws]))

theorem e_PathErr (l : List Cell) (n : Net) (m : Model) (hv : Valid l n m) (path : List Int) (hpl : path.length ≤ 1000) : EE π n_ratchetref28_PathErr [.p (encNet n), .p (encInts path)] [] = some (.p (I (pathE n path)), []) := by
  have hno := hv.no
  have hl := perr_loop (π := π) l n m hv path hpl path []
  rw [show ([] : List Int).length = 0 from rfl] at hl
  unfold pathE
  by_cases h0 : path = []
  · subst h0
    simp [e_ratchetref28_PathErr, run_eq, c_ratchetref28_PathErr]
  · rw [if_neg h0]
    have hp0 : 0 < path.length := List.length_pos_iff.2 h0
    have hne : ¬ path.length = 0 := by omega
    have hlt : path.length - 1 < path.length := by omega
    have hlast : path[path.length - 1] = path.getLastD 0 := by
      rw [List.getLastD_eq_getLast?, List.getLast?_eq_getElem?, List.getElem?_eq_getElem hlt]; rfl
    have hw : IntKind.i64.wrap ((path.length : Int) - 1) = ((path.length - 1 : Nat) : Int) := by rw [show (path.length : Int) - 1 = ((path.length - 1 : Nat) : Int) by omega]; exact w64 ⟨by omega, by omega⟩
    have hh := fun π => e_Has (π := π) n.outs (by simp only [top63]; omega) (IntKind.i64.wrap (path.getLastD 0 + 2))
    by_cases hz : (eachE (stepErr n path) 0 path).2 = 0
    · rw [if_neg (by simpa using hz)]
      rw [if_pos hz] at hl
      generalize path.getLastD 0 = last at *
      simp [e_ratchetref28_PathErr, run_eq, c_ratchetref28_PathErr, h0, hne]
      rw [hl _ rfl (by simp)]
      cases hb : memB n.outs (IntKind.i64.wrap (last + 2)) with
      | false => rw [hb] at hh; simp [hw, hlt, hlast, hh, unlE]
      | true => rw [hb] at hh; simp [hw, hlt, hlast, hh, unlE]
    · rw [if_pos hz]
      rw [if_neg hz] at hl
      generalize (eachE (stepErr n path) 0 path).2 = ee at *
      simp [e_ratchetref28_PathErr, run_eq, c_ratchetref28_PathErr, h0, hne]
      rw [hl _ rfl (by simp)]
      simp

end Go.Proofs.YtafomlbikcphgabGreat.V

/- The reference's delays of paths, and its critical path. -/
namespace Go.Proofs.YtafomlbikcphgabGreat.V
open Go (IntKind BinOp UnOp)
variable {π ρ κ : Id}

theorem pdelay_loop (l : List Cell) (n : Net) (m : Model) (hv : Valid l n m) (D : List Int) (nd : Option Bool) (hDl : D.length = n.placed.length) (hD : ∀ i, 0 ≤ D.getD i 0 ∧ D.getD i 0 ≤ 25400) (path : List Int) (hpl : path.length ≤ 1000) (hcs : ∀ p ∈ path.drop 1, n.leaves ≤ p ∧ p < n.leaves + n.placed.length) :
    ∀ (suf pre : List Int) (a : Int) (x : Env × Sto), path = pre ++ suf → 0 < pre.length → 0 ≤ a → a ≤ 1000000 + 25400 * (pre.length : Int) →
    mask [4, 6, 11, 12, 13] [] x = some ([(4, .p (encInts path)), (6, .ref (6 :: π) 0), (11, .p (I a)), (12, .ap (1007 :: 23 :: π)), (13, .p (I pre.length))], [rowI (1007 :: 23 :: π) nd D, (6 :: π, boxN n)]) →
    kpO [11] [10] [] (bkO 0 (iter (round EE iter π [] [4, 6, 11, 12, 13] c_ratchetref28_Delay_L0) x)) = some (.nm, [(11, .p (I (sumD n.leaves D suf a)))], [])
  | [], pre, a, x, h, hp0, h0, h1, hm => by
    rw [loop_eq hm]
    have : path = pre := by simpa using h
    rw [← this]
    simp [u_ratchetref28_Delay_L0, b_ratchetref28_Delay_L0, sumD]
  | y :: suf, pre, a, x, h, hp0, h0, h1, hm => by
    rw [loop_eq hm]
    have hlen : pre.length < path.length := by rw [h]; simp
    have hy := hcs y (by
      rw [h]
      cases pre with
      | nil => simp at hp0
      | cons z q => simp)
    have hlv0 := hv.lv0
    have hlv1 := hv.lv1
    have hnp := hv.np
    have hyl : (y - n.leaves).toNat < D.length := by omega
    have hyl' : y - n.leaves < (D.length : Int) := by omega
    have hwy : IntKind.i64.wrap (y - n.leaves) = y - n.leaves := w64 ⟨by omega, by omega⟩
    have hg : D.getD (y - n.leaves).toNat 0 = D[(y - n.leaves).toNat] := by simp [List.getD, hyl]
    have hd := hD (y - n.leaves).toNat
    rw [hg] at hd
    have hws := w_succ hlen (show path.length ≤ top63 by simp only [top63]; omega)
    have hnext := pdelay_loop l n m hv D nd hDl hD path hpl hcs suf (pre ++ [y])
    rw [show (pre ++ [y]).length = pre.length + 1 by simp] at hnext
    simp only [sumD]
    rw [hg]
    generalize hdd : D[(y - n.leaves).toNat] = d at *
    have hw : IntKind.i64.wrap (a + d) = a + d := w64 ⟨by omega, by omega⟩
    have hy0 := hy.1
    simp [u_ratchetref28_Delay_L0, b_ratchetref28_Delay_L0, lt_mid h, get_mid _ h, hwy, hyl, hyl', hy0, hdd, hw]
    exact hnext _ _ (by simp [h]) (by omega) (by omega) (by omega) (by simp [hws])

theorem e_DelayR (l : List Cell) (n : Net) (m : Model) (hv : Valid l n m) (ats path : List Int) (ha : (ats.length : Int) = n.leaves) (hat : ∀ v ∈ ats, 0 ≤ v ∧ v ≤ 1000000) (hp : PathIn n path) :
    EE π n_ratchetref28_Delay [.p (encLib l), .p (encNet n), .p (encModel m), .p (encInts ats), .p (encInts path)] [] = some (.p (I (alongN n (delaysN l n m) ats path)), []) := by
  have hlv1 := hv.lv1
  have hne := hp.ne
  have hh0 := hp.h0
  have hcs := hp.cs
  have hlen := hp.len
  have hDl : (delaysN l n m).length = n.placed.length := by simp [delaysN]
  have hd := fun π => e_Delays (π := π) l n m hv
  cases path with
  | nil => exact absurd rfl hne
  | cons p0 r =>
    have hl := pdelay_loop (π := π) l n m hv (delaysN l n m) (flagE n.placed) hDl hv.D_ge (p0 :: r) hlen hcs r [p0] (ats.getD p0.toNat 0)
    simp only [List.headD_cons] at hh0
    have hlt : p0.toNat < ats.length := by omega
    have hlt' : p0 < (ats.length : Int) := by omega
    have hg : ats.getD p0.toNat 0 = ats[p0.toNat] := by simp [List.getD, hlt]
    have hb := hat ats[p0.toNat] (List.getElem_mem hlt)
    unfold alongN
    simp only [List.headD_cons, List.drop_succ_cons, List.drop_zero]
    rw [hg] at hl ⊢
    generalize hga : ats[p0.toNat] = a at *
    generalize delaysN l n m = D at *
    generalize sumD n.leaves D r a = S at *
    simp [e_ratchetref28_Delay, run_eq, c_ratchetref28_Delay, hlt, hlt', hh0.1, hga, hd]
    rw [hl _ rfl (by simp) hb.1 (by have := hb.2; simp; omega) (by simp)]
    simp

abbrev encPs (L : List (List Int)) : PV := .sl 1 none (L.map encInts)
@[simp] theorem fgL_encL (L : List (List Int)) : PV.fg.PV.fgL (L.map encL) = L.map encInts := fgL_map _ _ (fun x => by simp) L
@[simp] theorem fgL_encI (L : List (List Int)) : PV.fg.PV.fgL (L.map encInts) = L.map encInts := fgL_map _ _ (fun x => by simp) L

theorem crit_loopR (l : List Cell) (n : Net) (m : Model) (hv : Valid l n m) (ats : List Int) (ha : (ats.length : Int) = n.leaves) (hat : ∀ v ∈ ats, 0 ≤ v ∧ v ≤ 1000000) (L : List (List Int)) (hL : ∀ p ∈ L, PathIn n p) (hLl : L.length ≤ 100000) :
    ∀ (suf pre : List (List Int)) (b : Option (List Int)) (x : Env × Sto), L = pre ++ suf → (∀ p, b = some p → PathIn n p) →
    mask [0, 3, 4, 6, 7, 12, 13] [] x = some ([(0, .p (encLib l)), (3, .p (encInts ats)), (4, .p (encPs L)), (6, .ref (6 :: π) 0), (7, .ref (7 :: π) 0), (12, .p (encBest b)), (13, .p (I pre.length))], [(7 :: π, boxM m), (6 :: π, boxN n)]) →
    kpO [12] [10, 11] [] (bkO 0 (iter (round EE iter π [] [0, 3, 4, 6, 7, 12, 13] c_ratchetref28_Critical_L0) x)) = some (.nm, [(12, .p (encBest (critLG (alongN n (delaysN l n m) ats) suf b)))], [])
  | [], pre, b, x, h, hb, hm => by
    rw [loop_eq hm]
    have : L = pre := by simpa using h
    rw [← this]
    simp [u_ratchetref28_Critical_L0, b_ratchetref28_Critical_L0, critLG]
  | y :: suf, pre, b, x, h, hb, hm => by
    rw [loop_eq hm]
    have hlen : pre.length < L.length := by rw [h]; simp
    have hyg : L[pre.length]? = some y := by rw [h]; simp
    have hyg2 : L[pre.length] = y := by simpa [List.getElem?_eq_getElem hlen] using hyg
    have hy := hL y (by rw [h]; simp)
    have hws := w_succ hlen (show L.length ≤ top63 by simp only [top63]; omega)
    have hdy := fun π => e_DelayR (π := π) l n m hv ats y ha hat hy
    have hnext := crit_loopR l n m hv ats ha hat L hL hLl suf (pre ++ [y])
    rw [show (pre ++ [y]).length = pre.length + 1 by simp] at hnext
    cases b with
    | none =>
      simp only [critLG]
      have hn := hnext (some y)
      generalize critLG (alongN n (delaysN l n m) ats) suf (some y) = Z at *
      simp [u_ratchetref28_Critical_L0, b_ratchetref28_Critical_L0, hlen, hyg2, encBest, encInts_cons]
      exact hn _ (by simp [h]) (fun p hp => by cases hp; exact hy) (by simp [hws, encBest, encInts_cons])
    | some b =>
      have hbi := hb b rfl
      have hdb := fun π => e_DelayR (π := π) l n m hv ats b ha hat hbi
      simp only [critLG]
      have hn1 := hnext (some y)
      have hn2 := hnext (some b)
      generalize alongN n (delaysN l n m) ats = w at *
      cases b with
      | nil => exact absurd rfl hbi.ne
      | cons b0 br =>
        have hdb' : ∀ π : Id, EE π n_ratchetref28_Delay [.p (encLib l), .p (encNet n), .p (encModel m), .p (encInts ats), .p (.sl 1 none (I b0 :: ints br))] [] = some (.p (I (w (b0 :: br))), []) := hdb
        by_cases hc : w (b0 :: br) < w y
        · rw [if_pos hc]
          generalize critLG w suf (some y) = Z at *
          simp [u_ratchetref28_Critical_L0, b_ratchetref28_Critical_L0, hlen, hyg2, hdy, hdb', hc, freeze, encBest, encInts_cons]
          exact hn1 _ (by simp [h]) (fun p hp => by cases hp; exact hy) (by simp [hws, encBest, encInts_cons])
        · rw [if_neg hc]
          generalize critLG w suf (some (b0 :: br)) = Z at *
          simp [u_ratchetref28_Critical_L0, b_ratchetref28_Critical_L0, hlen, hyg2, hdy, hdb', hc, freeze, encBest, encInts_cons]
          exact hn2 _ (by simp [h]) (fun p hp => by cases hp; exact hbi) (by simp [hws, encBest, encInts_cons])

theorem e_Critical (l : List Cell) (n : Net) (m : Model) (hv : Valid l n m) (ats : List Int) (ha : (ats.length : Int) = n.leaves) (hat : ∀ v ∈ ats, 0 ≤ v ∧ v ≤ 1000000) (L : List (List Int)) (hL : ∀ p ∈ L, PathIn n p) (hLl : L.length ≤ 100000) :
    EE π n_ratchetref28_Critical [.p (encLib l), .p (encNet n), .p (encModel m), .p (encInts ats), .p (encPs L)] [] =
      some (.p (.tup [encBest (critLG (alongN n (delaysN l n m) ats) L none), .bool (critLG (alongN n (delaysN l n m) ats) L none).isSome]), []) := by
  have hl := crit_loopR (π := π) l n m hv ats ha hat L hL hLl L [] none
  have hin : ∀ (L : List (List Int)) (b : Option (List Int)), (∀ p ∈ L, PathIn n p) → (∀ p, b = some p → PathIn n p) → ∀ p, critLG (alongN n (delaysN l n m) ats) L b = some p → PathIn n p := by
    intro L
    induction L with
    | nil => intro b _ hb p hp; exact hb p hp
    | cons q r ih =>
      intro b hL hb p hp
      cases b with
      | none => exact ih (some q) (fun p hp => hL p (by simp [hp])) (fun p hp => by cases hp; exact hL _ (by simp)) p hp
      | some b =>
        simp only [critLG] at hp
        refine ih _ (fun p hp => hL p (by simp [hp])) (fun p hp => ?_) p hp
        split at hp
        · cases hp; exact hL _ (by simp)
        · exact hb p hp
  have hZ := hin L none hL (fun p hp => by cases hp)
  generalize critLG (alongN n (delaysN l n m) ats) L none = Z at *
  cases Z with
  | none =>
    simp [e_ratchetref28_Critical, run_eq, c_ratchetref28_Critical]
    rw [hl _ rfl (fun p hp => by cases hp) (by simp [encBest, encInts_cons])]
    simp [encBest, encInts_cons]
  | some b =>
    have hb := hZ b rfl
    cases b with
    | nil => exact absurd rfl hb.ne
    | cons b0 br =>
      simp [e_ratchetref28_Critical, run_eq, c_ratchetref28_Critical]
      rw [hl _ rfl (fun p hp => by cases hp) (by simp [encBest, encInts_cons])]
      simp [encBest, encInts_cons]

end Go.Proofs.YtafomlbikcphgabGreat.V
