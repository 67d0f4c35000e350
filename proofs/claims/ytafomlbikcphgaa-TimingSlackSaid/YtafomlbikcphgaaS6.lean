/- Members, sources, ends. All paths, by the reference. The greatest delays from points to outputs. The critical path, by timing. Paths: their errors, their delays, the first one of the greatest delay (plain). All paths, and the greatest one: plain laws. The critical path is the first one of the greate -/
import Derived.Test.YtafomlbikcphgaaS2

set_option linter.unusedSimpArgs false
set_option linter.unusedVariables false

/- Members, sources, ends. -/
namespace Go.Proofs.Ytafomlbikcphgaa.V
open Go (IntKind BinOp UnOp)
variable {π ρ κ : Id}

/-- Whether a number is in a list. -/
def memB (l : List Int) (x : Int) : Bool := l.any fun y => decide (x = y)
theorem memB_iff {l : List Int} {x : Int} : memB l x = true ↔ x ∈ l := by simp [memB]

theorem idx_loopX (l : List Int) (hl : l.length ≤ top63) (v : Int) : ∀ (suf pre : List Int) (x : Env × Sto), l = pre ++ suf → mask [0, 1, 7, 8] [] x = some ([(0, .p (encInts l)), (1, .p (I v)), (7, .p (I l.length)), (8, .p (I pre.length))], []) →
    kpO [] [4] [] (bkO 0 (iter (round EE iter π [] [0, 1, 7, 8] c_slices_Index_int_int_L0) x)) = (if idxOf (fun y => decide (v = y)) pre.length suf = -1 then some (.nm, [], []) else some (.rt, [(4, .p (I (idxOf (fun y => decide (v = y)) pre.length suf)))], []))
  | [], pre, x, h, hm => by
    rw [loop_eq hm]
    subst h
    simp [u_slices_Index_int_int_L0, b_slices_Index_int_int_L0, idxOf]
  | y :: suf, pre, x, h, hm => by
    rw [loop_eq hm]
    by_cases hpy : v = y
    · have : ¬ ((pre.length : Int) = -1) := by omega
      simp [u_slices_Index_int_int_L0, b_slices_Index_int_int_L0, lt_mid h, get_mid _ h, hpy, idxOf, this]
    · simp [u_slices_Index_int_int_L0, b_slices_Index_int_int_L0, lt_mid h, get_mid _ h, hpy, idxOf]
      rw [show pre.length + 1 = (pre ++ [y]).length by simp]
      exact idx_loopX l hl v suf (pre ++ [y]) _ (by simp [h]) (by simp [w_succ (show pre.length < l.length by have := lt_mid h; omega) hl])
theorem e_Index (l : List Int) (hl : l.length ≤ top63) (v : Int) : EE π n_slices_Index_int_int [.p (encInts l), .p (I v)] [] = some (.p (I (idxOf (fun y => decide (v = y)) 0 l)), []) := by
  simp [e_slices_Index_int_int, run_eq, c_slices_Index_int_int]
  rw [idx_loopX l hl v l [] _ rfl (by simp)]
  by_cases hz : idxOf (fun y => decide (v = y)) 0 l = -1 <;> simp [hz]
theorem e_Contains (l : List Int) (hl : l.length ≤ top63) (v : Int) : EE π n_slices_Contains_int_int [.p (encInts l), .p (I v)] [] = some (.p (.bool (memB l v)), []) := by
  have := idxOf_ge (fun y => decide (v = y)) 0 l
  unfold memB
  rw [← this]
  simp [e_slices_Contains_int_int, run_eq, c_slices_Contains_int_int, e_Index l hl]

theorem has_loop (l : List Int) (hl : l.length ≤ top63) (v : Int) : ∀ (suf pre : List Int) (x : Env × Sto), l = pre ++ suf → mask [0, 1, 5] [] x = some ([(0, .p (encInts l)), (1, .p (I v)), (5, .p (I pre.length))], []) →
    kpO [] [4] [] (bkO 0 (iter (round EE iter π [] [0, 1, 5] c_ratchetbase_Has_L0) x)) = (if memB suf v then some (.rt, [(4, .p (.bool true))], []) else some (.nm, [], []))
  | [], pre, x, h, hm => by
    rw [loop_eq hm]
    subst h
    simp [u_ratchetbase_Has_L0, b_ratchetbase_Has_L0, memB]
  | y :: suf, pre, x, h, hm => by
    rw [loop_eq hm]
    by_cases hpy : y = v
    · simp [u_ratchetbase_Has_L0, b_ratchetbase_Has_L0, lt_mid h, get_mid _ h, hpy, memB]
    · have hpy' : ¬ v = y := fun h => hpy h.symm
      simp [u_ratchetbase_Has_L0, b_ratchetbase_Has_L0, lt_mid h, get_mid _ h, hpy]
      rw [has_loop l hl v suf (pre ++ [y]) _ (by simp [h]) (by simp [w_succ (show pre.length < l.length by have := lt_mid h; omega) hl])]
      simp [memB, hpy']
theorem e_Has (l : List Int) (hl : l.length ≤ top63) (v : Int) : EE π n_ratchetbase_Has [.p (encInts l), .p (I v)] [] = some (.p (.bool (memB l v)), []) := by
  simp [e_ratchetbase_Has, run_eq, c_ratchetbase_Has]
  rw [has_loop l hl v l [] _ rfl (by simp)]
  cases memB l v <;> simp

/-- Whether a placed cell has a point as a source, and whether a point is an end. -/
def srcB (n : Net) (i : Nat) (p : Int) : Bool := memB (n.placed.getD i ⟨0, []⟩).sources (p + 2)
def endB (n : Net) (p : Int) : Bool := memB n.outs (p + 2)

theorem e_isEnd (l : List Cell) (n : Net) (m : Model) (hv : Valid l n m) (p : Int) (h0 : -1000 ≤ p) (h1 : p ≤ 1000) : EE π n_timing_net_isEnd [.p (.agg [I n.leaves, encPlaceds n.placed, encInts n.outs, encLib l]), .p (I p)] [] = some (.p (.bool (endB n p)), []) := by
  have hno := hv.no
  have hw : IntKind.i64.wrap (p + 2) = p + 2 := w64 ⟨by omega, by omega⟩
  have hc := fun π => e_Contains (π := π) n.outs (by simp only [top63]; omega) (p + 2)
  unfold endB
  simp [e_timing_net_isEnd, run_eq, c_timing_net_isEnd, hw, hc]

theorem e_netHas (l : List Cell) (n : Net) (m : Model) (hv : Valid l n m) (i : Nat) (hi : i < n.placed.length) (q p : Int) (hq : q = n.leaves + i) (h0 : -1000 ≤ p) (h1 : p ≤ 1000) : EE π n_timing_net_has [.p (.agg [I n.leaves, encPlaceds n.placed, encInts n.outs, encLib l]), .p (I q), .p (I p)] [] = some (.p (.bool (srcB n i p)), []) := by
  have hlv0 := hv.lv0
  have hlv1 := hv.lv1
  have hnp := hv.np
  have hw : IntKind.i64.wrap (p + 2) = p + 2 := w64 ⟨by omega, by omega⟩
  have hw2 : IntKind.i64.wrap (q - n.leaves) = (i : Int) := by rw [hq, show n.leaves + (i : Int) - n.leaves = i by omega]; exact w64 ⟨by omega, by omega⟩
  have hmem : n.placed[i] ∈ n.placed := List.getElem_mem hi
  obtain ⟨_, _, _, _, _, hs3⟩ := hv.cell _ hmem
  have hg : n.placed.getD i ⟨0, []⟩ = n.placed[i] := by simp [List.getD, hi]
  have hc := fun π => e_Contains (π := π) n.placed[i].sources (by simp only [top63]; omega) (p + 2)
  unfold srcB
  rw [hg]
  simp [e_timing_net_has, run_eq, c_timing_net_has, hw, hw2, hi, hc]


end Go.Proofs.Ytafomlbikcphgaa.V

/- All paths, by the reference. -/
namespace Go.Proofs.Ytafomlbikcphgaa.V
open Go (IntKind BinOp UnOp)
variable {π ρ κ : Id}

abbrev encL (x : List Int) : PV := .sl 1 (some false) (ints x)
abbrev rowL (i : Id) (nl : Option Bool) (L : List (List Int)) : Id × Blk := (i, .row false t_L_int 1 nl (L.map encL))
abbrev rowPl (i : Id) (x : List Int) : Id × Blk := (i, .row true t_int 1 (some false) (ints x))
/-- An id that is not made here. -/
structure Far (id π : Id) : Prop where
  e1 : ∀ a, ¬ id = a :: π
  e2 : ∀ a, ¬ a :: π = id
  e3 : ∀ a b, ¬ id = a :: b :: π
  e4 : ∀ a b, ¬ a :: b :: π = id
  b1 : ∀ a, (id == a :: π) = false
  b2 : ∀ a, (a :: π == id) = false
  b3 : ∀ a b, (id == a :: b :: π) = false
  b4 : ∀ a b, (a :: b :: π == id) = false
/-- An id that is not made here or below. -/
def FarX (id π : Id) : Prop := ∀ l : Id, l ≠ [] → id ≠ l ++ π
theorem far_of {id π : Id} (h1 : ∀ a, id ≠ a :: π) (h2 : ∀ a b, id ≠ a :: b :: π) : Far id π :=
  ⟨h1, fun a h => h1 a h.symm, h2, fun a b h => h2 a b h.symm, fun a => by simpa using h1 a, fun a => by simpa using (h1 a).symm, fun a b => by simpa using h2 a b, fun a b => by simpa using (h2 a b).symm⟩
theorem FarX.far {id π : Id} (h : FarX id π) : Far id π := far_of (fun a => h [a] (by simp)) (fun a b => h [a, b] (by simp))
theorem FarX.down {id π : Id} (h : FarX id π) (a : Nat) : FarX id (a :: π) := fun l _ => by
  have := h (l ++ [a]) (by simp)
  simpa using this
theorem far_new (π : Id) {a b c : Nat} (h : b ≠ c) : Far (a :: b :: π) (c :: π) :=
  far_of (fun d hh => h (by injection hh with _ hh; injection hh)) (fun d e hh => by have := congrArg List.length hh; simp at this)
theorem far_one (π : Id) {a c : Nat} : Far (a :: π) (c :: π) :=
  far_of (fun d hh => by have := congrArg List.length hh; simp at this) (fun d e hh => by have := congrArg List.length hh; simp at this)

/-- Longer paths by the cells from one on. -/
def lonIn (g : List Int → List (List Int) → List (List Int)) (lv : Int) (path : List Int) (last : Int) : Nat → List Placed → List (List Int) → List (List Int)
  | _, [], out => out
  | i, p :: r, out => lonIn g lv path last (i + 1) r (if memB p.sources (last + 2) then g (path ++ [lv + i]) out else out)
def lon (n : Net) (most : Nat) : Nat → List Int → List (List Int) → List (List Int)
  | 0, _, out => out
  | f + 1, path, out => if most < out.length then out else lonIn (lon n most f) n.leaves path (path.getLastD 0) 0 n.placed (if endB n (path.getLastD 0) then out ++ [path] else out)

theorem lonIn_len (n : Net) (most : Nat) (path : List Int) (last : Int) (g : List Int → List (List Int) → List (List Int)) (Cnd : List Int → List (List Int) → Prop)
    (hcnd : ∀ (i : Nat) p out, n.placed[i]? = some p → memB p.sources (last + 2) = true → out.length ≤ most + 1 → Cnd (path ++ [n.leaves + i]) out) (hgl : ∀ path' out', Cnd path' out' → (g path' out').length ≤ most + 1) :
    ∀ (suf pre : List Placed) (out : List (List Int)), n.placed = pre ++ suf → out.length ≤ most + 1 → (lonIn g n.leaves path last pre.length suf out).length ≤ most + 1
  | [], pre, out, h, ho => ho
  | y :: suf, pre, out, h, ho => by
    have := lonIn_len n most path last g Cnd hcnd hgl suf (pre ++ [y])
    rw [show (pre ++ [y]).length = pre.length + 1 by simp] at this
    simp only [lonIn]
    refine this _ (by simp [h]) ?_
    split
    · rename_i hb
      exact hgl _ _ (hcnd pre.length y out (by rw [h]; simp) hb ho)
    · exact ho

theorem lon_loop (l : List Cell) (n : Net) (m : Model) (hv : Valid l n m) (most : Nat) (pid oid : Id) (path : List Int) (last : Int) (hl0 : 0 ≤ last) (hl1 : last ≤ 1000) (hpl : path.length ≤ 1000) (hne : ¬ pid = oid) (fp : Far pid π) (fo : FarX oid π)
    (g : List Int → List (List Int) → List (List Int)) (Cnd : List Int → List (List Int) → Prop)
    (hcnd : ∀ (i : Nat) p out, n.placed[i]? = some p → memB p.sources (last + 2) = true → out.length ≤ most + 1 → Cnd (path ++ [n.leaves + i]) out) (hgl : ∀ path' out', Cnd path' out' → (g path' out').length ≤ most + 1)
    (hg : ∀ (ρ pid' : Id) (path' : List Int) (out' : List (List Int)), Cnd path' out' → ¬ pid' = oid → Far pid' ρ → FarX oid ρ →
      EE ρ n_ratchetref28_longer [.p (encNet n), .ap pid', .ap oid, .p (I most)] [rowI pid' (some false) path', rowL oid (flagE out') out'] = some (.ap oid, [rowPl pid' path', rowL oid (flagE (g path' out')) (g path' out')])) :
    ∀ (suf pre : List Placed) (out : List (List Int)) (x : Env × Sto), n.placed = pre ++ suf → out.length ≤ most + 1 →
    mask [1, 2, 3, 4, 9, 10] [pid, oid] x = some ([(1, .p (encL path)), (2, .ap oid), (3, .p (I most)), (4, .ref (4 :: π) 0), (9, .p (I last)), (10, .p (I pre.length))], [(4 :: π, boxN n), rowPl pid path, rowL oid (flagE out) out]) →
    kpO [2] [8] [pid, oid] (bkO 0 (iter (round EE iter π [pid, oid] [1, 2, 3, 4, 9, 10] c_ratchetref28_longer_L0) x)) =
      some (.nm, [(2, .ap oid)], [rowPl pid path, rowL oid (flagE (lonIn g n.leaves path last pre.length suf out)) (lonIn g n.leaves path last pre.length suf out)])
  | [], pre, out, x, h, hol, hm => by
    have fo' := fo.far
    have e1 := fp.e1; have e2 := fp.e2; have e5 := fp.b1; have e6 := fp.b2
    have o1 := fo'.e1; have o2 := fo'.e2; have o5 := fo'.b1; have o6 := fo'.b2
    have hpo : (pid == oid) = false := by simpa using hne
    have hop : (oid == pid) = false := by simpa using Ne.symm hne
    have hne' : ¬ oid = pid := fun h => hne h.symm
    rw [loop_eq hm]
    have : n.placed = pre := by simpa using h
    simp only [lonIn]
    simp [u_ratchetref28_longer_L0, b_ratchetref28_longer_L0, this, hpo, hop, hne, hne', e1, e2, e5, e6, o1, o2, o5, o6]
  | y :: suf, pre, out, x, h, hol, hm => by
    have fo' := fo.far
    have e1 := fp.e1; have e2 := fp.e2; have e3 := fp.e3; have e4 := fp.e4
    have e5 := fp.b1; have e6 := fp.b2; have e7 := fp.b3; have e8 := fp.b4
    have o1 := fo'.e1; have o2 := fo'.e2; have o3 := fo'.e3; have o4 := fo'.e4
    have o5 := fo'.b1; have o6 := fo'.b2; have o7 := fo'.b3; have o8 := fo'.b4
    have hpo : (pid == oid) = false := by simpa using hne
    have hop : (oid == pid) = false := by simpa using Ne.symm hne
    have hne' : ¬ oid = pid := fun h => hne h.symm
    rw [loop_eq hm]
    have hmem : y ∈ n.placed := by rw [h]; simp
    have hlen : pre.length < n.placed.length := by rw [h]; simp
    have hyp : n.placed[pre.length]? = some y := by rw [h]; simp
    have hyg : n.placed[pre.length] = y := by simpa [List.getElem?_eq_getElem hlen] using hyp
    have hnp := hv.np
    have hlv0 := hv.lv0
    have hlv1 := hv.lv1
    obtain ⟨_, _, _, _, _, hs3⟩ := hv.cell y hmem
    have hw : IntKind.i64.wrap (last + 2) = last + 2 := w64 ⟨by omega, by omega⟩
    have hw2 : IntKind.i64.wrap (n.leaves + (pre.length : Int)) = n.leaves + pre.length := w64 ⟨by omega, by omega⟩
    have hws := w_succ hlen (show n.placed.length ≤ top63 by simp only [top63]; omega)
    have hh := fun π => e_Has (π := π) y.sources (by simp only [top63]; omega) (last + 2)
    have hcp := fun π => e_CopyInts (π := π) (ints path) (by simp only [room, List.length_map]; omega)
    have hroom : path.length + 1 ≤ room := by simp only [room]; omega
    have hnext := lon_loop l n m hv most pid oid path last hl0 hl1 hpl hne fp fo g Cnd hcnd hgl hg suf (pre ++ [y])
    rw [show (pre ++ [y]).length = pre.length + 1 by simp] at hnext
    simp only [lonIn]
    cases hb : memB y.sources (last + 2) with
    | false =>
      rw [hb] at hh
      simp only [Bool.false_eq_true, if_false]
      simp [u_ratchetref28_longer_L0, b_ratchetref28_longer_L0, hlen, hyg, hh, hw, hpo, hop, hne, hne', e1, e2, e3, e4, e5, e6, e7, e8, o1, o2, o3, o4, o5, o6, o7, o8]
      exact hnext out _ (by simp [h]) hol (by simp [hws, hpo, hop, hne, hne', e1, e2, e3, e4, e5, e6, e7, e8, o1, o2, o3, o4, o5, o6, o7, o8])
    | true =>
      rw [hb] at hh
      have hcc := hcnd pre.length y out hyp hb hol
      have c1 := hg (59 :: π) (3 :: 50 :: π) (path ++ [n.leaves + pre.length]) out hcc (fun hh => o4 3 50 hh) (far_new π (by decide)) (fo.down 59)
      have c2 := hgl _ _ hcc
      generalize hG : g (path ++ [n.leaves + pre.length]) out = G at *
      have ec : ((3 :: 50 :: π, Blk.row false t_int 1 (some false) (ints path ++ [I (n.leaves + pre.length)])) : Id × Blk) = rowI (3 :: 50 :: π) (some false) (path ++ [n.leaves + pre.length]) := by simp
      rw [← ec] at c1
      simp only [if_true]
      simp [u_ratchetref28_longer_L0, b_ratchetref28_longer_L0, hlen, hyg, hh, hcp, hw, hw2, hroom, c1, hpo, hop, hne, hne', e1, e2, e3, e4, e5, e6, e7, e8, o1, o2, o3, o4, o5, o6, o7, o8, evRO, freeze]
      exact hnext G _ (by simp [h]) c2 (by simp [hws, hpo, hop, hne, hne', e1, e2, e3, e4, e5, e6, e7, e8, o1, o2, o3, o4, o5, o6, o7, o8])

/-- What a path must be for its longer ones. -/
structure LonOk (n : Net) (most f : Nat) (path : List Int) (out : List (List Int)) : Prop where
  ne : path ≠ []
  l0 : 0 ≤ path.getLastD 0
  l1 : path.getLastD 0 + 1 ≤ n.leaves + n.placed.length
  fu : n.leaves + n.placed.length - path.getLastD 0 ≤ f
  pl : path.length + f ≤ 500
  ol : out.length ≤ most + 1

theorem LonOk.step {l : List Cell} {n : Net} {m : Model} (hv : Valid l n m) {most f : Nat} {path : List Int} {out : List (List Int)} (h : LonOk n most (f + 1) path out) (i : Nat) (p : Placed) (out' : List (List Int)) (hp : n.placed[i]? = some p) (hb : memB p.sources (path.getLastD 0 + 2) = true) (ho : out'.length ≤ most + 1) :
    LonOk n most f (path ++ [n.leaves + i]) out' := by
  have hs := hv.src i p hp _ (memB_iff.1 hb)
  have hil : i < n.placed.length := (List.getElem?_eq_some_iff.1 hp).1
  have hfu := h.fu
  have hl0 := h.l0
  have hpl := h.pl
  have e : (path ++ [n.leaves + (i : Int)]).getLastD 0 = n.leaves + i := by simp
  refine ⟨by simp, ?_, ?_, ?_, ?_, ho⟩
  · rw [e]; omega
  · rw [e]; omega
  · rw [e]; omega
  · simp; omega

theorem lon_len {l : List Cell} {n : Net} {m : Model} (hv : Valid l n m) (most : Nat) : ∀ (f : Nat) (path : List Int) (out : List (List Int)), LonOk n most f path out → (lon n most f path out).length ≤ most + 1
  | 0, path, out, h => h.ol
  | f + 1, path, out, h => by
    simp only [lon]
    split
    · exact h.ol
    · rename_i hm
      refine lonIn_len n most path (path.getLastD 0) (lon n most f) (LonOk n most f) (fun i p o hp hb ho => h.step hv i p o hp hb ho) (lon_len hv most f) n.placed [] _ rfl ?_
      split
      · simp; omega
      · exact h.ol

theorem e_longer (l : List Cell) (n : Net) (m : Model) (hv : Valid l n m) (most : Nat) (hmost : most ≤ 1000) (oid : Id) : ∀ (f : Nat) (ρ pid : Id) (path : List Int) (out : List (List Int)), LonOk n most f path out → ¬ pid = oid → Far pid ρ → FarX oid ρ →
    EE ρ n_ratchetref28_longer [.p (encNet n), .ap pid, .ap oid, .p (I most)] [rowI pid (some false) path, rowL oid (flagE out) out] = some (.ap oid, [rowPl pid path, rowL oid (flagE (lon n most f path out)) (lon n most f path out)])
  | 0, ρ, pid, path, out, h, hne, fp, fo => by have := h.l1; have := h.fu; omega
  | f + 1, ρ, pid, path, out, h, hne, fp, fo => by
    have fo' := fo.far
    have e1 := fp.e1; have e2 := fp.e2; have e3 := fp.e3; have e4 := fp.e4
    have e5 := fp.b1; have e6 := fp.b2; have e7 := fp.b3; have e8 := fp.b4
    have o1 := fo'.e1; have o2 := fo'.e2; have o3 := fo'.e3; have o4 := fo'.e4
    have o5 := fo'.b1; have o6 := fo'.b2; have o7 := fo'.b3; have o8 := fo'.b4
    have hpo : (pid == oid) = false := by simpa using hne
    have hop : (oid == pid) = false := by simpa using Ne.symm hne
    have hne' : ¬ oid = pid := fun h => hne h.symm
    have hnp := hv.np
    have hno := hv.no
    have hlv0 := hv.lv0
    have hlv1 := hv.lv1
    have hl0 := h.l0
    have hl1 := h.l1
    have hpl := h.pl
    have hol := h.ol
    have hp0 : 0 < path.length := List.length_pos_iff.2 h.ne
    have hlt : path.length - 1 < path.length := by omega
    have hlast : path[path.length - 1] = path.getLastD 0 := by
      rw [List.getLastD_eq_getLast?, List.getLast?_eq_getElem?, List.getElem?_eq_getElem hlt]; rfl
    have hw : IntKind.i64.wrap ((path.length : Int) - 1) = ((path.length - 1 : Nat) : Int) := by rw [show (path.length : Int) - 1 = ((path.length - 1 : Nat) : Int) by omega]; exact w64 ⟨by omega, by omega⟩
    have hlo := lon_loop (π := ρ) l n m hv most pid oid path (path.getLastD 0) hl0 (by omega) (by omega) hne fp fo (lon n most f) (LonOk n most f) (fun i p o hp hb ho => h.step hv i p o hp hb ho) (lon_len hv most f) (fun ρ' pid' path' out' hc hn hp hx => e_longer l n m hv most hmost oid f ρ' pid' path' out' hc hn hp hx) n.placed []
    have hh := fun π => e_Has (π := π) n.outs (by simp only [top63]; omega) (path.getLastD 0 + 2)
    have hcp := fun π => e_CopyInts (π := π) (ints path) (by simp only [room, List.length_map]; omega)
    have hroom : out.length + 1 ≤ room := by simp only [room]; omega
    have hlw : IntKind.i64.wrap (path.getLastD 0 + 2) = path.getLastD 0 + 2 := w64 ⟨by omega, by omega⟩
    simp only [lon]
    by_cases hm : most < out.length
    · rw [if_pos hm]
      simp [e_ratchetref28_longer, run_eq, c_ratchetref28_longer, hm, hpo, hop, hne, hne', e1, e2, e3, e4, e5, e6, e7, e8, o1, o2, o3, o4, o5, o6, o7, o8, freeze]
    · rw [if_neg hm]
      have hE : endB n (path.getLastD 0) = memB n.outs (path.getLastD 0 + 2) := rfl
      cases hb : endB n (path.getLastD 0) with
      | false =>
        rw [hE] at hb
        rw [hb] at hh
        have hlo := hlo out
        simp only [Bool.false_eq_true, if_false]
        generalize lonIn (lon n most f) n.leaves path (path.getLastD 0) ([] : List Placed).length n.placed out = R at *
        generalize path.getLastD 0 = last at *
        simp [e_ratchetref28_longer, run_eq, c_ratchetref28_longer, hm, hpo, hop, hne, hne', e1, e2, e3, e4, e5, e6, e7, e8, o1, o2, o3, o4, o5, o6, o7, o8, freeze, hh, hw, hlt, hlast, hlw, hcp, hroom, thaw, thaw1]
        rw [hlo _ rfl hol (by simp [hpo, hop, hne, hne', e1, e2, e3, e4, e5, e6, e7, e8, o1, o2, o3, o4, o5, o6, o7, o8])]
        simp [hpo, hop, hne, hne', e1, e2, e3, e4, e5, e6, e7, e8, o1, o2, o3, o4, o5, o6, o7, o8]
      | true =>
        rw [hE] at hb
        rw [hb] at hh
        have hlo := hlo (out ++ [path])
        simp only [if_true]
        generalize lonIn (lon n most f) n.leaves path (path.getLastD 0) ([] : List Placed).length n.placed (out ++ [path]) = R at *
        generalize path.getLastD 0 = last at *
        simp [e_ratchetref28_longer, run_eq, c_ratchetref28_longer, hm, hpo, hop, hne, hne', e1, e2, e3, e4, e5, e6, e7, e8, o1, o2, o3, o4, o5, o6, o7, o8, freeze, hh, hw, hlt, hlast, hlw, hcp, hroom, thaw, thaw1]
        rw [hlo _ rfl (by simp; omega) (by simp [hpo, hop, hne, hne', e1, e2, e3, e4, e5, e6, e7, e8, o1, o2, o3, o4, o5, o6, o7, o8])]
        simp [hpo, hop, hne, hne', e1, e2, e3, e4, e5, e6, e7, e8, o1, o2, o3, o4, o5, o6, o7, o8]

/-- All paths that begin at a leaf bit from one on. -/
def allP (n : Net) (most f : Nat) : Nat → Nat → List (List Int) → List (List Int)
  | 0, _, out => out
  | j + 1, p, out => allP n most f j (p + 1) (lon n most f [(p : Int)] out)
/-- All paths. -/
def pathsN (n : Net) (most : Nat) : List (List Int) := allP n most (n.leaves.toNat + n.placed.length) n.leaves.toNat 0 []

theorem lonOk_one {l : List Cell} {n : Net} {m : Model} (hv : Valid l n m) {most : Nat} {p : Nat} (hp : (p : Int) < n.leaves) {out : List (List Int)} (ho : out.length ≤ most + 1) : LonOk n most (n.leaves.toNat + n.placed.length) [(p : Int)] out := by
  have hlv0 := hv.lv0
  have hlv1 := hv.lv1
  have hnp := hv.np
  have e : ([(p : Int)] : List Int).getLastD 0 = p := rfl
  refine ⟨by simp, ?_, ?_, ?_, ?_, ho⟩
  · rw [e]; omega
  · rw [e]; omega
  · rw [e]; omega
  · simp; omega

theorem paths_loop (l : List Cell) (n : Net) (m : Model) (hv : Valid l n m) (most : Nat) (hmost : most ≤ 1000) : ∀ (j p : Nat) (out : List (List Int)) (x : Env × Sto), ((j + p : Nat) : Int) = n.leaves → out.length ≤ most + 1 →
    mask [1, 2, 5, 6] [] x = some ([(1, .p (I most)), (2, .ref (2 :: π) 0), (5, .ap (1005 :: π)), (6, .p (I p))], [rowL (1005 :: π) (flagE out) out, (2 :: π, boxN n)]) →
    kpO [5] [4] [] (bkO 0 (iter (round EE iter π [] [1, 2, 5, 6] c_ratchetref28_Paths_L0) x)) = some (.nm, [(5, .ap (1005 :: π))], [rowL (1005 :: π) (flagE (allP n most (n.leaves.toNat + n.placed.length) j p out)) (allP n most (n.leaves.toNat + n.placed.length) j p out)])
  | 0, p, out, x, hj, ho, hm => by
    rw [loop_eq hm]
    have hp : n.leaves = (p : Int) := by omega
    simp only [allP]
    simp [u_ratchetref28_Paths_L0, b_ratchetref28_Paths_L0, hp]
  | j + 1, p, out, x, hj, ho, hm => by
    rw [loop_eq hm]
    have hlv1 := hv.lv1
    have hp : (p : Int) < n.leaves := by omega
    have hok := lonOk_one hv (most := most) hp ho
    have hx : FarX (1005 :: π) (18 :: π) := fun l hl hh => by
      have := congrArg List.length hh
      simp at this
      exact hl this
    have c1 := e_longer l n m hv most hmost (1005 :: π) _ (18 :: π) (15 :: π) [(p : Int)] out hok (by simp) (far_one π) hx
    have c2 := lon_len hv most _ _ _ hok
    have hnext := paths_loop l n m hv most hmost j (p + 1) (lon n most (n.leaves.toNat + n.placed.length) [(p : Int)] out)
    have hws : IntKind.i64.wrap ((p : Int) + 1) = (p : Int) + 1 := w64 ⟨by omega, by omega⟩
    simp only [allP]
    generalize lon n most (n.leaves.toNat + n.placed.length) [(p : Int)] out = R at *
    have ec : ((15 :: π, Blk.row false t_int 1 (some false) [I (p : Int)]) : Id × Blk) = rowI (15 :: π) (some false) [(p : Int)] := by simp
    rw [← ec] at c1
    simp [u_ratchetref28_Paths_L0, b_ratchetref28_Paths_L0, hp, c1]
    exact hnext _ (by omega) c2 (by simp [hws])

theorem e_Paths (l : List Cell) (n : Net) (m : Model) (hv : Valid l n m) (most : Nat) (hmost : most ≤ 1000) : EE π n_ratchetref28_Paths [.p (encNet n), .p (I most)] [] = some (.ap (1005 :: π), [rowL (1005 :: π) (flagE (pathsN n most)) (pathsN n most)]) := by
  have hlv0 := hv.lv0
  have hl := paths_loop (π := π) l n m hv most hmost n.leaves.toNat 0 []
  unfold pathsN
  generalize allP n most (n.leaves.toNat + n.placed.length) n.leaves.toNat 0 [] = R at *
  simp [e_ratchetref28_Paths, run_eq, c_ratchetref28_Paths, thaw, thaw1]
  rw [hl _ (by omega) (by simp) (by simp)]
  simp

end Go.Proofs.Ytafomlbikcphgaa.V

/- The greatest delays from points to outputs. -/
namespace Go.Proofs.Ytafomlbikcphgaa.V
open Go (IntKind BinOp UnOp)
variable {π ρ κ : Id}

/-- The greatest delay of a way from a point on, by the cells from one on. -/
def restGo (lv : Nat) (D R : List Int) (p : Nat) : Nat → List Placed → Int → Int
  | _, [], acc => acc
  | i, c :: r, acc => restGo lv D R p (i + 1) r (if p < lv + i ∧ memB c.sources ((p : Int) + 2) = true ∧ R.getD (lv + i) 0 ≠ -1 then max acc (D.getD i 0 + R.getD (lv + i) 0) else acc)
def restV (n : Net) (D R : List Int) (p : Nat) : Int := restGo n.leaves.toNat D R p 0 n.placed (if endB n p then 0 else -1)
/-- The last points' ones, when some have come. -/
def restL (n : Net) (D : List Int) : Nat → List Int
  | 0 => List.replicate (n.leaves.toNat + n.placed.length) (-1)
  | k + 1 => (restL n D k).set (n.leaves.toNat + n.placed.length - 1 - k) (restV n D (restL n D k) (n.leaves.toNat + n.placed.length - 1 - k))

theorem restL_len (n : Net) (D : List Int) : ∀ k, (restL n D k).length = n.leaves.toNat + n.placed.length
  | 0 => by simp [restL]
  | k + 1 => by simp [restL, restL_len n D k]

abbrev Bnd (L : List Int) (B : Int) : Prop := ∀ v ∈ L, -1 ≤ v ∧ v ≤ B
theorem Bnd.getD {L : List Int} {B : Int} (h : Bnd L B) (hB : 0 ≤ B) (i : Nat) : -1 ≤ L.getD i 0 ∧ L.getD i 0 ≤ B := by
  rw [List.getD]
  cases hx : L[i]? with
  | none => simp; omega
  | some v => exact h v (List.mem_of_getElem? hx)
theorem Bnd.set {L : List Int} {B : Int} (h : Bnd L B) (i : Nat) {v : Int} (hv : -1 ≤ v ∧ v ≤ B) : Bnd (L.set i v) B := fun w hw => by
  rcases List.mem_or_eq_of_mem_set hw with h1 | h1
  · exact h w h1
  · rw [h1]; exact hv
theorem Bnd.mono {L : List Int} {B B' : Int} (h : Bnd L B) (hb : B ≤ B') : Bnd L B' := fun w hw => by have := h w hw; omega

theorem restGo_in (lv : Nat) (D R : List Int) (p : Nat) (B : Int) (hB : 0 ≤ B) (hD : ∀ i, 0 ≤ D.getD i 0 ∧ D.getD i 0 ≤ 25400) (hR : Bnd R B) : ∀ (pl : List Placed) (i : Nat) (acc : Int), -1 ≤ acc → acc ≤ B + 25400 → -1 ≤ restGo lv D R p i pl acc ∧ restGo lv D R p i pl acc ≤ B + 25400
  | [], i, acc, h0, h1 => ⟨h0, h1⟩
  | c :: r, i, acc, h0, h1 => by
    have hd := hD i
    have hr := hR.getD hB (lv + i)
    simp only [restGo]
    split
    · exact restGo_in lv D R p B hB hD hR r (i + 1) _ (by omega) (by omega)
    · exact restGo_in lv D R p B hB hD hR r (i + 1) _ h0 h1
theorem restL_in (n : Net) (D : List Int) (hD : ∀ i, 0 ≤ D.getD i 0 ∧ D.getD i 0 ≤ 25400) : ∀ k : Nat, Bnd (restL n D k) (25400 * (k : Int))
  | 0 => fun v hv => by simp [restL, List.mem_replicate] at hv; omega
  | k + 1 => by
    have ih := restL_in n D hD k
    have := restGo_in n.leaves.toNat D (restL n D k) (n.leaves.toNat + n.placed.length - 1 - k) (25400 * (k : Int)) (by omega) hD ih n.placed 0 (if endB n (n.leaves.toNat + n.placed.length - 1 - k : Nat) then 0 else -1) (by split <;> omega) (by split <;> omega)
    simp only [restL]
    refine (ih.mono (by omega)).set _ ?_
    unfold restV
    omega

abbrev boxT (l : List Cell) (n : Net) (m : Model) (D : List Int) : Blk := .box false [.p (I n.leaves), .p (encPlaceds n.placed), .p (encInts n.outs), .p (encLib l), .p (I m.perLoad), .p (I m.setup), .p (I m.hold), .p (I m.fast), .p (I m.slow), .p (encInts D)]

theorem rest_loop1 (l : List Cell) (n : Net) (m : Model) (hv : Valid l n m) (D R : List Int) (hDl : D.length = n.placed.length) (hD : ∀ i, 0 ≤ D.getD i 0 ∧ D.getD i 0 ≤ 25400) (hRl : R.length = n.leaves.toNat + n.placed.length) (hR : Bnd R 3000000) (p : Nat) (hp : p < n.leaves.toNat + n.placed.length) :
    ∀ (suf pre : List Placed) (acc : Int) (R' : List Int) (x : Env × Sto), n.placed = pre ++ suf → R' = R.set p acc → -1 ≤ acc → acc ≤ 3025400 →
    mask [1, 3, 4, 5] [] x = some ([(1, .ref (1 :: π) 0), (3, .ap (30 :: 10 :: π)), (4, .p (I p)), (5, .p (I (n.leaves + pre.length)))], [rowI (30 :: 10 :: π) (some false) R', (1 :: π, boxT l n m D)]) →
    kpO [1, 3, 4] [2] [] (bkO 2 (iter (round EE iter π [] [1, 3, 4, 5] c_timing_timed_rests_L1) x)) =
      some (.nm, [(1, .ref (1 :: π) 0), (3, .ap (30 :: 10 :: π)), (4, .p (I p))], [rowI (30 :: 10 :: π) (some false) (R.set p (restGo n.leaves.toNat D R p pre.length suf acc)), (1 :: π, boxT l n m D)])
  | [], pre, acc, R', x, h, hR', h0, h1, hm => by
    rw [loop_eq hm]
    have hlv0 := hv.lv0
    have hlv1 := hv.lv1
    have hnp := hv.np
    have : n.placed = pre := by simpa using h
    have hl : pre.length = n.placed.length := by rw [this]
    have hpts := fun π => e_points (π := π) n l
    have hw : IntKind.i64.wrap (n.leaves + n.placed.length) = n.leaves + n.placed.length := w64 ⟨by omega, by omega⟩
    rw [hw] at hpts
    simp only [restGo]
    rw [← hR']
    simp [u_timing_timed_rests_L1, b_timing_timed_rests_L1, hpts, hl]
  | y :: suf, pre, acc, R', x, h, hR', h0, h1, hm => by
    rw [loop_eq hm]
    have hlen : pre.length < n.placed.length := by rw [h]; simp
    have hlv0 := hv.lv0
    have hlv1 := hv.lv1
    have hnp := hv.np
    have hpts := fun π => e_points (π := π) n l
    have hw : IntKind.i64.wrap (n.leaves + n.placed.length) = n.leaves + n.placed.length := w64 ⟨by omega, by omega⟩
    rw [hw] at hpts
    have hyg : n.placed.getD pre.length ⟨0, []⟩ = y := by simp [List.getD, h]
    have hhas := fun π => e_netHas (π := π) l n m hv pre.length hlen (n.leaves + pre.length) p rfl (by omega) (by omega)
    rw [srcB, hyg] at hhas
    have hdel := fun π => e_delay (π := π) l n m D (n.leaves.toNat + pre.length) hlv0 hlv1 (by omega) (by omega) (by omega)
    rw [show n.leaves.toNat + pre.length - n.leaves.toNat = pre.length by omega, show ((n.leaves.toNat + pre.length : Nat) : Int) = n.leaves + pre.length by omega] at hdel
    have hws : IntKind.i64.wrap (n.leaves + (pre.length : Int) + 1) = n.leaves + ((pre ++ [y]).length : Int) := by
      rw [show n.leaves + ((pre ++ [y]).length : Int) = n.leaves + (pre.length : Int) + 1 by simp; omega]
      exact w64 ⟨by omega, by omega⟩
    have hd := hD pre.length
    have hr := hR.getD (by omega) (n.leaves.toNat + pre.length)
    have hql : n.leaves.toNat + pre.length < R.length := by omega
    have hpl : p < R.length := by omega
    have hsl : R'.length = R.length := by rw [hR']; simp
    have hql' : n.leaves.toNat + pre.length < R'.length := by omega
    have hpl' : p < R'.length := by omega
    have hsp : R'[p] = acc := by simp [hR']
    have hnext := rest_loop1 l n m hv D R hDl hD hRl hR p hp suf (pre ++ [y])
    rw [show (pre ++ [y]).length = pre.length + 1 by simp] at hnext hws
    have hqlt : n.leaves + (pre.length : Int) < n.leaves + n.placed.length := by omega
    have htn : (n.leaves + (pre.length : Int)).toNat = n.leaves.toNat + pre.length := by omega
    have hq0 : 0 ≤ n.leaves + (pre.length : Int) := by omega
    simp only [restGo]
    by_cases c1 : p < n.leaves.toNat + pre.length
    · have c1' : (p : Int) < n.leaves + pre.length := by omega
      have hsq : R'[n.leaves.toNat + pre.length] = R.getD (n.leaves.toNat + pre.length) 0 := by
        simp only [hR']
        rw [List.getElem_set_ne (by omega)]; simp [List.getD, hql]
      cases hb : memB y.sources ((p : Int) + 2) with
      | false =>
        rw [hb] at hhas
        simp only [Bool.false_eq_true, false_and, and_false, if_false]
        simp [u_timing_timed_rests_L1, b_timing_timed_rests_L1, hpts, hqlt, c1', hhas]
        exact hnext acc R' _ (by simp [h]) hR' h0 h1 (by simp [hws])
      | true =>
        rw [hb] at hhas
        by_cases c3 : R.getD (n.leaves.toNat + pre.length) 0 = -1
        · simp only [c3, ne_eq, not_true_eq_false, and_false, if_false]
          rw [c3] at hsq
          simp [u_timing_timed_rests_L1, b_timing_timed_rests_L1, hpts, hqlt, c1', hhas, htn, hq0, hsq, hql']
          exact hnext acc R' _ (by simp [h]) hR' h0 h1 (by simp [hws])
        · simp only [c1, c3, ne_eq, not_false_eq_true, and_self, if_true]
          generalize R.getD (n.leaves.toNat + pre.length) 0 = rq at *
          generalize D.getD pre.length 0 = d at *
          have hwd : IntKind.i64.wrap (d + rq) = d + rq := w64 ⟨by omega, by omega⟩
          have hset2 := ints_set R' p (max acc (d + rq))
          rw [show R'.set p (max acc (d + rq)) = R.set p (max acc (d + rq)) by rw [hR', List.set_set]] at hset2
          have hmx : (if acc < d + rq then d + rq else acc) = max acc (d + rq) := by omega
          have hnx := hnext (max acc (d + rq)) (R.set p (max acc (d + rq)))
          generalize R.set p (max acc (d + rq)) = R2 at *
          generalize hmm : max acc (d + rq) = mm at *
          simp [u_timing_timed_rests_L1, b_timing_timed_rests_L1, hpts, hqlt, c1', hhas, htn, hq0, hsq, hql', hpl', hsp, c3, hdel, hwd, hmx, hset2, PV.setc]
          exact hnx _ (by simp [h]) rfl (by omega) (by omega) (by simp [hws])
    · have c1' : ¬ (p : Int) < n.leaves + pre.length := by omega
      simp only [c1, false_and, if_false]
      simp [u_timing_timed_rests_L1, b_timing_timed_rests_L1, hpts, hqlt, c1']
      exact hnext acc R' _ (by simp [h]) hR' h0 h1 (by simp [hws])

theorem restL_low (n : Net) (D : List Int) : ∀ (k : Nat) (p : Nat), p + k < n.leaves.toNat + n.placed.length → (restL n D k).getD p 0 = -1
  | 0, p, h => by
    simp only [restL, List.getD]
    rw [List.getElem?_replicate, if_pos (by omega)]; rfl
  | k + 1, p, h => by
    have ih := restL_low n D k p (by omega)
    simp only [restL, List.getD] at ih ⊢
    rw [List.getElem?_set_ne (by omega)]
    exact ih

theorem rest_loop0 (l : List Cell) (n : Net) (m : Model) (hv : Valid l n m) (D : List Int) (hDl : D.length = n.placed.length) (hD : ∀ i, 0 ≤ D.getD i 0 ∧ D.getD i 0 ≤ 25400) : ∀ (j k : Nat) (x : Env × Sto), k + j = n.leaves.toNat + n.placed.length →
    mask [1, 3, 4] [] x = some ([(1, .ref (1 :: π) 0), (3, .ap (30 :: 10 :: π)), (4, .p (I ((j : Int) - 1)))], [rowI (30 :: 10 :: π) (some false) (restL n D k), (1 :: π, boxT l n m D)]) →
    kpO [3] [2] [] (bkO 0 (iter (round EE iter π [] [1, 3, 4] c_timing_timed_rests_L0) x)) = some (.nm, [(3, .ap (30 :: 10 :: π))], [rowI (30 :: 10 :: π) (some false) (restL n D (n.leaves.toNat + n.placed.length))])
  | 0, k, x, hk, hm => by
    rw [loop_eq hm]
    have : k = n.leaves.toNat + n.placed.length := by omega
    rw [this]
    generalize restL n D (n.leaves.toNat + n.placed.length) = R at *
    simp [u_timing_timed_rests_L0, b_timing_timed_rests_L0]
  | j + 1, k, x, hk, hm => by
    rw [loop_eq hm]
    have hlv0 := hv.lv0
    have hlv1 := hv.lv1
    have hnp := hv.np
    have hRl := restL_len n D k
    have hRb := (restL_in n D hD k).mono (show 25400 * (k : Int) ≤ 3000000 by omega)
    have hj : (((j + 1 : Nat) : Int) - 1) = (j : Int) := by omega
    rw [hj]
    have hjp : n.leaves.toNat + n.placed.length - 1 - k = j := by omega
    have hend := fun π => e_isEnd (π := π) l n m hv (j : Int) (by omega) (by omega)
    have hlow := restL_low n D k j (by omega)
    have hjl : j < (restL n D k).length := by omega
    have hlj : (restL n D k)[j] = -1 := by simpa [List.getD, hjl] using hlow
    have hl1 := rest_loop1 (π := π) l n m hv D (restL n D k) hDl hD hRl hRb j (by omega) n.placed []
    have hnext := rest_loop0 l n m hv D hDl hD j (k + 1)
    have hRS : restL n D (k + 1) = (restL n D k).set j (restV n D (restL n D k) j) := by rw [restL, hjp]
    rw [hRS] at hnext
    unfold restV at hnext
    have hws : IntKind.i64.wrap ((j : Int) - 1) = (j : Int) - 1 := w64 ⟨by omega, by omega⟩
    generalize hR : restL n D k = R at *
    cases hb : endB n j with
    | true =>
      rw [hb] at hend hnext
      simp only [if_true] at hnext
      have hset2 := ints_set R j 0
      have hl2 := hl1 0 (R.set j 0)
      generalize R.set j (restGo n.leaves.toNat D R j ([] : List Placed).length n.placed 0) = R2 at *
      generalize hR3 : R.set j 0 = R3 at *
      simp [u_timing_timed_rests_L0, b_timing_timed_rests_L0, hend, hjl, hset2, PV.setc]
      rw [hl2 _ rfl rfl (by omega) (by omega) (by simp)]
      simp
      exact hnext _ (by omega) (by simp [hws])
    | false =>
      rw [hb] at hend hnext
      simp only [Bool.false_eq_true, if_false] at hnext
      have hl2 := hl1 (-1) R
      have hRR : R = R.set j (-1) := by rw [← hlj, List.set_getElem_self]
      generalize R.set j (restGo n.leaves.toNat D R j ([] : List Placed).length n.placed (-1)) = R2 at *
      simp [u_timing_timed_rests_L0, b_timing_timed_rests_L0, hend]
      rw [hl2 _ rfl hRR (by omega) (by omega) (by simp)]
      simp
      exact hnext _ (by omega) (by simp [hws])

/-- The greatest delays of ways from all points to outputs; -1: there is none. -/
def restN (l : List Cell) (n : Net) (m : Model) : List Int := restL n (delaysN l n m) (n.leaves.toNat + n.placed.length)

theorem e_rests (l : List Cell) (n : Net) (m : Model) (hv : Valid l n m) : EE π n_timing_timed_rests [.p (.agg (cellsP l n m (delaysN l n m)))] [] = some (.ap (30 :: 10 :: π), [rowI (30 :: 10 :: π) (some false) (restN l n m)]) := by
  have hlv0 := hv.lv0
  have hlv1 := hv.lv1
  have hnp := hv.np
  have hDl : (delaysN l n m).length = n.placed.length := by simp [delaysN]
  have hl := rest_loop0 (π := π) l n m hv (delaysN l n m) hDl hv.D_ge (n.leaves.toNat + n.placed.length) 0
  have hpts := fun π => e_points (π := π) n l
  have hw : IntKind.i64.wrap (n.leaves + n.placed.length) = n.leaves + n.placed.length := w64 ⟨by omega, by omega⟩
  rw [hw] at hpts
  have hc : ((n.leaves.toNat + n.placed.length : Nat) : Int) = n.leaves + n.placed.length := by omega
  have hrp := fun π => e_Repeat (π := π) (-1) (n.leaves.toNat + n.placed.length) (by omega)
  rw [hc] at hrp hl
  have hrp' : ∀ π : Id, EE π n_slices_Repeat_int_int [.p (.sl 1 none [I (-1)]), .p (I (n.leaves + n.placed.length))] [] = some (.ap (30 :: π), [rowI (30 :: π) (some false) (List.replicate (n.leaves.toNat + n.placed.length) (-1))]) := hrp
  have hws : IntKind.i64.wrap (n.leaves + n.placed.length - 1) = n.leaves + n.placed.length - 1 := w64 ⟨by omega, by omega⟩
  unfold restN
  have h0 : restL n (delaysN l n m) 0 = List.replicate (n.leaves.toNat + n.placed.length) (-1) := rfl
  rw [h0] at hl
  generalize restL n (delaysN l n m) (n.leaves.toNat + n.placed.length) = R at *
  generalize List.replicate (n.leaves.toNat + n.placed.length) (-1 : Int) = R0 at *
  generalize delaysN l n m = D at *
  simp [e_timing_timed_rests, run_eq, c_timing_timed_rests, hpts, hrp', hws]
  rw [hl _ (by omega) (by simp)]
  simp

end Go.Proofs.Ytafomlbikcphgaa.V

/- The critical path, by timing. -/
namespace Go.Proofs.Ytafomlbikcphgaa.V
open Go (IntKind BinOp UnOp)
variable {π ρ κ : Id}

/-- Where the critical path begins, and its delay. -/
def critGo (R : List Int) : Nat → List Int → Int → Int → Int × Int
  | _, [], b, k => (b, k)
  | p, t :: r, b, k => if R.getD p 0 ≠ -1 ∧ k < t + R.getD p 0 then critGo R (p + 1) r p (t + R.getD p 0) else critGo R (p + 1) r b k
/-- The first cell that goes on. -/
def nextI (lv : Nat) (D R : List Int) (p : Nat) : Nat → List Placed → Option Nat
  | _, [] => none
  | i, c :: r => if p < lv + i ∧ memB c.sources ((p : Int) + 2) = true ∧ R.getD (lv + i) 0 ≠ -1 ∧ D.getD i 0 + R.getD (lv + i) 0 = R.getD p 0 then some i else nextI lv D R p (i + 1) r

abbrev idR (π : Id) : Id := 30 :: 10 :: 33 :: π
abbrev idD (π : Id) : Id := 1000018 :: 16 :: 26 :: π
abbrev stC (π : Id) (l : List Cell) (n : Net) (m : Model) (R D : List Int) : Sto := [rowI (30 :: 10 :: 33 :: π) (some false) R, (11 :: π, .box false (aggT l n m (1000018 :: 16 :: 26 :: π))), (1000018 :: 16 :: 26 :: π, .row true t_int 1 (flagE n.placed) (ints D))]

theorem crit_loop0 (l : List Cell) (n : Net) (m : Model) (R D : List Int) (ats : List Int) (hR : Bnd R 3000000) (hat : ∀ v ∈ ats, 0 ≤ v ∧ v ≤ 1000000) (hRl : ats.length ≤ R.length) (hal : ats.length ≤ 1000) : ∀ (suf pre : List Int) (b k : Int) (x : Env × Sto), ats = pre ++ suf →
    mask [11, 13, 14, 15, 34, 35, 36] [] x = some ([(11, .ref (11 :: π) 0), (13, .ap (30 :: 10 :: 33 :: π)), (14, .p (I b)), (15, .p (I k)), (34, .p (encInts ats)), (35, .p (I ats.length)), (36, .p (I pre.length))], stC π l n m R D) →
    kpO [11, 13, 14, 15] [8, 9, 10] [] (bkO 0 (iter (round EE iter π [] [11, 13, 14, 15, 34, 35, 36] c_timing_CriticalPath_L0) x)) =
      some (.nm, [(11, .ref (11 :: π) 0), (13, .ap (30 :: 10 :: 33 :: π)), (14, .p (I (critGo R pre.length suf b k).1)), (15, .p (I (critGo R pre.length suf b k).2))], stC π l n m R D)
  | [], pre, b, k, x, h, hm => by
    rw [loop_eq hm]
    have : ats = pre := by simpa using h
    rw [← this]
    simp [u_timing_CriticalPath_L0, b_timing_CriticalPath_L0, critGo]
  | y :: suf, pre, b, k, x, h, hm => by
    rw [loop_eq hm]
    have hlen : pre.length < ats.length := by rw [h]; simp
    have hy := hat y (by rw [h]; simp)
    have hpR : pre.length < R.length := by omega
    have hr := hR.getD (by omega) pre.length
    have hg : R[pre.length] = R.getD pre.length 0 := by simp [List.getD, hpR]
    have hws := w_succ hlen (show ats.length ≤ top63 by simp only [top63]; omega)
    have hnext := crit_loop0 l n m R D ats hR hat hRl hal suf (pre ++ [y])
    rw [show (pre ++ [y]).length = pre.length + 1 by simp] at hnext
    simp only [critGo]
    generalize R.getD pre.length 0 = r at *
    have hw : IntKind.i64.wrap (y + r) = y + r := w64 ⟨by omega, by omega⟩
    by_cases c1 : r = -1
    · simp only [c1, ne_eq, not_true_eq_false, false_and, if_false]
      rw [c1] at hg
      simp [u_timing_CriticalPath_L0, b_timing_CriticalPath_L0, lt_mid h, get_mid _ h, hpR, hg]
      exact hnext b k _ (by simp [h]) (by simp [hws])
    · by_cases c2 : k < y + r
      · simp only [c1, c2, ne_eq, not_false_eq_true, and_self, if_true]
        simp [u_timing_CriticalPath_L0, b_timing_CriticalPath_L0, lt_mid h, get_mid _ h, hpR, hg, c1, c2, hw]
        exact hnext _ _ _ (by simp [h]) (by simp [hws])
      · simp only [c1, c2, ne_eq, not_false_eq_true, and_false, if_false]
        simp [u_timing_CriticalPath_L0, b_timing_CriticalPath_L0, lt_mid h, get_mid _ h, hpR, hg, c1, c2, hw]
        exact hnext b k _ (by simp [h]) (by simp [hws])

abbrev stP (π : Id) (l : List Cell) (n : Net) (m : Model) (R D path : List Int) : Sto := rowI (67 :: π) (some false) path :: stC π l n m R D

theorem crit_loop2 (l : List Cell) (n : Net) (m : Model) (hv : Valid l n m) (R D : List Int) (hDl : D.length = n.placed.length) (hD : ∀ i, 0 ≤ D.getD i 0 ∧ D.getD i 0 ≤ 25400) (hRl : R.length = n.leaves.toNat + n.placed.length) (hR : Bnd R 3000000) (most : Int) (p : Nat) (hp : p < n.leaves.toNat + n.placed.length) (path : List Int) (hpl : path.length ≤ 1000) :
    ∀ (suf pre : List Placed) (x : Env × Sto), n.placed = pre ++ suf →
    mask [11, 13, 15, 18, 19, 20] [] x = some ([(11, .ref (11 :: π) 0), (13, .ap (30 :: 10 :: 33 :: π)), (15, .p (I most)), (18, .ap (67 :: π)), (19, .p (I p)), (20, .p (I (n.leaves + pre.length)))], stP π l n m R D path) →
    kpO [11, 13, 15, 18, 19] [8, 9, 10] [] (bkO 4 (iter (round EE iter π [] [11, 13, 15, 18, 19, 20] c_timing_CriticalPath_L2) x)) =
      (match nextI n.leaves.toNat D R p pre.length suf with
      | some i => some (.nm, [(11, .ref (11 :: π) 0), (13, .ap (30 :: 10 :: 33 :: π)), (15, .p (I most)), (18, .ap (67 :: π)), (19, .p (I (n.leaves + i)))], stP π l n m R D (path ++ [n.leaves + i]))
      | none => some (.nm, [(11, .ref (11 :: π) 0), (13, .ap (30 :: 10 :: 33 :: π)), (15, .p (I most)), (18, .ap (67 :: π)), (19, .p (I p))], stP π l n m R D path))
  | [], pre, x, h, hm => by
    rw [loop_eq hm]
    have hlv0 := hv.lv0
    have hlv1 := hv.lv1
    have hnp := hv.np
    have : n.placed = pre := by simpa using h
    have hl : pre.length = n.placed.length := by rw [this]
    have hpts := fun π => e_points (π := π) n l
    have hw : IntKind.i64.wrap (n.leaves + n.placed.length) = n.leaves + n.placed.length := w64 ⟨by omega, by omega⟩
    rw [hw] at hpts
    simp only [nextI]
    simp [u_timing_CriticalPath_L2, b_timing_CriticalPath_L2, hpts, hl]
  | y :: suf, pre, x, h, hm => by
    rw [loop_eq hm]
    have hlen : pre.length < n.placed.length := by rw [h]; simp
    have hlv0 := hv.lv0
    have hlv1 := hv.lv1
    have hnp := hv.np
    have hpts := fun π => e_points (π := π) n l
    have hw : IntKind.i64.wrap (n.leaves + n.placed.length) = n.leaves + n.placed.length := w64 ⟨by omega, by omega⟩
    rw [hw] at hpts
    have hyg : n.placed.getD pre.length ⟨0, []⟩ = y := by simp [List.getD, h]
    have hhas := fun π => e_netHas (π := π) l n m hv pre.length hlen (n.leaves + pre.length) p rfl (by omega) (by omega)
    rw [srcB, hyg] at hhas
    have hdel := fun π => e_delay (π := π) l n m D (n.leaves.toNat + pre.length) hlv0 hlv1 (by omega) (by omega) (by omega)
    rw [show n.leaves.toNat + pre.length - n.leaves.toNat = pre.length by omega, show ((n.leaves.toNat + pre.length : Nat) : Int) = n.leaves + pre.length by omega] at hdel
    have hws : IntKind.i64.wrap (n.leaves + (pre.length : Int) + 1) = n.leaves + ((pre ++ [y]).length : Int) := by
      rw [show n.leaves + ((pre ++ [y]).length : Int) = n.leaves + (pre.length : Int) + 1 by simp; omega]
      exact w64 ⟨by omega, by omega⟩
    have hd := hD pre.length
    have hr := hR.getD (by omega) (n.leaves.toNat + pre.length)
    have hql : n.leaves.toNat + pre.length < R.length := by omega
    have hpR : p < R.length := by omega
    have hsq : R[n.leaves.toNat + pre.length] = R.getD (n.leaves.toNat + pre.length) 0 := by simp [List.getD, hql]
    have hsp : R[p] = R.getD p 0 := by simp [List.getD, hpR]
    have hnext := crit_loop2 l n m hv R D hDl hD hRl hR most p hp path hpl suf (pre ++ [y])
    rw [show (pre ++ [y]).length = pre.length + 1 by simp] at hnext hws
    have hqlt : n.leaves + (pre.length : Int) < n.leaves + n.placed.length := by omega
    have htn : (n.leaves + (pre.length : Int)).toNat = n.leaves.toNat + pre.length := by omega
    have hq0 : 0 ≤ n.leaves + (pre.length : Int) := by omega
    have hroom : path.length + 1 ≤ room := by simp only [room]; omega
    simp only [nextI]
    by_cases c1 : p < n.leaves.toNat + pre.length
    · have c1' : (p : Int) < n.leaves + pre.length := by omega
      cases hb : memB y.sources ((p : Int) + 2) with
      | false =>
        rw [hb] at hhas
        simp only [Bool.false_eq_true, false_and, and_false, if_false]
        simp [u_timing_CriticalPath_L2, b_timing_CriticalPath_L2, hpts, hqlt, c1', hhas]
        exact hnext _ (by simp [h]) (by simp [hws])
      | true =>
        rw [hb] at hhas
        by_cases c3 : R.getD (n.leaves.toNat + pre.length) 0 = -1
        · simp only [c3, ne_eq, not_true_eq_false, false_and, and_false, if_false]
          rw [c3] at hsq
          simp [u_timing_CriticalPath_L2, b_timing_CriticalPath_L2, hpts, hqlt, c1', hhas, htn, hq0, hsq, hql]
          exact hnext _ (by simp [h]) (by simp [hws])
        · generalize R.getD (n.leaves.toNat + pre.length) 0 = rq at *
          generalize R.getD p 0 = rp at *
          generalize D.getD pre.length 0 = d at *
          have hwd : IntKind.i64.wrap (d + rq) = d + rq := w64 ⟨by omega, by omega⟩
          by_cases c4 : d + rq = rp
          · have hwr : IntKind.i64.wrap rp = rp := by rw [← c4]; exact hwd
            simp only [c1, c3, c4, ne_eq, not_false_eq_true, and_self, if_true]
            simp [u_timing_CriticalPath_L2, b_timing_CriticalPath_L2, hpts, hqlt, c1', hhas, htn, hq0, hsq, hql, hpR, hsp, c3, c4, hdel, hwr, hroom, freeze]
          · simp only [c1, c3, c4, ne_eq, not_false_eq_true, and_false, if_false]
            simp [u_timing_CriticalPath_L2, b_timing_CriticalPath_L2, hpts, hqlt, c1', hhas, htn, hq0, hsq, hql, hpR, hsp, c3, c4, hdel, hwd, hroom, freeze]
            exact hnext _ (by simp [h]) (by simp [hws])
    · have c1' : ¬ (p : Int) < n.leaves + pre.length := by omega
      simp only [c1, false_and, if_false]
      simp [u_timing_CriticalPath_L2, b_timing_CriticalPath_L2, hpts, hqlt, c1']
      exact hnext _ (by simp [h]) (by simp [hws])

/-- The critical path from a point on. -/
def critW (n : Net) (D R : List Int) : Nat → Nat → List Int → List Int
  | 0, _, path => path
  | f + 1, p, path => if 0 < R.getD p 0 then (match nextI n.leaves.toNat D R p 0 n.placed with
    | some i => critW n D R f (n.leaves.toNat + i) (path ++ [n.leaves + i])
    | none => path) else path

theorem nextI_in (lv : Nat) (D R : List Int) (p : Nat) : ∀ (pl : List Placed) (i j : Nat), nextI lv D R p i pl = some j → i ≤ j ∧ j < i + pl.length ∧ p < lv + j
  | [], i, j, h => by simp [nextI] at h
  | c :: r, i, j, h => by
    simp only [nextI] at h
    split at h
    · rename_i hc
      simp at h
      subst h
      simp; exact hc.1
    · have := nextI_in lv D R p r (i + 1) j h
      simp; omega

theorem crit_loop1 (l : List Cell) (n : Net) (m : Model) (hv : Valid l n m) (R D : List Int) (hDl : D.length = n.placed.length) (hD : ∀ i, 0 ≤ D.getD i 0 ∧ D.getD i 0 ≤ 25400) (hRl : R.length = n.leaves.toNat + n.placed.length) (hR : Bnd R 3000000) (most : Int)
    (hex : ∀ p, p < n.leaves.toNat + n.placed.length → 0 < R.getD p 0 → ∃ i, nextI n.leaves.toNat D R p 0 n.placed = some i) :
    ∀ (f p : Nat) (path : List Int) (x : Env × Sto), p < n.leaves.toNat + n.placed.length → n.leaves.toNat + n.placed.length ≤ p + f → path.length + f ≤ 1000 →
    mask [11, 13, 15, 18, 19] [] x = some ([(11, .ref (11 :: π) 0), (13, .ap (30 :: 10 :: 33 :: π)), (15, .p (I most)), (18, .ap (67 :: π)), (19, .p (I p))], stP π l n m R D path) →
    kpO [15, 18] [8, 9, 10] [] (bkO 2 (iter (round EE iter π [] [11, 13, 15, 18, 19] c_timing_CriticalPath_L1) x)) =
      some (.nm, [(15, .p (I most)), (18, .ap (67 :: π))], [rowI (67 :: π) (some false) (critW n D R f p path)])
  | 0, p, path, x, hp, hf, hl, hm => by omega
  | f + 1, p, path, x, hp, hf, hl, hm => by
    rw [loop_eq hm]
    have hlv0 := hv.lv0
    have hpR : p < R.length := by omega
    have hsp : R[p] = R.getD p 0 := by simp [List.getD, hpR]
    simp only [critW]
    by_cases c : 0 < R.getD p 0
    · obtain ⟨i, hi⟩ := hex p hp c
      obtain ⟨_, hi2, hi3⟩ := nextI_in _ _ _ _ _ _ _ hi
      have h2 := crit_loop2 (π := π) l n m hv R D hDl hD hRl hR most p hp path (by omega) n.placed []
      have hnext := crit_loop1 l n m hv R D hDl hD hRl hR most hex f (n.leaves.toNat + i) (path ++ [n.leaves + i])
      rw [show (([] : List Placed).length) = 0 from rfl, hi] at h2
      simp only at h2
      rw [if_pos c, hi]
      simp only
      rw [show ((n.leaves.toNat + i : Nat) : Int) = n.leaves + i by omega] at hnext
      have hpl' : (path ++ [n.leaves + (i : Int)]).length = path.length + 1 := by simp
      generalize critW n D R f (n.leaves.toNat + i) (path ++ [n.leaves + i]) = W at *
      generalize path ++ [n.leaves + i] = path' at *
      generalize R.getD p 0 = rp at *
      simp [u_timing_CriticalPath_L1, b_timing_CriticalPath_L1, hpR, hsp, c, thaw, thaw1]
      rw [h2 _ rfl (by simp)]
      simp
      exact hnext _ (by omega) (by omega) (by omega) (by simp)
    · rw [if_neg c]
      generalize R.getD p 0 = rp at *
      simp [u_timing_CriticalPath_L1, b_timing_CriticalPath_L1, hpR, hsp, c]

theorem restGo_congr (lv : Nat) (D R R' : List Int) (p : Nat) (h : ∀ q, p < q → R.getD q 0 = R'.getD q 0) : ∀ (pl : List Placed) (i : Nat) (acc : Int), restGo lv D R p i pl acc = restGo lv D R' p i pl acc
  | [], i, acc => rfl
  | c :: r, i, acc => by
    simp only [restGo]
    by_cases hq : p < lv + i
    · rw [h _ hq]; exact restGo_congr lv D R R' p h r (i + 1) _
    · simp only [hq, false_and, if_false]; exact restGo_congr lv D R R' p h r (i + 1) _

theorem restL_stay (n : Net) (D : List Int) (q : Nat) : ∀ (j k : Nat), n.leaves.toNat + n.placed.length ≤ q + k → k + j ≤ n.leaves.toNat + n.placed.length → (restL n D (k + j)).getD q 0 = (restL n D k).getD q 0
  | 0, k, h, _ => rfl
  | j + 1, k, h, hkj => by
    rw [← restL_stay n D q j k h (by omega), show k + (j + 1) = (k + j) + 1 by omega]
    simp only [restL, List.getD]
    by_cases hq : q < n.leaves.toNat + n.placed.length
    · rw [List.getElem?_set_ne (by omega)]
    · rw [List.getElem?_eq_none (by simp [restL_len]; omega), List.getElem?_eq_none (by simp [restL_len]; omega)]

/-- What the greatest delays are. -/
theorem rest_fix (n : Net) (D : List Int) (p : Nat) (hp : p < n.leaves.toNat + n.placed.length) : (restL n D (n.leaves.toNat + n.placed.length)).getD p 0 = restV n D (restL n D (n.leaves.toNat + n.placed.length)) p := by
  have hk : n.leaves.toNat + n.placed.length = (n.leaves.toNat + n.placed.length - 1 - p + 1) + p := by omega
  have h1 := restL_stay n D p p (n.leaves.toNat + n.placed.length - 1 - p + 1) (by omega) (by omega)
  rw [← hk] at h1
  rw [h1]
  have hpp : n.leaves.toNat + n.placed.length - 1 - (n.leaves.toNat + n.placed.length - 1 - p) = p := by omega
  have hset : (restL n D (n.leaves.toNat + n.placed.length - 1 - p + 1)).getD p 0 = restV n D (restL n D (n.leaves.toNat + n.placed.length - 1 - p)) p := by
    rw [restL, hpp]
    simp only [List.getD]
    rw [List.getElem?_set_self (by rw [restL_len]; exact hp)]
    rfl
  rw [hset]
  unfold restV
  refine restGo_congr _ _ _ _ _ (fun q hq => ?_) _ _ _
  have h2 := restL_stay n D q (1 + p) (n.leaves.toNat + n.placed.length - 1 - p) (by omega) (by omega)
  rw [show n.leaves.toNat + n.placed.length - 1 - p + (1 + p) = n.leaves.toNat + n.placed.length by omega] at h2
  exact h2.symm

theorem restGo_from (lv : Nat) (D R : List Int) (p : Nat) (v : Int) : ∀ (pl : List Placed) (i : Nat) (acc : Int), restGo lv D R p i pl acc = v → acc ≠ v → ∃ j c, i ≤ j ∧ pl[j - i]? = some c ∧ p < lv + j ∧ memB c.sources ((p : Int) + 2) = true ∧ R.getD (lv + j) 0 ≠ -1 ∧ D.getD j 0 + R.getD (lv + j) 0 = v
  | [], i, acc, h, hne => absurd h hne
  | c :: r, i, acc, h, hne => by
    simp only [restGo] at h
    have tail : ∀ acc', restGo lv D R p (i + 1) r acc' = v → acc' ≠ v → ∃ j c', i ≤ j ∧ (c :: r)[j - i]? = some c' ∧ p < lv + j ∧ memB c'.sources ((p : Int) + 2) = true ∧ R.getD (lv + j) 0 ≠ -1 ∧ D.getD j 0 + R.getD (lv + j) 0 = v := fun acc' h' hne' => by
      obtain ⟨j, c', g1, g2, g3⟩ := restGo_from lv D R p v r (i + 1) acc' h' hne'
      refine ⟨j, c', by omega, ?_, g3⟩
      rw [show j - i = (j - (i + 1)) + 1 by omega]
      simpa using g2
    split at h
    · rename_i hc
      by_cases he : max acc (D.getD i 0 + R.getD (lv + i) 0) = v
      · exact ⟨i, c, Nat.le_refl _, by simp, hc.1, hc.2.1, hc.2.2, by omega⟩
      · exact tail _ h he
    · exact tail _ h hne

theorem nextI_ex (lv : Nat) (D R : List Int) (p : Nat) : ∀ (pl : List Placed) (i j : Nat) (c : Placed), i ≤ j → pl[j - i]? = some c → p < lv + j → memB c.sources ((p : Int) + 2) = true → R.getD (lv + j) 0 ≠ -1 → D.getD j 0 + R.getD (lv + j) 0 = R.getD p 0 → ∃ k, nextI lv D R p i pl = some k
  | [], i, j, c, _, h, _, _, _, _ => by simp at h
  | d :: r, i, j, c, hij, h, h1, h2, h3, h4 => by
    simp only [nextI]
    split
    · exact ⟨i, rfl⟩
    · rename_i hn
      have hne : i ≠ j := by
        rintro rfl
        simp at h
        subst h
        exact hn ⟨h1, h2, h3, h4⟩
      refine nextI_ex lv D R p r (i + 1) j c (by omega) ?_ h1 h2 h3 h4
      rw [show j - i = (j - (i + 1)) + 1 by omega] at h
      simpa using h

theorem rest_next (n : Net) (D : List Int) (p : Nat) (hp : p < n.leaves.toNat + n.placed.length) (h : 0 < (restL n D (n.leaves.toNat + n.placed.length)).getD p 0) : ∃ i, nextI n.leaves.toNat D (restL n D (n.leaves.toNat + n.placed.length)) p 0 n.placed = some i := by
  have hf := rest_fix n D p hp
  generalize restL n D (n.leaves.toNat + n.placed.length) = R at *
  unfold restV at hf
  obtain ⟨j, c, g1, g2, g3, g4, g5, g6⟩ := restGo_from n.leaves.toNat D R p (R.getD p 0) n.placed 0 (if endB n p then 0 else -1) hf.symm (by split <;> omega)
  exact nextI_ex n.leaves.toNat D R p n.placed 0 j c (Nat.zero_le _) g2 g3 g4 g5 g6

theorem critGo_in (R : List Int) : ∀ (l : List Int) (p : Nat) (b k : Int), (critGo R p l b k = (b, k)) ∨ ∃ (q : Nat) (t : Int), p ≤ q ∧ l[q - p]? = some t ∧ (critGo R p l b k).1 = q ∧ (critGo R p l b k).2 = t + R.getD q 0 ∧ R.getD q 0 ≠ -1 ∧ k < (critGo R p l b k).2
  | [], p, b, k => .inl rfl
  | t :: r, p, b, k => by
    simp only [critGo]
    split
    · rename_i hc
      rcases critGo_in R r (p + 1) p (t + R.getD p 0) with h | ⟨q, t', h1, h2, h3, h4, h5, h6⟩
      · exact .inr ⟨p, t, Nat.le_refl _, by simp, by rw [h], by rw [h], hc.1, by rw [h]; exact hc.2⟩
      · refine .inr ⟨q, t', by omega, ?_, h3, h4, h5, by omega⟩
        rw [show q - p = (q - (p + 1)) + 1 by omega]; simpa using h2
    · rcases critGo_in R r (p + 1) b k with h | ⟨q, t', h1, h2, h3, h4, h5, h6⟩
      · exact .inl h
      · refine .inr ⟨q, t', by omega, ?_, h3, h4, h5, h6⟩
        rw [show q - p = (q - (p + 1)) + 1 by omega]; simpa using h2

/-- Where the critical path begins, its delay, and itself. -/
def critB (l : List Cell) (n : Net) (m : Model) (ats : List Int) : Int × Int := critGo (restN l n m) 0 ats 0 (-1)
def critP (l : List Cell) (n : Net) (m : Model) (ats : List Int) : List Int := critW n (delaysN l n m) (restN l n m) (n.leaves.toNat + n.placed.length) (critB l n m ats).1.toNat [(critB l n m ats).1]

theorem e_CriticalPath_err (l : List Cell) (n : Net) (m : Model) (h : netOk l n) (ats : List Int) (hd : ats.length ≤ top63) (he : errA l n m ats ≠ 0) :
    EE π n_timing_CriticalPath [.p (encLib l), .p (encNet n), .p (encModel m), .p (encInts ats)] [] = some (.p (.tup [.sl 1 (some true) [], I 0, I (errA l n m ats)]), []) := by
  unfold errA at *
  by_cases ha : allE l n m = 0
  · have e : firstE [allE l n m, timesE ats n.leaves] = timesE ats n.leaves := by by_cases hz : timesE ats n.leaves = 0 <;> simp [firstE, hz, ha]
    rw [e] at he ⊢
    have ho := fun π => e_openTimes_ok (π := π) l n m h ha ats hd
    generalize delaysN l n m = D at *
    simp [e_timing_CriticalPath, run_eq, c_timing_CriticalPath, ho, he]
  · have e : firstE [allE l n m, timesE ats n.leaves] = allE l n m := by simp [firstE, ha]
    rw [e]
    simp [e_timing_CriticalPath, run_eq, c_timing_CriticalPath, e_openTimes_err l n m h ha ats hd, ha]

theorem e_CriticalPath_none (l : List Cell) (n : Net) (m : Model) (h : netOk l n) (ats : List Int) (hd : ats.length ≤ top63) (he : errA l n m ats = 0) (hk : (critB l n m ats).2 = -1) :
    EE π n_timing_CriticalPath [.p (encLib l), .p (encNet n), .p (encModel m), .p (encInts ats)] [] = some (.p (.tup [.sl 1 (some true) [], I 0, I 12]), []) := by
  unfold errA at he
  rw [firstE_cons, firstE_cons] at he
  obtain ⟨ha, ht, _⟩ := he
  have hv := valid_of ha
  have hlv1 := hv.lv1
  have hnp := hv.np
  obtain ⟨ht1, ht2⟩ := times_ok ht
  have ho := fun π => e_openTimes_ok (π := π) l n m h ha ats hd
  rw [ht] at ho
  have hr := fun π => e_rests (π := π) l n m hv
  have hRl : (restN l n m).length = n.leaves.toNat + n.placed.length := restL_len _ _ _
  have hRb : Bnd (restN l n m) 3000000 := (restL_in n (delaysN l n m) hv.D_ge _).mono (by omega)
  have h0 := crit_loop0 (π := π) l n m (restN l n m) (delaysN l n m) ats hRb ht2 (by omega) (by omega) ats [] 0 (-1)
  unfold critB at hk
  rw [show (([] : List Int).length) = 0 from rfl, hk] at h0
  generalize (critGo (restN l n m) 0 ats 0 (-1)).1 = b at *
  generalize delaysN l n m = D at *
  generalize restN l n m = R at *
  simp [e_timing_CriticalPath, run_eq, c_timing_CriticalPath, ho, hr]
  rw [h0 _ rfl (by simp)]
  simp

theorem e_CriticalPath_ok (l : List Cell) (n : Net) (m : Model) (h : netOk l n) (ats : List Int) (hd : ats.length ≤ top63) (he : errA l n m ats = 0) (hk : (critB l n m ats).2 ≠ -1) :
    EE π n_timing_CriticalPath [.p (encLib l), .p (encNet n), .p (encModel m), .p (encInts ats)] [] = some (.tup [.ap (67 :: π), .p (I (critB l n m ats).2), .p (I 0)], [rowI (67 :: π) (some false) (critP l n m ats)]) := by
  unfold errA at he
  rw [firstE_cons, firstE_cons] at he
  obtain ⟨ha, ht, _⟩ := he
  have hv := valid_of ha
  have hlv0 := hv.lv0
  have hlv1 := hv.lv1
  have hnp := hv.np
  obtain ⟨ht1, ht2⟩ := times_ok ht
  have ho := fun π => e_openTimes_ok (π := π) l n m h ha ats hd
  rw [ht] at ho
  have hr := fun π => e_rests (π := π) l n m hv
  have hRl : (restN l n m).length = n.leaves.toNat + n.placed.length := restL_len _ _ _
  have hRb : Bnd (restN l n m) 3000000 := (restL_in n (delaysN l n m) hv.D_ge _).mono (by omega)
  have hDl : (delaysN l n m).length = n.placed.length := by simp [delaysN]
  have h0 := crit_loop0 (π := π) l n m (restN l n m) (delaysN l n m) ats hRb ht2 (by omega) (by omega) ats [] 0 (-1)
  rw [show (([] : List Int).length) = 0 from rfl] at h0
  unfold critP
  unfold critB at *
  have hb : ∃ q : Nat, (critGo (restN l n m) 0 ats 0 (-1)).1 = q ∧ q < ats.length := by
    rcases critGo_in (restN l n m) ats 0 0 (-1) with hh | ⟨q, t, _, g2, g3, _⟩
    · rw [hh] at hk; exact absurd rfl hk
    · exact ⟨q, g3, by have := (List.getElem?_eq_some_iff.1 g2).1; omega⟩
  obtain ⟨q, hq, hql⟩ := hb
  have h1 := crit_loop1 (π := π) l n m hv (restN l n m) (delaysN l n m) hDl hv.D_ge hRl hRb (critGo (restN l n m) 0 ats 0 (-1)).2 (fun p hp h0 => rest_next n (delaysN l n m) p hp h0) (n.leaves.toNat + n.placed.length) q [(q : Int)]
  rw [hq] at h0 ⊢
  rw [show ((q : Nat) : Int).toNat = q from Int.toNat_natCast q]
  generalize critW n (delaysN l n m) (restN l n m) (n.leaves.toNat + n.placed.length) q [(q : Int)] = W at *
  generalize (critGo (restN l n m) 0 ats 0 (-1)).2 = k at *
  generalize delaysN l n m = D at *
  generalize restN l n m = R at *
  simp [e_timing_CriticalPath, run_eq, c_timing_CriticalPath, ho, hr]
  rw [h0 _ rfl (by simp)]
  simp [hk, thaw, thaw1]
  rw [h1 _ (by omega) (by omega) (by simp; omega) (by simp)]
  simp

end Go.Proofs.Ytafomlbikcphgaa.V

/- Paths: their errors, their delays, the first one of the greatest delay (plain). -/
namespace Go.Proofs.Ytafomlbikcphgaa.V
open Go (IntKind BinOp UnOp)
variable {π ρ κ : Id}

abbrev wr (x : Int) : Int := IntKind.i64.wrap x
/-- The error of a path's point. -/
def stepErr (n : Net) (path : List Int) (i : Nat) (p : Int) : Int :=
  if i = 0 then unlE (within p 0 (n.leaves - 1)) 6
  else if within p n.leaves (n.leaves + n.placed.length - 1) = true then unlE (memB (n.placed.getD (p - n.leaves).toNat ⟨0, []⟩).sources (IntKind.i64.wrap (path.getD (i - 1) 0 + 2))) 14 else 6
def pathE (n : Net) (path : List Int) : Int :=
  if path = [] then 10 else if (eachE (stepErr n path) 0 path).2 ≠ 0 then (eachE (stepErr n path) 0 path).2 else unlE (memB n.outs (IntKind.i64.wrap (path.getLastD 0 + 2))) 21

/-- The delays of some cells' points. -/
def sumD (lv : Int) (D : List Int) : List Int → Int → Int
  | [], a => a
  | p :: r, a => sumD lv D r (a + D.getD (p - lv).toNat 0)
def alongN (n : Net) (D ats path : List Int) : Int := sumD n.leaves D (path.drop 1) (ats.getD (path.headD 0).toNat 0)

/-- Points of a path: a leaf bit, then cells. -/
structure PathIn (n : Net) (path : List Int) : Prop where
  ne : path ≠ []
  h0 : 0 ≤ path.headD 0 ∧ path.headD 0 < n.leaves
  cs : ∀ p ∈ path.drop 1, n.leaves ≤ p ∧ p < n.leaves + n.placed.length
  len : path.length ≤ 1000

theorem sumD_in (lv : Int) (D : List Int) (hD : ∀ i, 0 ≤ D.getD i 0 ∧ D.getD i 0 ≤ 25400) : ∀ (ps : List Int) (a : Int), 0 ≤ a → 0 ≤ sumD lv D ps a ∧ sumD lv D ps a ≤ a + 25400 * (ps.length : Int)
  | [], a, h => by simp [sumD]; omega
  | p :: r, a, h => by
    have hd := hD (p - lv).toNat
    have := sumD_in lv D hD r (a + D.getD (p - lv).toNat 0) (by omega)
    simp only [sumD, List.length_cons]
    omega

theorem step_cells {n : Net} {path : List Int} : ∀ (ps : List Int) (i : Nat), 0 < i → (eachE (stepErr n path) i ps).2 = 0 → ∀ p ∈ ps, n.leaves ≤ p ∧ p < n.leaves + n.placed.length
  | [], i, hi, h, p, hp => by cases hp
  | q :: r, i, hi, h, p, hp => by
    simp only [eachE] at h
    by_cases hz : stepErr n path i q = 0
    · rw [if_pos hz] at h
      rcases List.mem_cons.1 hp with rfl | hp
      · unfold stepErr at hz
        rw [if_neg (by omega)] at hz
        split at hz
        · rename_i hw
          have := within_iff.1 hw
          omega
        · cases hz
      · exact step_cells r (i + 1) (by omega) h p hp
    · rw [if_neg hz] at h
      exact absurd h hz

theorem pathIn_of {n : Net} {path : List Int} (hl : path.length ≤ 1000) (h : pathE n path = 0) : PathIn n path := by
  unfold pathE at h
  split at h
  · cases h
  · rename_i hne
    split at h
    · rename_i hz; exact absurd h hz
    · rename_i hz
      simp only [ne_eq, Decidable.not_not] at hz
      cases path with
      | nil => exact absurd rfl hne
      | cons p r =>
        simp only [eachE] at hz
        by_cases h1 : stepErr n (p :: r) 0 p = 0
        · rw [if_pos h1] at hz
          unfold stepErr at h1
          rw [if_pos rfl, unlE_z (by decide), within_iff] at h1
          exact ⟨hne, by simp; omega, step_cells r 1 (by omega) hz, hl⟩
        · rw [if_neg h1] at hz
          exact absurd hz h1

/-- The error of a path's delay. -/
def errQ (l : List Cell) (n : Net) (m : Model) (ats path : List Int) : Int := if errA l n m ats = 0 then pathE n path else errA l n m ats

/-- The first path of the greatest delay. -/
def critLG (w : List Int → Int) : List (List Int) → Option (List Int) → Option (List Int)
  | [], b => b
  | p :: r, none => critLG w r (some p)
  | p :: r, some b => critLG w r (if w b < w p then some p else some b)
abbrev encBest : Option (List Int) → PV
  | none => .sl 1 (some true) []
  | some b => encInts b

theorem encInts_cons (a : Int) (r : List Int) : encInts (a :: r) = .sl 1 none (I a :: ints r) := rfl

theorem critLG_mem (w : List Int → Int) : ∀ (L : List (List Int)) (b : Option (List Int)) (p : List Int), critLG w L b = some p → p ∈ L ∨ b = some p
  | [], b, p, h => Or.inr h
  | q :: r, b, p, h => by
    cases b with
    | none =>
      simp only [critLG] at h
      cases critLG_mem w r _ p h with
      | inl h => exact Or.inl (List.mem_cons_of_mem _ h)
      | inr h => cases h; exact Or.inl (List.mem_cons_self ..)
    | some b =>
      simp only [critLG] at h
      split at h
      · cases critLG_mem w r _ p h with
        | inl h => exact Or.inl (List.mem_cons_of_mem _ h)
        | inr h => cases h; exact Or.inl (List.mem_cons_self ..)
      · cases critLG_mem w r _ p h with
        | inl h => exact Or.inl (List.mem_cons_of_mem _ h)
        | inr h => exact Or.inr h

theorem critLG_some (w : List Int → Int) : ∀ (L : List (List Int)) (b : List Int), ∃ c, critLG w L (some b) = some c
  | [], b => ⟨b, rfl⟩
  | q :: r, b => by
    simp only [critLG]
    split
    · exact critLG_some w r q
    · exact critLG_some w r b
end Go.Proofs.Ytafomlbikcphgaa.V

/- All paths, and the greatest one: plain laws. -/
namespace Go.Proofs.Ytafomlbikcphgaa.V
open Go (IntKind BinOp UnOp)
variable {π ρ κ : Id}

/-! ### All paths, none left out -/
/-- All paths that go on from one. -/
def allIn (g : List Int → List (List Int)) (lv : Int) (path : List Int) (last : Int) : Nat → List Placed → List (List Int)
  | _, [] => []
  | i, p :: r => (if memB p.sources (last + 2) then g (path ++ [lv + i]) else []) ++ allIn g lv path last (i + 1) r
def allF (n : Net) : Nat → List Int → List (List Int)
  | 0, _ => []
  | f + 1, path => (if endB n (path.getLastD 0) then [path] else []) ++ allIn (allF n f) n.leaves path (path.getLastD 0) 0 n.placed

theorem lonIn_ge (g : List Int → List (List Int) → List (List Int)) (hg : ∀ p o, o.length ≤ (g p o).length) (lv : Int) (path : List Int) (last : Int) : ∀ (pl : List Placed) (i : Nat) (out : List (List Int)), out.length ≤ (lonIn g lv path last i pl out).length
  | [], i, out => Nat.le_refl _
  | p :: r, i, out => by
    simp only [lonIn]
    refine Nat.le_trans ?_ (lonIn_ge g hg lv path last r (i + 1) _)
    split
    · exact hg _ _
    · exact Nat.le_refl _
theorem lon_ge (n : Net) (most : Nat) : ∀ (f : Nat) (path : List Int) (out : List (List Int)), out.length ≤ (lon n most f path out).length
  | 0, path, out => Nat.le_refl _
  | f + 1, path, out => by
    simp only [lon]
    split
    · exact Nat.le_refl _
    · refine Nat.le_trans ?_ (lonIn_ge (lon n most f) (lon_ge n most f) _ _ _ _ _ _)
      split <;> simp
theorem lonIn_all (most : Nat) (g : List Int → List (List Int) → List (List Int)) (g' : List Int → List (List Int)) (hge : ∀ p o, o.length ≤ (g p o).length) (hg : ∀ p o, (g p o).length ≤ most → g p o = o ++ g' p) (lv : Int) (path : List Int) (last : Int) :
    ∀ (pl : List Placed) (i : Nat) (out : List (List Int)), (lonIn g lv path last i pl out).length ≤ most → lonIn g lv path last i pl out = out ++ allIn g' lv path last i pl
  | [], i, out, h => by simp [lonIn, allIn]
  | p :: r, i, out, h => by
    simp only [lonIn, allIn] at h ⊢
    have h1 := lonIn_ge g hge lv path last r (i + 1) (if memB p.sources (last + 2) = true then g (path ++ [lv + i]) out else out)
    have ih := lonIn_all most g g' hge hg lv path last r (i + 1) _ h
    have h0 := Nat.le_trans h1 h
    rw [ih]
    split
    · rename_i hb
      rw [if_pos hb] at h0
      rw [hg _ _ h0, List.append_assoc]
    · simp
theorem lon_all (n : Net) (most : Nat) : ∀ (f : Nat) (path : List Int) (out : List (List Int)), (lon n most f path out).length ≤ most → lon n most f path out = out ++ allF n f path
  | 0, path, out, h => by simp [lon, allF]
  | f + 1, path, out, h => by
    simp only [lon, allF] at h ⊢
    split at h
    · omega
    · rename_i hm
      rw [if_neg hm]
      rw [lonIn_all most (lon n most f) (allF n f) (lon_ge n most f) (lon_all n most f) _ _ _ _ _ _ h]
      split <;> simp

/-- All paths from the leaf bits. -/
def allT (n : Net) (f : Nat) : Nat → Nat → List (List Int)
  | 0, _ => []
  | j + 1, p => allF n f [(p : Int)] ++ allT n f j (p + 1)
theorem allP_ge (n : Net) (most f : Nat) : ∀ (j p : Nat) (out : List (List Int)), out.length ≤ (allP n most f j p out).length
  | 0, p, out => Nat.le_refl _
  | j + 1, p, out => Nat.le_trans (lon_ge n most f _ _) (allP_ge n most f j (p + 1) _)
theorem allP_all (n : Net) (most f : Nat) : ∀ (j p : Nat) (out : List (List Int)), (allP n most f j p out).length ≤ most → allP n most f j p out = out ++ allT n f j p
  | 0, p, out, h => by simp [allP, allT]
  | j + 1, p, out, h => by
    simp only [allP, allT] at h ⊢
    have h1 := allP_ge n most f j (p + 1) (lon n most f [(p : Int)] out)
    rw [allP_all n most f j (p + 1) _ h, lon_all n most f _ _ (by omega), List.append_assoc]

/-! ### The first one of the greatest delay -/
def mrg (w : List Int → Int) (b c : Option (List Int)) : Option (List Int) := match b, c with
  | b, none => b
  | none, c => c
  | some b, some c => if w b < w c then some c else some b
theorem mrg_none (w : List Int → Int) (c : Option (List Int)) : mrg w none c = c := by cases c <;> rfl
theorem mrg_assoc (w : List Int → Int) (a b c : Option (List Int)) : mrg w (mrg w a b) c = mrg w a (mrg w b c) := by
  cases a <;> cases b <;> cases c <;> simp only [mrg] <;> try rfl
  · split <;> rfl
  · rename_i a b c
    by_cases h1 : w a < w b <;> by_cases h2 : w b < w c <;> by_cases h3 : w a < w c <;> simp [h1, h2, h3] <;> omega
theorem critLG_mrg (w : List Int → Int) : ∀ (L : List (List Int)) (b : Option (List Int)), critLG w L b = mrg w b (critLG w L none)
  | [], b => by cases b <;> rfl
  | p :: r, none => by rw [mrg_none]
  | p :: r, some b => by
    simp only [critLG]
    rw [critLG_mrg w r (some p), critLG_mrg w r (if w b < w p then some p else some b), ← mrg_assoc]
    rfl
theorem critLG_app (w : List Int → Int) : ∀ (A B : List (List Int)) (b : Option (List Int)), critLG w (A ++ B) b = critLG w B (critLG w A b)
  | [], B, b => rfl
  | p :: r, B, none => critLG_app w r B _
  | p :: r, B, some b => critLG_app w r B _
theorem critLG_join (w : List Int → Int) (A B : List (List Int)) : critLG w (A ++ B) none = mrg w (critLG w A none) (critLG w B none) := by
  rw [critLG_app, critLG_mrg]

/-- The first cell by which a way has a delay. -/
def nextV (lv : Nat) (D R : List Int) (p : Nat) (v : Int) : Nat → List Placed → Option Nat
  | _, [] => none
  | i, c :: r => if p < lv + i ∧ memB c.sources ((p : Int) + 2) = true ∧ R.getD (lv + i) 0 ≠ -1 ∧ D.getD i 0 + R.getD (lv + i) 0 = v then some i else nextV lv D R p v (i + 1) r
theorem nextI_V (lv : Nat) (D R : List Int) (p : Nat) : ∀ (pl : List Placed) (i : Nat), nextI lv D R p i pl = nextV lv D R p (R.getD p 0) i pl
  | [], i => rfl
  | c :: r, i => by simp only [nextI, nextV, nextI_V lv D R p r (i + 1)]

theorem restGo_ge (lv : Nat) (D R : List Int) (p : Nat) : ∀ (pl : List Placed) (i : Nat) (acc : Int), acc ≤ restGo lv D R p i pl acc
  | [], i, acc => Int.le_refl _
  | c :: r, i, acc => by
    simp only [restGo]
    refine Int.le_trans ?_ (restGo_ge lv D R p r (i + 1) _)
    split <;> omega

/-- What is known of the best path so far. -/
def Rel (w : List Int → Int) (w0 : Int) (B : Option (List Int)) (acc : Int) : Prop := match B with
  | none => acc = -1
  | some b => 0 ≤ acc ∧ w b = w0 + acc

theorem best_fold (lv : Nat) (hlv : Int) (hlvE : hlv = lv) (D R : List Int) (w : List Int → Int) (g : List Int → List (List Int)) (P : Nat → List Int) (path : List Int) (p : Nat) (hD : ∀ i, 0 ≤ D.getD i 0) (hR : ∀ q, -1 ≤ R.getD q 0) (N : Nat)
    (hlt : ∀ i (c : Placed), i < N → memB c.sources ((p : Int) + 2) = true → p < lv + i → True)
    (hg : ∀ i, i < N → p < lv + i → critLG w (g (path ++ [hlv + i])) none = if R.getD (lv + i) 0 = -1 then none else some (P i))
    (hP : ∀ i, i < N → p < lv + i → R.getD (lv + i) 0 ≠ -1 → w (P i) = w path + (D.getD i 0 + R.getD (lv + i) 0)) :
    ∀ (pl : List Placed) (i : Nat) (acc : Int) (B : Option (List Int)), i + pl.length ≤ N → (∀ (j : Nat) c, pl[j]? = some c → memB c.sources ((p : Int) + 2) = true → p < lv + (i + j)) → Rel w (w path) B acc →
      Rel w (w path) (mrg w B (critLG w (allIn g hlv path p i pl) none)) (restGo lv D R p i pl acc) ∧
      (restGo lv D R p i pl acc = acc → mrg w B (critLG w (allIn g hlv path p i pl) none) = B) ∧
      (restGo lv D R p i pl acc ≠ acc → ∃ j, nextV lv D R p (restGo lv D R p i pl acc) i pl = some j ∧ mrg w B (critLG w (allIn g hlv path p i pl) none) = some (P j))
  | [], i, acc, B, hN, hm, hrel => by
    have : critLG w (allIn g hlv path p i []) none = none := rfl
    rw [this]
    have e : mrg w B none = B := by cases B <;> rfl
    rw [e]
    exact ⟨hrel, fun _ => rfl, fun h => absurd rfl h⟩
  | c :: r, i, acc, B, hN, hm, hrel => by
    simp only [List.length_cons] at hN
    have hm' : ∀ (j : Nat) c', r[j]? = some c' → memB c'.sources ((p : Int) + 2) = true → p < lv + (i + 1 + j) := fun j c' hc hb => by
      have := hm (j + 1) c' (by simpa using hc) hb
      omega
    simp only [allIn, restGo, nextV]
    rw [critLG_join, ← mrg_assoc]
    by_cases hb : memB c.sources ((p : Int) + 2) = true
    · have hpi : p < lv + i := by have := hm 0 c rfl hb; omega
      rw [if_pos hb, hg i (by omega) hpi]
      by_cases hr : R.getD (lv + i) 0 = -1
      · rw [if_pos hr]
        have e : mrg w B none = B := by cases B <;> rfl
        rw [e]
        simp only [hr, ne_eq, not_true_eq_false, false_and, and_false, if_false]
        exact best_fold lv hlv hlvE D R w g P path p hD hR N hlt hg hP r (i + 1) acc B (by omega) hm' hrel
      · rw [if_neg hr]
        have hPi := hP i (by omega) hpi hr
        have hd := hD i
        have hri := hR (lv + i)
        simp only [hpi, hb, hr, ne_eq, not_false_eq_true, and_self, if_true, true_and]
        by_cases hv : acc < D.getD i 0 + R.getD (lv + i) 0
        · have hmx : max acc (D.getD i 0 + R.getD (lv + i) 0) = D.getD i 0 + R.getD (lv + i) 0 := by omega
          rw [hmx]
          have hB1 : mrg w B (some (P i)) = some (P i) := by
            cases B with
            | none => rfl
            | some b =>
              simp only [Rel] at hrel
              simp only [mrg]
              rw [if_pos (by omega)]
          rw [hB1]
          have hrel1 : Rel w (w path) (some (P i)) (D.getD i 0 + R.getD (lv + i) 0) := ⟨by omega, hPi⟩
          obtain ⟨q1, q2, q3⟩ := best_fold lv hlv hlvE D R w g P path p hD hR N hlt hg hP r (i + 1) _ (some (P i)) (by omega) hm' hrel1
          have hge := restGo_ge lv D R p r (i + 1) (D.getD i 0 + R.getD (lv + i) 0)
          refine ⟨q1, fun h => by omega, fun _ => ?_⟩
          by_cases he : restGo lv D R p (i + 1) r (D.getD i 0 + R.getD (lv + i) 0) = D.getD i 0 + R.getD (lv + i) 0
          · rw [if_pos he.symm]
            exact ⟨i, rfl, q2 he⟩
          · rw [if_neg (Ne.symm he)]
            exact q3 he
        · have hmx : max acc (D.getD i 0 + R.getD (lv + i) 0) = acc := by omega
          rw [hmx]
          have hB1 : mrg w B (some (P i)) = B := by
            cases B with
            | none => simp only [Rel] at hrel; omega
            | some b =>
              simp only [Rel] at hrel
              simp only [mrg]
              rw [if_neg (by omega)]
          rw [hB1]
          obtain ⟨q1, q2, q3⟩ := best_fold lv hlv hlvE D R w g P path p hD hR N hlt hg hP r (i + 1) acc B (by omega) hm' hrel
          have hge := restGo_ge lv D R p r (i + 1) acc
          refine ⟨q1, q2, fun h => ?_⟩
          rw [if_neg (by omega)]
          exact q3 h
    · rw [if_neg hb]
      have e : mrg w B (critLG w [] none) = B := by cases B <;> rfl
      rw [e]
      simp only [hb, false_and, and_false, if_false, Bool.false_eq_true]
      exact best_fold lv hlv hlvE D R w g P path p hD hR N hlt hg hP r (i + 1) acc B (by omega) hm' hrel


end Go.Proofs.Ytafomlbikcphgaa.V

/- The critical path is the first one of the greatest delay; no path is later than its last point. -/
namespace Go.Proofs.Ytafomlbikcphgaa.V
open Go (IntKind BinOp UnOp)
variable {π ρ κ : Id}

theorem sumD_app (lv : Int) (D : List Int) : ∀ (a b : List Int) (x : Int), sumD lv D (a ++ b) x = sumD lv D b (sumD lv D a x)
  | [], b, x => rfl
  | p :: r, b, x => sumD_app lv D r b _
theorem along_snoc (n : Net) (D ats path : List Int) (hne : path ≠ []) (i : Nat) : alongN n D ats (path ++ [n.leaves + i]) = alongN n D ats path + D.getD i 0 := by
  cases path with
  | nil => exact absurd rfl hne
  | cons a r =>
    unfold alongN
    simp only [List.cons_append, List.headD_cons, List.drop_succ_cons, List.drop_zero]
    rw [sumD_app]
    simp only [sumD]
    rw [show (n.leaves + (i : Int) - n.leaves).toNat = i by omega]

theorem nextV_in (lv : Nat) (D R : List Int) (p : Nat) (v : Int) : ∀ (pl : List Placed) (i j : Nat), nextV lv D R p v i pl = some j → i ≤ j ∧ j < i + pl.length ∧ R.getD (lv + j) 0 ≠ -1 ∧ D.getD j 0 + R.getD (lv + j) 0 = v
  | [], i, j, h => by simp [nextV] at h
  | c :: r, i, j, h => by
    simp only [nextV] at h
    split at h
    · rename_i hc
      simp at h
      subst h
      simp; exact hc.2.2
    · obtain ⟨h1, h2, h3⟩ := nextV_in lv D R p v r (i + 1) j h
      exact ⟨by omega, by simp; omega, h3⟩

theorem best_path (l : List Cell) (n : Net) (m : Model) (hv : Valid l n m) (ats : List Int) : ∀ (f p : Nat) (path : List Int), path ≠ [] → path.getLastD 0 = p → p < n.leaves.toNat + n.placed.length → n.leaves.toNat + n.placed.length ≤ p + f →
    (critLG (alongN n (delaysN l n m) ats) (allF n f path) none = if (restN l n m).getD p 0 = -1 then none else some (critW n (delaysN l n m) (restN l n m) f p path)) ∧
    ((restN l n m).getD p 0 ≠ -1 → alongN n (delaysN l n m) ats (critW n (delaysN l n m) (restN l n m) f p path) = alongN n (delaysN l n m) ats path + (restN l n m).getD p 0)
  | 0, p, path, hne, hp, h1, h2 => by omega
  | f + 1, p, path, hne, hp, h1, h2 => by
    have hlv0 := hv.lv0
    have hfix := rest_fix n (delaysN l n m) p h1
    have hRb : Bnd (restN l n m) (25400 * ((n.leaves.toNat + n.placed.length : Nat) : Int)) := restL_in n (delaysN l n m) hv.D_ge _
    have hRq := fun q => (hRb.getD (by omega) q).1
    have hR : restN l n m = restL n (delaysN l n m) (n.leaves.toNat + n.placed.length) := rfl
    rw [← hR] at hfix
    have ih : ∀ i, i < n.placed.length → p < n.leaves.toNat + i → (critLG (alongN n (delaysN l n m) ats) (allF n f (path ++ [n.leaves + i])) none = if (restN l n m).getD (n.leaves.toNat + i) 0 = -1 then none else some (critW n (delaysN l n m) (restN l n m) f (n.leaves.toNat + i) (path ++ [n.leaves + i]))) ∧
        ((restN l n m).getD (n.leaves.toNat + i) 0 ≠ -1 → alongN n (delaysN l n m) ats (critW n (delaysN l n m) (restN l n m) f (n.leaves.toNat + i) (path ++ [n.leaves + i])) = alongN n (delaysN l n m) ats (path ++ [n.leaves + i]) + (restN l n m).getD (n.leaves.toNat + i) 0) := fun i hi hpi =>
      best_path l n m hv ats f (n.leaves.toNat + i) (path ++ [n.leaves + i]) (by simp) (by simp; omega) (by omega) (by omega)
    have hDin := hv.D_in
    have hD0 := fun i => (hv.D_ge i).1
    have hsnoc := along_snoc n (delaysN l n m) ats path hne
    simp only [allF, critW]
    rw [critLG_join, hp]
    generalize hw : alongN n (delaysN l n m) ats = w at *
    generalize restN l n m = R at *
    generalize delaysN l n m = D at *
    have hB0 : critLG w (if endB n (p : Int) = true then [path] else []) none = if endB n (p : Int) = true then some path else none := by split <;> rfl
    rw [hB0]
    have hrel0 : Rel w (w path) (if endB n (p : Int) = true then some path else none) (if endB n (p : Int) = true then 0 else -1) := by
      split
      · exact ⟨by omega, by omega⟩
      · exact rfl
    obtain ⟨b1, b2, b3⟩ := best_fold n.leaves.toNat n.leaves (by omega) D R w (allF n f) (fun i => critW n D R f (n.leaves.toNat + i) (path ++ [n.leaves + i])) path p hD0 hRq n.placed.length (fun _ _ _ _ _ => trivial)
      (fun i hi hpi => (ih i hi hpi).1) (fun i hi hpi hr => by rw [(ih i hi hpi).2 hr, hsnoc i]; omega) n.placed 0 (if endB n (p : Int) = true then 0 else -1) (if endB n (p : Int) = true then some path else none) (by omega)
      (fun j c hc hb => by
        have hs := hv.src j c hc _ (memB_iff.1 hb)
        omega) hrel0
    unfold restV at hfix
    rw [← hfix] at b1 b2 b3
    have hge := restGo_ge n.leaves.toNat D R p n.placed 0 (if endB n (p : Int) = true then 0 else -1)
    rw [← hfix] at hge
    generalize mrg w (if endB n (p : Int) = true then some path else none) (critLG w (allIn (allF n f) n.leaves path (p : Int) 0 n.placed) none) = M at *
    by_cases he : R.getD p 0 = if endB n (p : Int) = true then 0 else -1
    · rw [b2 he]
      cases hend : endB n (p : Int) with
      | true =>
        rw [hend] at he
        simp only [if_true] at he
        rw [he]
        simp
      | false =>
        rw [hend] at he
        simp only [Bool.false_eq_true, if_false] at he
        rw [he]
        simp
    · obtain ⟨j, hj, hM⟩ := b3 he
      obtain ⟨_, j2, j3, j4⟩ := nextV_in _ _ _ _ _ _ _ _ hj
      have hdj := (hDin j (by omega)).1
      have hrj := hRq (n.leaves.toNat + j)
      have hpos : 0 < R.getD p 0 := by omega
      have hnm : ¬ R.getD p 0 = -1 := by omega
      rw [if_neg hnm, if_pos hpos, nextI_V, hj, hM]
      refine ⟨rfl, fun _ => ?_⟩
      rw [hM] at b1
      exact b1.2

/-- What is known of the best path and of the best beginning. -/
def RelT (n : Net) (D R ats : List Int) (B : Option (List Int)) (b k : Int) : Prop := match B with
  | none => k = -1
  | some q => 0 ≤ k ∧ ∃ p : Nat, b = p ∧ q = critW n D R (n.leaves.toNat + n.placed.length) p [(p : Int)] ∧ alongN n D ats q = k

theorem best_top (l : List Cell) (n : Net) (m : Model) (hv : Valid l n m) (ats : List Int) (ha : (ats.length : Int) = n.leaves) (hat : ∀ v ∈ ats, 0 ≤ v ∧ v ≤ 1000000) : ∀ (j p : Nat) (b k : Int) (B : Option (List Int)), j + p = n.leaves.toNat → RelT n (delaysN l n m) (restN l n m) ats B b k →
    RelT n (delaysN l n m) (restN l n m) ats (mrg (alongN n (delaysN l n m) ats) B (critLG (alongN n (delaysN l n m) ats) (allT n (n.leaves.toNat + n.placed.length) j p) none)) (critGo (restN l n m) p (ats.drop p) b k).1 (critGo (restN l n m) p (ats.drop p) b k).2
  | 0, p, b, k, B, hj, hrel => by
    have : ats.drop p = [] := List.drop_eq_nil_of_le (by omega)
    rw [this]
    simp only [allT, critGo, critLG]
    have e : mrg (alongN n (delaysN l n m) ats) B none = B := by cases B <;> rfl
    rw [e]
    exact hrel
  | j + 1, p, b, k, B, hj, hrel => by
    have hpl : p < ats.length := by omega
    have hap := hat ats[p] (List.getElem_mem hpl)
    obtain ⟨g1, g2⟩ := best_path l n m hv ats (n.leaves.toNat + n.placed.length) p [(p : Int)] (by simp) rfl (by omega) (by omega)
    have hRb : Bnd (restN l n m) (25400 * ((n.leaves.toNat + n.placed.length : Nat) : Int)) := restL_in n (delaysN l n m) hv.D_ge _
    have hRq := (hRb.getD (by omega) p).1
    have hw0 : alongN n (delaysN l n m) ats [(p : Int)] = ats[p] := by simp [alongN, sumD, hpl]
    rw [hw0] at g2
    have ih := best_top l n m hv ats ha hat j (p + 1)
    rw [List.drop_eq_getElem_cons hpl]
    simp only [allT, critGo]
    rw [critLG_join, ← mrg_assoc, g1]
    generalize hw : alongN n (delaysN l n m) ats = w at *
    by_cases hr : (restN l n m).getD p 0 = -1
    · have e : mrg w B none = B := by cases B <;> rfl
      rw [if_pos hr, e, if_neg (fun h => h.1 hr)]
      exact ih b k B (by omega) hrel
    · rw [if_neg hr]
      have g2 := g2 hr
      by_cases hc : k < ats[p] + (restN l n m).getD p 0
      · rw [if_pos ⟨hr, hc⟩]
        have e : mrg w B (some (critW n (delaysN l n m) (restN l n m) (n.leaves.toNat + n.placed.length) p [(p : Int)])) = some (critW n (delaysN l n m) (restN l n m) (n.leaves.toNat + n.placed.length) p [(p : Int)]) := by
          cases B with
          | none => rfl
          | some q =>
            obtain ⟨_, p', _, _, r4⟩ := hrel
            rw [hw] at r4
            simp only [mrg]
            rw [if_pos (by omega)]
        rw [e]
        exact ih _ _ _ (by omega) ⟨by omega, p, rfl, rfl, by rw [hw]; exact g2⟩
      · rw [if_neg (fun h => hc h.2)]
        have e : mrg w B (some (critW n (delaysN l n m) (restN l n m) (n.leaves.toNat + n.placed.length) p [(p : Int)])) = B := by
          cases B with
          | none => simp only [RelT] at hrel; omega
          | some q =>
            obtain ⟨_, p', _, _, r4⟩ := hrel
            rw [hw] at r4
            simp only [mrg]
            rw [if_neg (by omega)]
        rw [e]
        exact ih b k B (by omega) hrel

/-- **The critical path.** -/
theorem crit_best (l : List Cell) (n : Net) (m : Model) (hv : Valid l n m) (ats : List Int) (ha : (ats.length : Int) = n.leaves) (hat : ∀ v ∈ ats, 0 ≤ v ∧ v ≤ 1000000) (most : Nat) (hm : (pathsN n most).length ≤ most) :
    ((critB l n m ats).2 = -1 → critLG (alongN n (delaysN l n m) ats) (pathsN n most) none = none) ∧
    ((critB l n m ats).2 ≠ -1 → critLG (alongN n (delaysN l n m) ats) (pathsN n most) none = some (critP l n m ats) ∧ alongN n (delaysN l n m) ats (critP l n m ats) = (critB l n m ats).2) := by
  have hall : pathsN n most = allT n (n.leaves.toNat + n.placed.length) n.leaves.toNat 0 := by
    have := allP_all n most (n.leaves.toNat + n.placed.length) n.leaves.toNat 0 [] hm
    simpa [pathsN] using this
  have ht := best_top l n m hv ats ha hat n.leaves.toNat 0 0 (-1) none (by omega) rfl
  rw [mrg_none, List.drop_zero, ← hall] at ht
  unfold critP
  unfold critB at *
  generalize critGo (restN l n m) 0 ats 0 (-1) = bk at *
  generalize critLG (alongN n (delaysN l n m) ats) (pathsN n most) none = Z at *
  refine ⟨fun h => ?_, fun h => ?_⟩
  · cases Z with
    | none => rfl
    | some q => have := ht.1; omega
  · cases Z with
    | none => exact absurd ht h
    | some q =>
      obtain ⟨_, p, r2, r3, r4⟩ := ht
      rw [r2, Int.toNat_natCast]
      refine ⟨by rw [r3], ?_⟩
      rw [← r3]; exact r4

end Go.Proofs.Ytafomlbikcphgaa.V

/- No path is later than its last point. -/
namespace Go.Proofs.Ytafomlbikcphgaa.V
open Go (IntKind BinOp UnOp)
variable {π ρ κ : Id}

theorem lat_ge (cur : List Int) : ∀ (src : List Int) (a : Int), a ≤ lat cur src a
  | [], a => Int.le_refl _
  | s :: r, a => by
    simp only [lat]
    split
    · split
      · refine Int.le_trans ?_ (lat_ge cur r _); omega
      · exact lat_ge cur r a
    · exact lat_ge cur r a
theorem lat_mem (cur : List Int) : ∀ (src : List Int) (a s : Int), s ∈ src → 2 ≤ s → cur.getD (s - 2).toNat 0 ≤ lat cur src a
  | [], a, s, h, _ => by cases h
  | t :: r, a, s, h, h2 => by
    simp only [lat]
    rcases List.mem_cons.1 h with rfl | h
    · rw [if_pos h2]
      split
      · exact lat_ge cur r _
      · refine Int.le_trans ?_ (lat_ge cur r _); omega
    · split
      · exact lat_mem cur r _ s h h2
      · exact lat_mem cur r _ s h h2

theorem arr_fix (l : List Cell) (n : Net) (m : Model) (hv : Valid l n m) (ats : List Int) (ha : (ats.length : Int) = n.leaves) (j : Nat) (c : Placed) (hc : n.placed[j]? = some c) :
    (arrN l n m ats).getD (n.leaves.toNat + j) 0 = lat ((arrN l n m ats).take (n.leaves.toNat + j)) c.sources 0 + (delaysN l n m).getD j 0 := by
  have hg := arrGo_get (delaysN l n m) n.placed 0 j c ats hc
  rw [show ats.length = n.leaves.toNat by omega, Nat.zero_add] at hg
  rw [List.getD, arrN, hg]; rfl
theorem arr_leaf (l : List Cell) (n : Net) (m : Model) (ats : List Int) (p : Nat) (hp : p < ats.length) : (arrN l n m ats).getD p 0 = ats.getD p 0 := by
  obtain ⟨t, ht⟩ := arrGo_prefix (delaysN l n m) 0 n.placed ats
  rw [arrN, ht, List.getD, List.getElem?_append_left hp]; rfl

/-- A path that is not later than its last point. -/
structure PGood (l : List Cell) (n : Net) (m : Model) (ats path : List Int) : Prop where
  ne : path ≠ []
  h0 : 0 ≤ path.headD 0 ∧ path.headD 0 < n.leaves
  cs : ∀ p ∈ path.drop 1, n.leaves ≤ p ∧ p < n.leaves + n.placed.length
  l0 : 0 ≤ path.getLastD 0 ∧ path.getLastD 0 < n.leaves + n.placed.length
  le : alongN n (delaysN l n m) ats path ≤ (arrN l n m ats).getD (path.getLastD 0).toNat 0

theorem PGood.step {l : List Cell} {n : Net} {m : Model} (hv : Valid l n m) {ats path : List Int} (ha : (ats.length : Int) = n.leaves) (h : PGood l n m ats path) (j : Nat) (c : Placed) (hc : n.placed[j]? = some c) (hb : memB c.sources (path.getLastD 0 + 2) = true) : PGood l n m ats (path ++ [n.leaves + j]) := by
  have hlv0 := hv.lv0
  have hjl : j < n.placed.length := (List.getElem?_eq_some_iff.1 hc).1
  have hne := h.ne
  have h0 := h.h0
  have hcs := h.cs
  have hl0 := h.l0
  have hle := h.le
  have e : (path ++ [n.leaves + (j : Int)]).getLastD 0 = n.leaves + j := by simp
  refine ⟨by simp, ?_, ?_, ?_, ?_⟩
  · cases path with
    | nil => exact absurd rfl hne
    | cons a r => simpa using h0
  · intro p hp
    cases path with
    | nil => exact absurd rfl hne
    | cons a r =>
      simp only [List.cons_append, List.drop_succ_cons, List.drop_zero, List.mem_append, List.mem_singleton] at hp
      rcases hp with hp | rfl
      · exact hcs p (by simpa using hp)
      · omega
  · rw [e]; omega
  · rw [e, along_snoc n _ ats path hne, show (n.leaves + (j : Int)).toNat = n.leaves.toNat + j by omega, arr_fix l n m hv ats ha j c hc]
    have hs := hv.src j c hc _ (memB_iff.1 hb)
    have hm := lat_mem ((arrN l n m ats).take (n.leaves.toNat + j)) c.sources 0 (path.getLastD 0 + 2) (memB_iff.1 hb) (by omega)
    rw [show path.getLastD 0 + 2 - 2 = path.getLastD 0 by omega, List.getD, List.getElem?_take_of_lt (by omega)] at hm
    rw [List.getD] at hle
    omega

theorem allIn_mem (g : List Int → List (List Int)) (lv : Int) (path : List Int) (last : Int) (q : List Int) : ∀ (pl : List Placed) (i : Nat), q ∈ allIn g lv path last i pl → ∃ (j : Nat) (c : Placed), pl[j]? = some c ∧ memB c.sources (last + 2) = true ∧ q ∈ g (path ++ [lv + ((i + j : Nat) : Int)])
  | [], i, h => by simp [allIn] at h
  | c :: r, i, h => by
    simp only [allIn, List.mem_append] at h
    rcases h with h | h
    · split at h
      · rename_i hb
        exact ⟨0, c, rfl, hb, h⟩
      · cases h
    · obtain ⟨j, c', h1, h2, h3⟩ := allIn_mem g lv path last q r (i + 1) h
      exact ⟨j + 1, c', by simpa using h1, h2, by rw [show i + (j + 1) = i + 1 + j by omega]; exact h3⟩

theorem allF_good {l : List Cell} {n : Net} {m : Model} (hv : Valid l n m) {ats : List Int} (ha : (ats.length : Int) = n.leaves) : ∀ (f : Nat) (path : List Int), PGood l n m ats path → path.length + f ≤ 500 → ∀ q ∈ allF n f path, PGood l n m ats q ∧ q.length ≤ 500
  | 0, path, h, hl, q, hq => by simp [allF] at hq
  | f + 1, path, h, hl, q, hq => by
    simp only [allF, List.mem_append] at hq
    rcases hq with hq | hq
    · split at hq
      · rw [List.mem_singleton] at hq
        subst hq
        exact ⟨h, by omega⟩
      · cases hq
    · obtain ⟨j, c, h1, h2, h3⟩ := allIn_mem _ _ _ _ _ _ _ hq
      rw [Nat.zero_add] at h3
      exact allF_good hv ha f _ (h.step hv ha j c h1 h2) (by simp; omega) q h3

theorem allT_good {l : List Cell} {n : Net} {m : Model} (hv : Valid l n m) {ats : List Int} (ha : (ats.length : Int) = n.leaves) : ∀ (j p : Nat), j + p = n.leaves.toNat → ∀ q ∈ allT n (n.leaves.toNat + n.placed.length) j p, PGood l n m ats q ∧ q.length ≤ 500
  | 0, p, hj, q, hq => by simp [allT] at hq
  | j + 1, p, hj, q, hq => by
    have hlv0 := hv.lv0
    have hlv1 := hv.lv1
    have hnp := hv.np
    simp only [allT, List.mem_append] at hq
    rcases hq with hq | hq
    · have hpl : p < ats.length := by omega
      refine allF_good hv ha _ _ ⟨by simp, by simp; omega, by simp, by simp; omega, ?_⟩ (by simp; omega) q hq
      have hg : ([(p : Int)] : List Int).getLastD 0 = p := rfl
      rw [hg, Int.toNat_natCast, arr_leaf l n m ats p hpl]
      simp [alongN, sumD]
    · exact allT_good hv ha j (p + 1) (by omega) q hq

theorem paths_good {l : List Cell} {n : Net} {m : Model} (hv : Valid l n m) {ats : List Int} (ha : (ats.length : Int) = n.leaves) {most : Nat} (hm : (pathsN n most).length ≤ most) : ∀ q ∈ pathsN n most, PGood l n m ats q ∧ q.length ≤ 500 := by
  have hall : pathsN n most = allT n (n.leaves.toNat + n.placed.length) n.leaves.toNat 0 := by
    have := allP_all n most (n.leaves.toNat + n.placed.length) n.leaves.toNat 0 [] hm
    simpa [pathsN] using this
  rw [hall]
  exact allT_good hv ha n.leaves.toNat 0 (by omega)
theorem PGood.pathIn {l : List Cell} {n : Net} {m : Model} {ats q : List Int} (h : PGood l n m ats q) (hl : q.length ≤ 500) : PathIn n q := ⟨h.ne, h.h0, h.cs, by omega⟩

end Go.Proofs.Ytafomlbikcphgaa.V

/- Required times, when all outputs are due at once: this time minus what is still to come (plain). -/
namespace Go.Proofs.Ytafomlbikcphgaa.V
open Go (IntKind BinOp UnOp)
variable {π ρ κ : Id}

/-- The earlier one, the second is a time. -/
def earl (r v : Int) : Int := if r = never ∨ v < r then v else r
theorem earl_twice (r v : Int) : earl (earl r v) v = earl r v := by
  unfold earl
  by_cases h : r = never ∨ v < r
  · rw [if_pos h]; simp
  · rw [if_neg h, if_neg h]

theorem getD_set (R : List Int) (i j : Nat) (v : Int) (hi : i < R.length) : (R.set i v).getD j 0 = if i = j then v else R.getD j 0 := by
  simp only [List.getD, List.getElem?_set]
  by_cases h : i = j
  · simp [h, h ▸ hi]
  · simp [h]

theorem reqStep_get (R : List Int) (s v : Int) (p : Nat) (hs : s < R.length + 2) : (reqStep R s v).getD p 0 = if s = (p : Int) + 2 then earl (R.getD p 0) v else R.getD p 0 := by
  unfold reqStep
  by_cases h2 : 2 ≤ s
  · rw [if_pos h2]
    by_cases he : s = (p : Int) + 2
    · have e : (s - 2).toNat = p := by omega
      rw [if_pos he, e]
      unfold earl
      split
      · rw [getD_set _ _ _ _ (by omega), if_pos rfl]
      · rfl
    · have e : (s - 2).toNat ≠ p := by omega
      rw [if_neg he]
      split
      · rw [getD_set _ _ _ _ (by omega), if_neg e]
      · rfl
  · rw [if_neg h2, if_neg (by omega)]

theorem reqSrcs_get (v : Int) (p : Nat) : ∀ (o R : List Int), (∀ s ∈ o, s < R.length + 2) → (reqSrcs v o R).getD p 0 = if memB o ((p : Int) + 2) = true then earl (R.getD p 0) v else R.getD p 0
  | [], R, h => by simp [reqSrcs, memB]
  | s :: r, R, h => by
    rw [reqSrcs, reqSrcs_get v p r _ (fun t ht => by rw [reqStep_len]; exact h t (List.mem_cons_of_mem _ ht)), reqStep_get R s v p (h s (List.mem_cons_self ..))]
    simp only [memB_iff, List.mem_cons]
    by_cases hs : s = (p : Int) + 2
    · rw [if_pos hs, if_pos (show (p : Int) + 2 = s ∨ (p : Int) + 2 ∈ r from .inl hs.symm)]
      split
      · exact earl_twice _ _
      · rfl
    · rw [if_neg hs]
      by_cases hr : (p : Int) + 2 ∈ r
      · rw [if_pos hr, if_pos (.inr hr)]
      · rw [if_neg hr, if_neg (fun h => h.elim (fun e => hs e.symm) hr)]

theorem reqOuts_same (T : Int) : ∀ (o R : List Int), reqOuts R o (List.replicate o.length T) = reqSrcs T o R
  | [], R => by simp [reqOuts, reqSrcs]
  | s :: r, R => by
    simp only [List.length_cons, List.replicate_succ, reqOuts, reqSrcs]
    exact reqOuts_same T r _

/-- What is still to come, as a required time. -/
def toReq (T r : Int) : Int := if r = -1 then never else T - r
theorem earl_req {T r t : Int} (h0 : -1 ≤ r) (h1 : r ≤ 10000000) (t0 : 0 ≤ t) (t1 : t ≤ 10000000) (hT : 0 ≤ T ∧ T ≤ 1000000) : earl (toReq T r) (T - t) = toReq T (max r t) := by
  unfold earl toReq never
  by_cases hr : r = -1
  · subst hr
    rw [if_pos rfl, if_pos (.inl rfl), if_neg (by omega), show max (-1) t = t by omega]
  · rw [if_neg hr, if_neg (show ¬ max r t = -1 by omega)]
    split <;> omega

/-- What is still to come, by the cells from one on. -/
def restF (n : Net) (D R : List Int) (p k : Nat) : Int := restGo n.leaves.toNat D R p k (n.placed.drop k) (if endB n p then 0 else -1)

theorem restGo_max (lv : Nat) (D R : List Int) (p : Nat) (t : Int) : ∀ (pl : List Placed) (i : Nat) (acc : Int), restGo lv D R p i pl (max acc t) = max (restGo lv D R p i pl acc) t
  | [], i, acc => rfl
  | c :: r, i, acc => by
    simp only [restGo]
    split
    · rw [← restGo_max lv D R p t r (i + 1), show max (max acc t) (D.getD i 0 + R.getD (lv + i) 0) = max (max acc (D.getD i 0 + R.getD (lv + i) 0)) t by omega]
    · exact restGo_max lv D R p t r (i + 1) acc

theorem restF_step (n : Net) (D R : List Int) (p k : Nat) (c : Placed) (hc : n.placed[k]? = some c) : restF n D R p k =
    if p < n.leaves.toNat + k ∧ memB c.sources ((p : Int) + 2) = true ∧ R.getD (n.leaves.toNat + k) 0 ≠ -1 then max (restF n D R p (k + 1)) (D.getD k 0 + R.getD (n.leaves.toNat + k) 0) else restF n D R p (k + 1) := by
  obtain ⟨hk, rfl⟩ := List.getElem?_eq_some_iff.1 hc
  unfold restF
  rw [List.drop_eq_getElem_cons hk]
  simp only [restGo]
  split
  · rw [restGo_max]
  · rfl

theorem restF_late (n : Net) (D R : List Int) (p : Nat) : ∀ (j k : Nat), k + j ≤ n.placed.length → n.leaves.toNat + (k + j) ≤ p + 1 → restF n D R p k = restF n D R p (k + j)
  | 0, k, _, _ => rfl
  | j + 1, k, hk, hp => by
    have hkl : k < n.placed.length := by omega
    rw [restF_step n D R p k _ (List.getElem?_eq_getElem hkl), if_neg (fun h => by have := h.1; omega), restF_late n D R p j (k + 1) (by omega) (by omega), show k + 1 + j = k + (j + 1) by omega]

theorem restF_ge (n : Net) (D R : List Int) (p k : Nat) : -1 ≤ restF n D R p k := by
  unfold restF
  refine Int.le_trans ?_ (restGo_ge _ _ _ _ _ _ _)
  split <;> omega

theorem restF_le (n : Net) (D R : List Int) (p : Nat) : ∀ (j k : Nat), restF n D R p (k + j) ≤ restF n D R p k
  | 0, k => Int.le_refl _
  | j + 1, k => by
    have h1 : restF n D R p (k + 1) ≤ restF n D R p k := by
      by_cases hk : k < n.placed.length
      · rw [restF_step n D R p k _ (List.getElem?_eq_getElem hk)]
        split <;> omega
      · unfold restF
        rw [List.drop_eq_nil_of_le (by omega), List.drop_eq_nil_of_le (by omega)]
        exact Int.le_refl _
    have := restF_le n D R p j (k + 1)
    rw [show k + (j + 1) = k + 1 + j by omega]
    omega

theorem restF_mem (n : Net) (D R : List Int) (p k : Nat) (c : Placed) (hc : n.placed[k]? = some c) (h1 : p < n.leaves.toNat + k) (h2 : memB c.sources ((p : Int) + 2) = true) (h3 : R.getD (n.leaves.toNat + k) 0 ≠ -1) : D.getD k 0 + R.getD (n.leaves.toNat + k) 0 ≤ restF n D R p 0 := by
  have := restF_le n D R p k 0
  rw [Nat.zero_add, restF_step n D R p k c hc, if_pos ⟨h1, h2, h3⟩] at this
  omega

/-- The times of all points, cells from one on are done. -/
theorem down_get (l : List Cell) (n : Net) (m : Model) (hv : Valid l n m) (T : Int) (hT : 0 ≤ T ∧ T ≤ 1000000) : ∀ (k : Nat) (R : List Int), k ≤ n.placed.length → R.length = n.leaves.toNat + n.placed.length →
    (∀ p, p < n.leaves.toNat + n.placed.length → R.getD p 0 = toReq T (restF n (delaysN l n m) (restN l n m) p k)) →
    ∀ p, p < n.leaves.toNat + n.placed.length → (reqDown n.leaves.toNat (delaysN l n m) n.placed k R).getD p 0 = toReq T (restF n (delaysN l n m) (restN l n m) p 0)
  | 0, R, hk, hR, h, p, hp => h p hp
  | k + 1, R, hk, hR, h, p, hp => by
    have hkl : k < n.placed.length := by omega
    have hlv0 := hv.lv0
    have hlv1 := hv.lv1
    have hnp := hv.np
    have hck : n.placed[k]? = some n.placed[k] := List.getElem?_eq_getElem hkl
    have hsrc := hv.src k _ hck
    have hfix := rest_fix n (delaysN l n m) (n.leaves.toNat + k) (by omega)
    have hD := hv.D_ge k
    have hRb : Bnd (restN l n m) (25400 * ((n.leaves.toNat + n.placed.length : Nat) : Int)) := restL_in n (delaysN l n m) hv.D_ge _
    have hRq := hRb.getD (by omega) (n.leaves.toNat + k)
    have hfp := fun q (hq : q < n.leaves.toNat + n.placed.length) => hRb.getD (by omega) q
    have hfr : ∀ q, q < n.leaves.toNat + n.placed.length → (restN l n m).getD q 0 = restF n (delaysN l n m) (restN l n m) q 0 := fun q hq => by
      have := rest_fix n (delaysN l n m) q hq
      exact this
    rw [reqDown, hck]
    refine down_get l n m hv T hT k _ (by omega) (by rw [reqCell_len]; exact hR) (fun q hq => ?_) p hp
    have hown : R.getD (n.leaves.toNat + k) 0 = toReq T ((restN l n m).getD (n.leaves.toNat + k) 0) := by
      rw [h _ (by omega), hfr _ (by omega), ← Nat.zero_add (k + 1), ← restF_late n _ _ (n.leaves.toNat + k) (k + 1) 0 (by omega) (by omega)]
    simp only
    unfold reqCell
    rw [hown, restF_step n _ _ q k _ hck]
    by_cases hr : (restN l n m).getD (n.leaves.toNat + k) 0 = -1
    · rw [hr]
      rw [if_pos (show toReq T (-1) = never from rfl), if_neg (fun hh => hh.2.2 rfl)]
      exact h q hq
    · have hne : ¬ toReq T ((restN l n m).getD (n.leaves.toNat + k) 0) = never := by unfold toReq never; rw [if_neg hr]; omega
      have hv1 : toReq T ((restN l n m).getD (n.leaves.toNat + k) 0) - (delaysN l n m).getD k 0 = T - ((delaysN l n m).getD k 0 + (restN l n m).getD (n.leaves.toNat + k) 0) := by unfold toReq; rw [if_neg hr]; omega
      rw [if_neg hne, hv1, reqSrcs_get _ q _ _ (fun s hs => by have := hsrc s hs; omega), h q hq]
      by_cases hm : memB n.placed[k].sources ((q : Int) + 2) = true
      · have hq2 := hsrc _ (memB_iff.1 hm)
        rw [if_pos hm, if_pos ⟨by omega, hm, hr⟩]
        have h1 := restF_le n (delaysN l n m) (restN l n m) q (k + 1) 0
        rw [Nat.zero_add, ← hfr q hq] at h1
        have h2 := hfp q hq
        exact earl_req (restF_ge ..) (by omega) (by omega) (by omega) hT
      · rw [if_neg hm, if_neg (fun hh => hm hh.2.1)]

/-- **Required times, all outputs due at once.** -/
theorem req_get (l : List Cell) (n : Net) (m : Model) (hv : Valid l n m) (T : Int) (hT : 0 ≤ T ∧ T ≤ 1000000) (p : Nat) (hp : p < n.leaves.toNat + n.placed.length) :
    (reqN l n m (List.replicate n.outs.length T)).getD p 0 = toReq T ((restN l n m).getD p 0) := by
  have hlv0 := hv.lv0
  have hlv1 := hv.lv1
  have hnp := hv.np
  have hfix : (restN l n m).getD p 0 = restF n (delaysN l n m) (restN l n m) p 0 := rest_fix n (delaysN l n m) p hp
  rw [reqN, reqOuts_same, hfix]
  refine down_get l n m hv T hT _ _ (Nat.le_refl _) (by rw [reqSrcs_len, List.length_replicate]) (fun q hq => ?_) p hp
  rw [reqSrcs_get _ _ _ _ (fun s hs => by have := hv.out s hs; rw [List.length_replicate]; omega)]
  have e0 : (List.replicate (n.leaves.toNat + n.placed.length) never).getD q 0 = never := by simp [List.getD, hq]
  rw [e0]
  have e1 : restF n (delaysN l n m) (restN l n m) q n.placed.length = if endB n q then 0 else -1 := by
    unfold restF; rw [List.drop_length]; rfl
  rw [e1]
  unfold endB
  by_cases hm : memB n.outs ((q : Int) + 2) = true
  · rw [if_pos hm, if_pos hm]
    unfold earl toReq
    rw [if_pos (.inl rfl), if_neg (by omega)]; omega
  · rw [if_neg hm, if_neg hm]
    rfl

end Go.Proofs.Ytafomlbikcphgaa.V

/- The least slack is on the critical path (plain). -/
namespace Go.Proofs.Ytafomlbikcphgaa.V
open Go (IntKind BinOp UnOp)
variable {π ρ κ : Id}

theorem lat_or (cur : List Int) : ∀ (src : List Int) (a : Int), lat cur src a = a ∨ ∃ s, s ∈ src ∧ 2 ≤ s ∧ lat cur src a = cur.getD (s - 2).toNat 0
  | [], a => .inl rfl
  | t :: r, a => by
    simp only [lat]
    by_cases h2 : 2 ≤ t
    · rw [if_pos h2]
      by_cases hlt : a < cur.getD (t - 2).toNat 0
      · rw [if_pos hlt]
        rcases lat_or cur r (cur.getD (t - 2).toNat 0) with h | ⟨s, h1, h3, h4⟩
        · exact .inr ⟨t, List.mem_cons_self .., h2, h⟩
        · exact .inr ⟨s, List.mem_cons_of_mem _ h1, h3, h4⟩
      · rw [if_neg hlt]
        rcases lat_or cur r a with h | ⟨s, h1, h3, h4⟩
        · exact .inl h
        · exact .inr ⟨s, List.mem_cons_of_mem _ h1, h3, h4⟩
    · rw [if_neg h2]
      rcases lat_or cur r a with h | ⟨s, h1, h3, h4⟩
      · exact .inl h
      · exact .inr ⟨s, List.mem_cons_of_mem _ h1, h3, h4⟩

/-- Each cell has a point as a source. -/
def Reached (n : Net) : Prop := ∀ (i : Nat) (c : Placed), n.placed[i]? = some c → ∃ s ∈ c.sources, 2 ≤ s

theorem critGo_max (R : List Int) : ∀ (l : List Int) (p : Nat) (b k : Int), k ≤ (critGo R p l b k).2 ∧ ∀ j, j < l.length → R.getD (p + j) 0 ≠ -1 → l.getD j 0 + R.getD (p + j) 0 ≤ (critGo R p l b k).2
  | [], p, b, k => ⟨Int.le_refl _, fun j hj => by cases hj⟩
  | t :: r, p, b, k => by
    simp only [critGo]
    split
    · rename_i h
      obtain ⟨h1, h2⟩ := critGo_max R r (p + 1) p (t + R.getD p 0)
      refine ⟨by omega, fun j hj hr => ?_⟩
      cases j with
      | zero => simpa using h1
      | succ j =>
        have := h2 j (by simpa using hj) (by rw [show p + 1 + j = p + (j + 1) by omega]; exact hr)
        rw [show p + 1 + j = p + (j + 1) by omega] at this
        simpa using this
    · rename_i h
      obtain ⟨h1, h2⟩ := critGo_max R r (p + 1) b k
      refine ⟨h1, fun j hj hr => ?_⟩
      cases j with
      | zero =>
        have : ¬ k < t + R.getD p 0 := fun hh => h ⟨by simpa using hr, hh⟩
        show t + R.getD (p + 0) 0 ≤ _
        rw [Nat.add_zero]
        omega
      | succ j =>
        have := h2 j (by simpa using hj) (by rw [show p + 1 + j = p + (j + 1) by omega]; exact hr)
        rw [show p + 1 + j = p + (j + 1) by omega] at this
        simpa using this

theorem critGo_at (R : List Int) : ∀ (l : List Int) (p : Nat) (b k : Int), (critGo R p l b k = (b, k)) ∨ ∃ j, j < l.length ∧ R.getD (p + j) 0 ≠ -1 ∧ (critGo R p l b k).1 = ((p + j : Nat) : Int) ∧ (critGo R p l b k).2 = l.getD j 0 + R.getD (p + j) 0
  | [], p, b, k => .inl rfl
  | t :: r, p, b, k => by
    simp only [critGo]
    split
    · rename_i h
      rcases critGo_at R r (p + 1) p (t + R.getD p 0) with h1 | ⟨j, h1, h2, h3, h4⟩
      · rw [h1]
        exact .inr ⟨0, by simp, by simpa using h.1, by simp, by simp⟩
      · rw [show p + 1 + j = p + (j + 1) by omega] at h2 h3 h4
        exact .inr ⟨j + 1, by simpa using h1, h2, h3, by simpa using h4⟩
    · rcases critGo_at R r (p + 1) b k with h1 | ⟨j, h1, h2, h3, h4⟩
      · exact .inl h1
      · rw [show p + 1 + j = p + (j + 1) by omega] at h2 h3 h4
        exact .inr ⟨j + 1, by simpa using h1, h2, h3, by simpa using h4⟩

/-- No point is later than the critical path. -/
theorem crit_max (l : List Cell) (n : Net) (m : Model) (hv : Valid l n m) (ats : List Int) (ha : (ats.length : Int) = n.leaves) (hat : ∀ v ∈ ats, 0 ≤ v ∧ v ≤ 1000000) (hre : Reached n) :
    ∀ (p : Nat), p < n.leaves.toNat + n.placed.length → (restN l n m).getD p 0 ≠ -1 → (arrN l n m ats).getD p 0 + (restN l n m).getD p 0 ≤ (critB l n m ats).2 := by
  intro p
  induction p using Nat.strongRecOn with
  | ind p ih =>
    intro hp hr
    have hlv0 := hv.lv0
    by_cases hpl : p < ats.length
    · rw [arr_leaf l n m ats p hpl]
      have := (critGo_max (restN l n m) ats 0 0 (-1)).2 p hpl (by rw [Nat.zero_add]; exact hr)
      rw [Nat.zero_add] at this
      exact this
    · obtain ⟨j, rfl⟩ : ∃ j, p = n.leaves.toNat + j := ⟨p - n.leaves.toNat, by omega⟩
      have hj : j < n.placed.length := by omega
      have hc : n.placed[j]? = some n.placed[j] := List.getElem?_eq_getElem hj
      have hsrc := hv.src j _ hc
      obtain ⟨s0, hs0, hs02⟩ := hre j _ hc
      have hD := hv.D_ge j
      rw [arr_fix l n m hv ats ha j _ hc]
      have hA0 : ∀ q : Nat, 0 ≤ (arrN l n m ats).getD q 0 := fun q => by
        rw [List.getD]
        cases hx : (arrN l n m ats)[q]? with
        | none => simp
        | some x => exact (arrN_in hv hat x (List.mem_of_getElem? hx)).1
      have htk : ∀ q : Nat, q < n.leaves.toNat + j → ((arrN l n m ats).take (n.leaves.toNat + j)).getD q 0 = (arrN l n m ats).getD q 0 := fun q hq => by
        rw [List.getD, List.getD, List.getElem?_take_of_lt hq]
      have hat' : ∃ s, s ∈ n.placed[j].sources ∧ 2 ≤ s ∧ lat ((arrN l n m ats).take (n.leaves.toNat + j)) n.placed[j].sources 0 = (arrN l n m ats).getD (s - 2).toNat 0 := by
        rcases lat_or ((arrN l n m ats).take (n.leaves.toNat + j)) n.placed[j].sources 0 with h | ⟨s, h1, h2, h3⟩
        · have hm := lat_mem ((arrN l n m ats).take (n.leaves.toNat + j)) n.placed[j].sources 0 s0 hs0 hs02
          have hs := hsrc s0 hs0
          rw [htk _ (by omega)] at hm
          have h0 := hA0 (s0 - 2).toNat
          exact ⟨s0, hs0, hs02, by omega⟩
        · have hs := hsrc s h1
          rw [htk _ (by omega)] at h3
          exact ⟨s, h1, h2, h3⟩
      obtain ⟨s, hs, hs2, hle⟩ := hat'
      have hsb := hsrc s hs
      have hq : (s - 2).toNat < n.leaves.toNat + j := by omega
      have hrm := restF_mem n (delaysN l n m) (restN l n m) (s - 2).toNat j _ hc hq (memB_iff.2 (by rw [show (((s - 2).toNat : Nat) : Int) + 2 = s by omega]; exact hs)) hr
      have hfix : (restN l n m).getD (s - 2).toNat 0 = restF n (delaysN l n m) (restN l n m) (s - 2).toNat 0 := rest_fix n (delaysN l n m) _ (by omega)
      rw [← hfix] at hrm
      have hRb : Bnd (restN l n m) (25400 * ((n.leaves.toNat + n.placed.length : Nat) : Int)) := restL_in n (delaysN l n m) hv.D_ge _
      have hRq := (hRb.getD (by omega) (n.leaves.toNat + j)).1
      have := ih (s - 2).toNat hq (by omega) (by omega)
      omega

theorem nextV_mem (lv : Nat) (D R : List Int) (p : Nat) (v : Int) : ∀ (pl : List Placed) (i j : Nat), nextV lv D R p v i pl = some j → ∃ c, pl[j - i]? = some c ∧ i ≤ j ∧ memB c.sources ((p : Int) + 2) = true
  | [], i, j, h => by simp [nextV] at h
  | c :: r, i, j, h => by
    simp only [nextV] at h
    split at h
    · rename_i hc
      simp at h
      subst h
      exact ⟨c, by simp, Nat.le_refl _, hc.2.1⟩
    · obtain ⟨c', h1, h2, h3⟩ := nextV_mem lv D R p v r (i + 1) j h
      exact ⟨c', by rw [show j - i = (j - (i + 1)) + 1 by omega, List.getElem?_cons_succ]; exact h1, by omega, h3⟩

/-- A point that is as late as can be. -/
def Late (l : List Cell) (n : Net) (m : Model) (ats : List Int) (k : Int) (q : Int) : Prop :=
  0 ≤ q ∧ q < n.leaves + n.placed.length ∧ (restN l n m).getD q.toNat 0 ≠ -1 ∧ k ≤ (arrN l n m ats).getD q.toNat 0 + (restN l n m).getD q.toNat 0

theorem critW_late (l : List Cell) (n : Net) (m : Model) (hv : Valid l n m) (ats : List Int) (ha : (ats.length : Int) = n.leaves) (k : Int) : ∀ (f p : Nat) (path : List Int), Late l n m ats k p → (∀ q ∈ path, Late l n m ats k q) → ∀ q ∈ critW n (delaysN l n m) (restN l n m) f p path, Late l n m ats k q
  | 0, p, path, hp, h => h
  | f + 1, p, path, hp, h => by
    have hlv0 := hv.lv0
    simp only [critW]
    split
    · split
      · rename_i i hi
        rw [nextI_V] at hi
        obtain ⟨c, hc, _, hb⟩ := nextV_mem _ _ _ _ _ _ _ _ hi
        obtain ⟨_, hil, hr, he⟩ := nextV_in _ _ _ _ _ _ _ _ hi
        rw [Nat.sub_zero] at hc
        have hsrc := hv.src i c hc _ (memB_iff.1 hb)
        have hm := lat_mem ((arrN l n m ats).take (n.leaves.toNat + i)) c.sources 0 ((p : Int) + 2) (memB_iff.1 hb) (by omega)
        rw [show ((p : Int) + 2 - 2).toNat = p by omega, List.getD, List.getElem?_take_of_lt (by omega), ← List.getD] at hm
        have hfix := arr_fix l n m hv ats ha i c hc
        obtain ⟨_, _, _, hk⟩ := hp
        rw [Int.toNat_natCast] at hk
        have hl : Late l n m ats k ((n.leaves.toNat + i : Nat) : Int) := ⟨by omega, by omega, by rw [Int.toNat_natCast]; exact hr, by rw [Int.toNat_natCast]; omega⟩
        refine critW_late l n m hv ats ha k f _ _ hl (fun q hq => ?_)
        rw [List.mem_append, List.mem_singleton] at hq
        rcases hq with hq | rfl
        · exact h q hq
        · rw [show n.leaves + (i : Int) = ((n.leaves.toNat + i : Nat) : Int) by omega]; exact hl
      · exact h
    · exact h

/-- Each point of the critical path is as late as can be. -/
theorem crit_late (l : List Cell) (n : Net) (m : Model) (hv : Valid l n m) (ats : List Int) (ha : (ats.length : Int) = n.leaves) (hk : (critB l n m ats).2 ≠ -1) : critP l n m ats ≠ [] ∧ ∀ q ∈ critP l n m ats, Late l n m ats (critB l n m ats).2 q := by
  have hlv0 := hv.lv0
  rcases critGo_at (restN l n m) ats 0 0 (-1) with h | ⟨j, h1, h2, h3, h4⟩
  · exact absurd (by unfold critB; rw [h]) hk
  · rw [Nat.zero_add] at h2 h3 h4
    have hb : (critB l n m ats).1 = (j : Int) := h3
    have hk2 : (critB l n m ats).2 = ats.getD j 0 + (restN l n m).getD j 0 := h4
    have hl : Late l n m ats (critB l n m ats).2 (j : Int) := by
      refine ⟨by omega, by omega, by rw [Int.toNat_natCast]; exact h2, ?_⟩
      rw [Int.toNat_natCast, arr_leaf l n m ats j h1, hk2]
      exact Int.le_refl _
    unfold critP
    rw [hb, Int.toNat_natCast]
    have hne : ∀ (f p : Nat) (path : List Int), path ≠ [] → critW n (delaysN l n m) (restN l n m) f p path ≠ [] := fun f => by
      induction f with
      | zero => intro p path h; exact h
      | succ f ih =>
        intro p path h
        simp only [critW]
        split
        · split
          · exact ih _ _ (by simp)
          · exact h
        · exact h
    refine ⟨hne _ _ _ (by simp), critW_late l n m hv ats ha _ _ _ _ hl (fun q hq => ?_)⟩
    rw [List.mem_singleton] at hq
    rw [hq]; exact hl

end Go.Proofs.Ytafomlbikcphgaa.V

/- All paths are paths: the reference's error of each is none (plain). -/
namespace Go.Proofs.Ytafomlbikcphgaa.V
open Go (IntKind BinOp UnOp)
variable {π ρ κ : Id}

theorem eachE_all {α : Type} (f : Nat → α → Int) : ∀ (l : List α) (i : Nat), (∀ (k : Nat) x, l[k]? = some x → f (i + k) x = 0) → (eachE f i l).2 = 0
  | [], i, h => rfl
  | x :: r, i, h => by
    simp only [eachE]
    have h0 := h 0 x rfl
    rw [Nat.add_zero] at h0
    rw [if_pos h0]
    exact eachE_all f r (i + 1) (fun k y hk => by have := h (k + 1) y (by simpa using hk); rw [show i + 1 + k = i + (k + 1) by omega]; exact this)

structure Chn (n : Net) (path : List Int) : Prop where
  ne : path ≠ []
  st : ∀ (i : Nat) p, path[i]? = some p → stepErr n path i p = 0
  l0 : 0 ≤ path.getLastD 0 ∧ path.getLastD 0 < n.leaves + n.placed.length

theorem Chn.step {l : List Cell} {n : Net} {m : Model} (hv : Valid l n m) {path : List Int} (h : Chn n path) (j : Nat) (c : Placed) (hc : n.placed[j]? = some c) (hb : memB c.sources (path.getLastD 0 + 2) = true) : Chn n (path ++ [n.leaves + j]) := by
  have hlv0 := hv.lv0
  have hlv1 := hv.lv1
  have hnp := hv.np
  obtain ⟨hjl, rfl⟩ := List.getElem?_eq_some_iff.1 hc
  obtain ⟨hne, hst, hl0⟩ := h
  have hp0 : 0 < path.length := List.length_pos_iff.2 hne
  refine ⟨by simp, fun i p hi => ?_, by simp; omega⟩
  have hgd : ∀ k, k < path.length → (path ++ [n.leaves + (j : Int)]).getD k 0 = path.getD k 0 := fun k hk => by
    rw [List.getD, List.getD, List.getElem?_append_left hk]
  by_cases hil : i < path.length
  · rw [List.getElem?_append_left hil] at hi
    have := hst i p hi
    unfold stepErr at this ⊢
    by_cases h0 : i = 0
    · rw [if_pos h0] at this ⊢
      exact this
    · rw [if_neg h0] at this ⊢
      rw [hgd _ (by omega)]
      exact this
  · have hie : i = path.length := by
      have := (List.getElem?_eq_some_iff.1 hi).1
      simp at this
      omega
    subst hie
    rw [List.getElem?_append_right (Nat.le_refl _), Nat.sub_self] at hi
    simp at hi
    subst hi
    unfold stepErr
    have hlast : path.getD (path.length - 1) 0 = path.getLastD 0 := by
      rw [List.getLastD_eq_getLast?, List.getLast?_eq_getElem?, List.getD]
    have hw : IntKind.i64.wrap (path.getLastD 0 + 2) = path.getLastD 0 + 2 := w64 ⟨by omega, by omega⟩
    have hg : n.placed.getD (n.leaves + (j : Int) - n.leaves).toNat ⟨0, []⟩ = n.placed[j] := by
      rw [show (n.leaves + (j : Int) - n.leaves).toNat = j by omega, List.getD, hc]; rfl
    rw [if_neg (by omega), if_pos (within_iff.2 ⟨by omega, by omega⟩), hg, hgd _ (by omega), hlast, hw, hb]
    rfl

theorem Chn.pathE {l : List Cell} {n : Net} {m : Model} (hv : Valid l n m) {path : List Int} (h : Chn n path) (he : endB n (path.getLastD 0) = true) : pathE n path = 0 := by
  have hlv0 := hv.lv0
  have hlv1 := hv.lv1
  have hnp := hv.np
  obtain ⟨hne, hst, hl0⟩ := h
  unfold V.pathE
  have hz : (eachE (stepErr n path) 0 path).2 = 0 := eachE_all _ _ _ (fun k x hx => by rw [Nat.zero_add]; exact hst k x hx)
  have hw : IntKind.i64.wrap (path.getLastD 0 + 2) = path.getLastD 0 + 2 := w64 ⟨by omega, by omega⟩
  rw [if_neg hne, hz, if_neg (by simp), hw]
  unfold endB at he
  rw [he]; rfl

theorem allF_chain {l : List Cell} {n : Net} {m : Model} (hv : Valid l n m) : ∀ (f : Nat) (path : List Int), Chn n path → ∀ q ∈ allF n f path, V.pathE n q = 0
  | 0, path, h, q, hq => by simp [allF] at hq
  | f + 1, path, h, q, hq => by
    simp only [allF, List.mem_append] at hq
    rcases hq with hq | hq
    · split at hq
      · rename_i he
        rw [List.mem_singleton] at hq
        subst hq
        exact h.pathE hv he
      · cases hq
    · obtain ⟨j, c, h1, h2, h3⟩ := allIn_mem _ _ _ _ _ _ _ hq
      rw [Nat.zero_add] at h3
      exact allF_chain hv f _ (h.step hv j c h1 h2) q h3

theorem allT_chain {l : List Cell} {n : Net} {m : Model} (hv : Valid l n m) : ∀ (j p : Nat), j + p = n.leaves.toNat → ∀ q ∈ allT n (n.leaves.toNat + n.placed.length) j p, V.pathE n q = 0
  | 0, p, hj, q, hq => by simp [allT] at hq
  | j + 1, p, hj, q, hq => by
    have hlv0 := hv.lv0
    have hlv1 := hv.lv1
    simp only [allT, List.mem_append] at hq
    rcases hq with hq | hq
    · refine allF_chain hv _ _ ⟨by simp, fun i x hi => ?_, by simp; omega⟩ q hq
      cases i with
      | zero =>
        simp at hi
        subst hi
        unfold stepErr
        rw [if_pos rfl, unlE_z (by decide), within_iff]
        omega
      | succ i => simp at hi
    · exact allT_chain hv j (p + 1) (by omega) q hq

theorem paths_chain {l : List Cell} {n : Net} {m : Model} (hv : Valid l n m) {most : Nat} (hm : (pathsN n most).length ≤ most) : ∀ q ∈ pathsN n most, V.pathE n q = 0 := by
  have hall : pathsN n most = allT n (n.leaves.toNat + n.placed.length) n.leaves.toNat 0 := by
    have := allP_all n most (n.leaves.toNat + n.placed.length) n.leaves.toNat 0 [] hm
    simpa [pathsN] using this
  rw [hall]
  exact allT_chain hv n.leaves.toNat 0 (by omega)

/-- A cell on a path has a point as a source. -/
theorem chain_src {l : List Cell} {n : Net} {m : Model} (hv : Valid l n m) {q : List Int} (hl : q.length ≤ 1000) (hq : V.pathE n q = 0) (i : Nat) (c : Placed) (hc : n.placed[i]? = some c) (hm : n.leaves + (i : Int) ∈ q) : ∃ s ∈ c.sources, 2 ≤ s := by
  have hlv0 := hv.lv0
  have hlv1 := hv.lv1
  have hnp := hv.np
  have hin := pathIn_of hl hq
  obtain ⟨hil, rfl⟩ := List.getElem?_eq_some_iff.1 hc
  unfold V.pathE at hq
  rw [if_neg hin.ne] at hq
  split at hq
  · rename_i hz; exact absurd hq hz
  · rename_i hz
    simp only [ne_eq, Decidable.not_not] at hz
    have hok := eachE_ok (stepErr n q) 0 q hz
    obtain ⟨k, hk, hkk⟩ := List.getElem_of_mem hm
    have hs := hok k _ (List.getElem?_eq_getElem hk)
    rw [hkk, Nat.zero_add] at hs
    have hh0 := hin.h0
    have hcs := hin.cs
    cases k with
    | zero =>
      exfalso
      cases q with
      | nil => cases hk
      | cons a r =>
        simp at hkk hh0
        omega
    | succ k =>
      unfold stepErr at hs
      rw [if_neg (by omega), if_pos (within_iff.2 ⟨by omega, by omega⟩), unlE_z (by decide), show (n.leaves + (i : Int) - n.leaves).toNat = i by omega] at hs
      have hkl : k < q.length := by omega
      have hg : n.placed.getD i ⟨0, []⟩ = n.placed[i] := by simp [List.getD, hil]
      rw [hg, show k + 1 - 1 = k by omega] at hs
      have hqk : q.getD k 0 = q[k] := by simp [List.getD, hkl]
      have hb : 0 ≤ q[k] ∧ q[k] < n.leaves + n.placed.length := by
        cases q with
        | nil => cases hkl
        | cons a r =>
          cases k with
          | zero => simp at hh0 ⊢; omega
          | succ k =>
            have hkr : k < r.length := by simpa using hkl
            have := hcs r[k] (by simp)
            simp only [List.getElem_cons_succ]
            omega
      have hw : IntKind.i64.wrap (q.getD k 0 + 2) = q.getD k 0 + 2 := by rw [hqk]; exact w64 ⟨by omega, by omega⟩
      rw [hw, memB_iff] at hs
      exact ⟨_, hs, by rw [hqk]; omega⟩

end Go.Proofs.Ytafomlbikcphgaa.V

/- The reference's errors of paths, delays, and the critical path. -/
namespace Go.Proofs.Ytafomlbikcphgaa.V
open Go (IntKind BinOp UnOp)
variable {π ρ κ : Id}

theorem perr_loop (l : List Cell) (n : Net) (m : Model) (hv : Valid l n m) (path : List Int) (hpl : path.length ≤ 1000) : ∀ (suf pre : List Int) (x : Env × Sto), path = pre ++ suf →
    mask [1, 2, 5] [] x = some ([(1, .p (encInts path)), (2, .ref (2 :: π) 0), (5, .p (I pre.length))], [(2 :: π, boxN n)]) →
    kpO [1, 2] [4] [] (bkO 0 (iter (round EE iter π [] [1, 2, 5] c_ratchetref28_PathErr_L0) x)) =
      (if (eachE (stepErr n path) pre.length suf).2 = 0 then some (.nm, [(1, .p (encInts path)), (2, .ref (2 :: π) 0)], [(2 :: π, boxN n)]) else some (.rt, [(4, .p (I (eachE (stepErr n path) pre.length suf).2))], []))
  | [], pre, x, h, hm => by
    rw [loop_eq hm]
    have : path = pre := by simpa using h
    rw [← this]
    simp [u_ratchetref28_PathErr_L0, b_ratchetref28_PathErr_L0, eachE]
  | y :: suf, pre, x, h, hm => by
    rw [loop_eq hm]
    have hlen : pre.length < path.length := by rw [h]; simp
    have hlv0 := hv.lv0
    have hlv1 := hv.lv1
    have hnp := hv.np
    have hw1 : IntKind.i64.wrap (n.leaves - 1) = n.leaves - 1 := w64 ⟨by omega, by omega⟩
    have hpts := fun π => e_Points (π := π) n
    have hw : IntKind.i64.wrap (n.leaves + n.placed.length) = n.leaves + n.placed.length := w64 ⟨by omega, by omega⟩
    have hw3 : IntKind.i64.wrap (n.leaves + n.placed.length - 1) = n.leaves + n.placed.length - 1 := w64 ⟨by omega, by omega⟩
    rw [hw] at hpts
    have hws := w_succ hlen (show path.length ≤ top63 by simp only [top63]; omega)
    have hnext := perr_loop l n m hv path hpl suf (pre ++ [y])
    rw [show (pre ++ [y]).length = pre.length + 1 by simp] at hnext
    simp only [eachE]
    have hse : stepErr n path pre.length y = if pre.length = 0 then unlE (within y 0 (n.leaves - 1)) 6
      else if within y n.leaves (n.leaves + n.placed.length - 1) = true then unlE (memB (n.placed.getD (y - n.leaves).toNat ⟨0, []⟩).sources (IntKind.i64.wrap (path.getD (pre.length - 1) 0 + 2))) 14 else 6 := rfl
    by_cases hi : pre.length = 0
    · have hpe : pre = [] := List.eq_nil_of_length_eq_zero hi
      have hl0 : 0 < path.length := by omega
      have hg0 : path[0] = y := by simp [h, hpe]
      rw [if_pos hi] at hse
      cases hb : within y 0 (n.leaves - 1) with
      | false =>
        rw [hb] at hse
        simp only [unlE, Bool.false_eq_true, if_false] at hse
        simp only [hse]
        simp [u_ratchetref28_PathErr_L0, b_ratchetref28_PathErr_L0, hpe, hl0, hg0, hw1, e_Within, hb]
      | true =>
        rw [hb] at hse
        simp only [unlE, if_true] at hse
        simp only [hse, if_true]
        rw [hpe] at hnext hws ⊢
        simp [u_ratchetref28_PathErr_L0, b_ratchetref28_PathErr_L0, hl0, hg0, hw1, e_Within, hb]
        exact hnext _ (by simp [h, hpe]) (by simpa using hws)
    · have hi' : ¬ (pre.length : Int) = 0 := by omega
      have hi3 : 0 < pre.length := by omega
      have hpn : ¬ pre = [] := fun hh => hi (by rw [hh]; rfl)
      have hi2 : (0 : Int) < pre.length := by omega
      rw [if_neg hi] at hse
      have hl1 : pre.length - 1 < path.length := by omega
      have hwp : IntKind.i64.wrap ((pre.length : Int) - 1) = ((pre.length - 1 : Nat) : Int) := by rw [show (pre.length : Int) - 1 = ((pre.length - 1 : Nat) : Int) by omega]; exact w64 ⟨by omega, by omega⟩
      have hg : path.getD (pre.length - 1) 0 = path[pre.length - 1] := by simp [List.getD, hl1]
      rw [hg] at hse
      cases hc : within y n.leaves (n.leaves + n.placed.length - 1) with
      | false =>
        rw [hc] at hse
        simp only [Bool.false_eq_true, if_false] at hse
        simp only [hse]
        simp [u_ratchetref28_PathErr_L0, b_ratchetref28_PathErr_L0, lt_mid h, get_mid _ h, hpn, hi', hi2, hi3, hpts, hw3, e_Within, hc]
      | true =>
        obtain ⟨hy0, hy1⟩ := within_iff.1 hc
        have hyl : (y - n.leaves).toNat < n.placed.length := by omega
        have hyl' : y - n.leaves < (n.placed.length : Int) := by omega
        have hwy : IntKind.i64.wrap (y - n.leaves) = y - n.leaves := w64 ⟨by omega, by omega⟩
        have hmem : n.placed[(y - n.leaves).toNat] ∈ n.placed := List.getElem_mem hyl
        obtain ⟨_, _, _, _, _, hs3⟩ := hv.cell _ hmem
        have hgp : n.placed.getD (y - n.leaves).toNat ⟨0, []⟩ = n.placed[(y - n.leaves).toNat] := by simp [List.getD, hyl]
        have hh := fun π => e_Has (π := π) n.placed[(y - n.leaves).toNat].sources (by simp only [top63]; omega) (IntKind.i64.wrap (path[pre.length - 1] + 2))
        rw [hc, if_pos rfl, hgp] at hse
        cases hb : memB n.placed[(y - n.leaves).toNat].sources (IntKind.i64.wrap (path[pre.length - 1] + 2)) with
        | false =>
          rw [hb] at hh hse
          simp only [unlE, Bool.false_eq_true, if_false] at hse
          simp only [hse]
          simp [u_ratchetref28_PathErr_L0, b_ratchetref28_PathErr_L0, lt_mid h, get_mid _ h, hpn, hi', hi2, hi3, hpts, hw3, e_Within, hc, hwy, hyl, hyl', hy0, hwp, hl1, hh]
        | true =>
          rw [hb] at hh hse
          simp only [unlE, if_true] at hse
          simp only [hse, if_true]
          simp [u_ratchetref28_PathErr_L0, b_ratchetref28_PathErr_L0, lt_mid h, get_mid _ h, hpn, hi', hi2, hi3, hpts, hw3, e_Within, hc, hwy, hyl, hyl', hy0, hwp, hl1, hh]
          exact (hnext _ (by simp [h]) (by simp [hws]))

theorem e_PathErr (l : List Cell) (n : Net) (m : Model) (hv : Valid l n m) (path : List Int) (hpl : path.length ≤ 1000) : EE π n_ratchetref28_PathErr [.p (encNet n), .p (encInts path)] [] = some (.p (I (pathE n path)), []) := by
  have hno := hv.no
  have hl := perr_loop (π := π) l n m hv path hpl path []
  rw [show ([] : List Int).length = 0 from rfl] at hl
  unfold pathE
  by_cases h0 : path = []
  · subst h0
    simp [e_ratchetref28_PathErr, run_eq, c_ratchetref28_PathErr]
  · rw [if_neg h0]
    have hp0 : 0 < path.length := List.length_pos_iff.2 h0
    have hne : ¬ path.length = 0 := by omega
    have hlt : path.length - 1 < path.length := by omega
    have hlast : path[path.length - 1] = path.getLastD 0 := by
      rw [List.getLastD_eq_getLast?, List.getLast?_eq_getElem?, List.getElem?_eq_getElem hlt]; rfl
    have hw : IntKind.i64.wrap ((path.length : Int) - 1) = ((path.length - 1 : Nat) : Int) := by rw [show (path.length : Int) - 1 = ((path.length - 1 : Nat) : Int) by omega]; exact w64 ⟨by omega, by omega⟩
    have hh := fun π => e_Has (π := π) n.outs (by simp only [top63]; omega) (IntKind.i64.wrap (path.getLastD 0 + 2))
    by_cases hz : (eachE (stepErr n path) 0 path).2 = 0
    · rw [if_neg (by simpa using hz)]
      rw [if_pos hz] at hl
      generalize path.getLastD 0 = last at *
      simp [e_ratchetref28_PathErr, run_eq, c_ratchetref28_PathErr, h0, hne]
      rw [hl _ rfl (by simp)]
      cases hb : memB n.outs (IntKind.i64.wrap (last + 2)) with
      | false => rw [hb] at hh; simp [hw, hlt, hlast, hh, unlE]
      | true => rw [hb] at hh; simp [hw, hlt, hlast, hh, unlE]
    · rw [if_pos hz]
      rw [if_neg hz] at hl
      generalize (eachE (stepErr n path) 0 path).2 = ee at *
      simp [e_ratchetref28_PathErr, run_eq, c_ratchetref28_PathErr, h0, hne]
      rw [hl _ rfl (by simp)]
      simp

end Go.Proofs.Ytafomlbikcphgaa.V

/- The law TimingSlack, in the evaluator: its loops. -/
namespace Go.Proofs.Ytafomlbikcphgaa.V
open Go (IntKind BinOp UnOp)
variable {π ρ κ : Id}

theorem e_light (l : List Cell) (n : Net) (m : Model) : EE π n_ratchetlaw28_light [.p (.agg (circ l n m))] [] = some (.p (.bool (decide ((n.placed.length : Int) ≤ 9))), []) := by
  simp [e_ratchetlaw28_light, run_eq, c_ratchetlaw28_light]

abbrev stR5 (L : List (List Int)) (n : Net) (m : Model) (t0 t1 : Int) : Sto := [rowL [1005, 77] (flagE L) L, ([9], boxM m), ([8], .box false [.p (I n.leaves), .p (.sl 2 (flagE n.placed) (n.placed.map encPlacedF)), .p (.sl 1 (some false) (ints n.outs))]), ([5], .box false [.p (I t0), .p (I t1)])]
abbrev env5 (ats : List Int) (l : List Cell) : Env := [(1, .p (encInts ats)), (5, .ref [5] 0), (7, .p (.sl 5 (some false) (l.map encCell))), (8, .ref [8] 0), (9, .ref [9] 0)]
def endAt (o : Int) (q : List Int) : Bool := decide (q.getLastD 0 = o - 2)

theorem last_get {y : List Int} (h : y ≠ []) (hy : y.length ≤ 500) : ∃ (hlt : y.length - 1 < y.length), y[y.length - 1] = y.getLastD 0 ∧ IntKind.i64.wrap ((y.length : Int) - 1) = ((y.length - 1 : Nat) : Int) := by
  have hp0 : 0 < y.length := List.length_pos_iff.2 h
  have hlt : y.length - 1 < y.length := by omega
  refine ⟨hlt, ?_, ?_⟩
  · rw [List.getLastD_eq_getLast?, List.getLast?_eq_getElem?, List.getElem?_eq_getElem hlt]; rfl
  · rw [show (y.length : Int) - 1 = ((y.length - 1 : Nat) : Int) by omega]; exact w64 ⟨by omega, by omega⟩

theorem slack_loop1 (l : List Cell) (n : Net) (m : Model) (ats : List Int) (t0 t1 : Int) (L : List (List Int)) (hL : ∀ q ∈ L, q ≠ [] ∧ q.length ≤ 500) (hLl : L.length ≤ 1000) (i : Nat) (o : Int) (hi : i < n.outs.length) (ho : n.outs[i] = o) (ho1 : -1000 ≤ o ∧ o ≤ 1000) :
    ∀ (suf pre : List (List Int)) (b : Bool) (x : Env × Sto), L = pre ++ suf →
    mask [1, 5, 7, 8, 9, 10, 11, 12, 13] [] x = some (env5 ats l ++ [(10, .ap [1005, 77]), (11, .p (I i)), (12, .p (.bool b)), (13, .p (I pre.length))], stR5 L n m t0 t1) →
    kpO [1, 5, 7, 8, 9, 10, 11, 12] [6] [] (bkO 2 (iter (round EE iter [] [] [1, 5, 7, 8, 9, 10, 11, 12, 13] c_ratchetlaw28_TimingSlack_L1) x)) = some (.nm, env5 ats l ++ [(10, .ap [1005, 77]), (11, .p (I i)), (12, .p (.bool (b || suf.any (endAt o))))], stR5 L n m t0 t1)
  | [], pre, b, x, h, hm => by
    rw [loop_eq hm]
    have : L = pre := by simpa using h
    simp [u_ratchetlaw28_TimingSlack_L1, b_ratchetlaw28_TimingSlack_L1, ← this]
  | y :: suf, pre, b, x, h, hm => by
    rw [loop_eq hm]
    have hlen : pre.length < L.length := by rw [h]; simp
    have hyg : L[pre.length]? = some y := by rw [h]; simp
    have hyg2 : L[pre.length] = y := by simpa [List.getElem?_eq_getElem hlen] using hyg
    obtain ⟨hne, hyl⟩ := hL y (by rw [h]; simp)
    obtain ⟨hlt, hlast, hw⟩ := last_get hne hyl
    have hws := w_succ hlen (show L.length ≤ top63 by simp only [top63]; omega)
    have hwo : IntKind.i64.wrap (o - 2) = o - 2 := w64 ⟨by omega, by omega⟩
    have hnext := fun b => slack_loop1 l n m ats t0 t1 L hL hLl i o hi ho ho1 suf (pre ++ [y]) b
    rw [show (pre ++ [y]).length = pre.length + 1 by simp] at hnext
    have hany : (b || (y :: suf).any (endAt o)) = ((b || endAt o y) || suf.any (endAt o)) := by simp [Bool.or_assoc]
    rw [hany]
    unfold endAt at *
    cases b with
    | true =>
      simp [u_ratchetlaw28_TimingSlack_L1, b_ratchetlaw28_TimingSlack_L1, hlen]
      exact hnext true _ (by simp [h]) (by simp [hws])
    | false =>
      simp only [Bool.false_or]
      have hnx := hnext (decide (y.getLastD 0 = o - 2))
      generalize hla : y.getLastD 0 = la at *
      generalize (suf.any fun q => decide (q.getLastD 0 = o - 2)) = c at *
      simp [u_ratchetlaw28_TimingSlack_L1, b_ratchetlaw28_TimingSlack_L1, hlen, hyg2, hlt, hlast, hw, hi, ho, hwo]
      exact hnx _ (by simp [h]) (by simp [hws])

def outHas (L : List (List Int)) (o : Int) : Bool := decide (o < 2) || L.any (endAt o)

theorem slack_loop0 (l : List Cell) (n : Net) (m : Model) (hv : Valid l n m) (ats : List Int) (t0 t1 : Int) (L : List (List Int)) (hL : ∀ q ∈ L, q ≠ [] ∧ q.length ≤ 500) (hLl : L.length ≤ 1000) :
    ∀ (suf pre : List Int) (x : Env × Sto), n.outs = pre ++ suf →
    mask [1, 5, 7, 8, 9, 10, 11] [] x = some (env5 ats l ++ [(10, .ap [1005, 77]), (11, .p (I pre.length))], stR5 L n m t0 t1) →
    kpO [1, 5, 7, 8, 9, 10] [6] [] (bkO 0 (iter (round EE iter [] [] [1, 5, 7, 8, 9, 10, 11] c_ratchetlaw28_TimingSlack_L0) x)) = if suf.all (outHas L) = true then some (.nm, env5 ats l ++ [(10, .ap [1005, 77])], stR5 L n m t0 t1) else some (.rt, [(6, .p (.bool true))], [])
  | [], pre, x, h, hm => by
    rw [loop_eq hm]
    have : n.outs = pre := by simpa using h
    simp [u_ratchetlaw28_TimingSlack_L0, b_ratchetlaw28_TimingSlack_L0, ← this]
  | o :: suf, pre, x, h, hm => by
    rw [loop_eq hm]
    have hno := hv.no
    have hlv1 := hv.lv1
    have hnp := hv.np
    have hlen : pre.length < n.outs.length := by rw [h]; simp
    have hog : n.outs[pre.length]? = some o := by rw [h]; simp
    have hog2 : n.outs[pre.length] = o := by simpa [List.getElem?_eq_getElem hlen] using hog
    have hob := hv.out o (by rw [h]; simp)
    have hws := w_succ hlen (show n.outs.length ≤ top63 by simp only [top63]; omega)
    have hin := slack_loop1 l n m ats t0 t1 L hL hLl pre.length o hlen hog2 (by omega) L [] (decide (o < 2))
    rw [show ([] : List (List Int)).length = 0 from rfl] at hin
    have hin := fun x => hin x rfl
    have hnext := slack_loop0 l n m hv ats t0 t1 L hL hLl suf (pre ++ [o])
    rw [show (pre ++ [o]).length = pre.length + 1 by simp] at hnext
    have hall : (o :: suf).all (outHas L) = ((decide (o < 2) || L.any (endAt o)) && suf.all (outHas L)) := rfl
    rw [hall]
    generalize hB : (decide (o < 2) || L.any (endAt o)) = b at *
    generalize hlt : decide (o < 2) = b2 at *
    simp [u_ratchetlaw28_TimingSlack_L0, b_ratchetlaw28_TimingSlack_L0, hlen, hog2, hlt]
    rw [hin _ (by simp)]
    cases b with
    | true =>
      simp
      simpa using hnext _ (by simp [h]) (by simp [hws])
    | false => simp

abbrev stQ (n : Net) (m : Model) (t0 t1 : Int) : Sto := [([9], boxM m), ([8], .box false [.p (I n.leaves), .p (.sl 2 (flagE n.placed) (n.placed.map encPlacedF)), .p (.sl 1 (some false) (ints n.outs))]), ([5], .box false [.p (I t0), .p (I t1)])]
def onPath (p : Int) (q : List Int) : Bool := memB q p

theorem slack_loop3 (l : List Cell) (n : Net) (m : Model) (hv : Valid l n m) (ats : List Int) (t0 t1 : Int) (L : List (List Int)) (hL : ∀ q ∈ L, q ≠ [] ∧ q.length ≤ 500) (hLl : L.length ≤ 1000) (i : Nat) (hi : i < n.placed.length) :
    ∀ (suf pre : List (List Int)) (b : Bool) (x : Env × Sto), L = pre ++ suf →
    mask [1, 5, 7, 8, 9, 10, 14, 15, 16] [] x = some (env5 ats l ++ [(10, .ap [1005, 77]), (14, .p (I i)), (15, .p (.bool b)), (16, .p (I pre.length))], stR5 L n m t0 t1) →
    kpO [1, 5, 7, 8, 9, 10, 14, 15] [6] [] (bkO 6 (iter (round EE iter [] [] [1, 5, 7, 8, 9, 10, 14, 15, 16] c_ratchetlaw28_TimingSlack_L3) x)) = some (.nm, env5 ats l ++ [(10, .ap [1005, 77]), (14, .p (I i)), (15, .p (.bool (b || suf.any (onPath (n.leaves + i)))))], stR5 L n m t0 t1)
  | [], pre, b, x, h, hm => by
    rw [loop_eq hm]
    have : L = pre := by simpa using h
    simp [u_ratchetlaw28_TimingSlack_L3, b_ratchetlaw28_TimingSlack_L3, ← this]
  | y :: suf, pre, b, x, h, hm => by
    rw [loop_eq hm]
    have hlv0 := hv.lv0
    have hlv1 := hv.lv1
    have hnp := hv.np
    have hlen : pre.length < L.length := by rw [h]; simp
    have hyg : L[pre.length]? = some y := by rw [h]; simp
    have hyg2 : L[pre.length] = y := by simpa [List.getElem?_eq_getElem hlen] using hyg
    obtain ⟨hne, hyl⟩ := hL y (by rw [h]; simp)
    have hws := w_succ hlen (show L.length ≤ top63 by simp only [top63]; omega)
    have hw : IntKind.i64.wrap (n.leaves + i) = n.leaves + i := w64 ⟨by omega, by omega⟩
    have hh := fun π => e_Has (π := π) y (by simp only [top63]; omega) (n.leaves + i)
    have hnext := fun b => slack_loop3 l n m hv ats t0 t1 L hL hLl i hi suf (pre ++ [y]) b
    rw [show (pre ++ [y]).length = pre.length + 1 by simp] at hnext
    have hany : (b || (y :: suf).any (onPath (n.leaves + i))) = ((b || onPath (n.leaves + i) y) || suf.any (onPath (n.leaves + i))) := by simp [Bool.or_assoc]
    rw [hany]
    have hop : onPath (n.leaves + i) y = memB y (n.leaves + i) := rfl
    rw [hop]
    cases b with
    | true =>
      simp [u_ratchetlaw28_TimingSlack_L3, b_ratchetlaw28_TimingSlack_L3, hlen]
      exact hnext true _ (by simp [h]) (by simp [hws])
    | false =>
      simp only [Bool.false_or]
      have hnx := hnext (memB y (n.leaves + i))
      generalize memB y (n.leaves + i) = b2 at *
      generalize suf.any (onPath (n.leaves + i)) = c at *
      simp [u_ratchetlaw28_TimingSlack_L3, b_ratchetlaw28_TimingSlack_L3, hlen, hyg2, hw, hh, freeze]
      exact hnx _ (by simp [h]) (by simp [hws])

def cellsOn (n : Net) (L : List (List Int)) (i : Nat) : Bool := L.any (onPath (n.leaves + i))

theorem slack_loop2 (l : List Cell) (n : Net) (m : Model) (hv : Valid l n m) (ats : List Int) (t0 t1 : Int) (L : List (List Int)) (hL : ∀ q ∈ L, q ≠ [] ∧ q.length ≤ 500) (hLl : L.length ≤ 1000) :
    ∀ (j k : Nat) (x : Env × Sto), k + j = n.placed.length →
    mask [1, 5, 7, 8, 9, 10, 14] [] x = some (env5 ats l ++ [(10, .ap [1005, 77]), (14, .p (I k))], stR5 L n m t0 t1) →
    kpO [1, 5, 7, 8, 9] [6] [] (bkO 4 (iter (round EE iter [] [] [1, 5, 7, 8, 9, 10, 14] c_ratchetlaw28_TimingSlack_L2) x)) = if (List.range' k j).all (cellsOn n L) = true then some (.nm, env5 ats l, stQ n m t0 t1) else some (.rt, [(6, .p (.bool true))], [])
  | 0, k, x, h, hm => by
    rw [loop_eq hm]
    have : k = n.placed.length := by omega
    subst this
    simp [u_ratchetlaw28_TimingSlack_L2, b_ratchetlaw28_TimingSlack_L2]
  | j + 1, k, x, h, hm => by
    rw [loop_eq hm]
    have hnp := hv.np
    have hlen : k < n.placed.length := by omega
    have hws := w_succ hlen (show n.placed.length ≤ top63 by simp only [top63]; omega)
    have hin := slack_loop3 l n m hv ats t0 t1 L hL hLl k hlen L [] false
    rw [show ([] : List (List Int)).length = 0 from rfl, Bool.false_or] at hin
    have hin := fun x => hin x rfl
    have hnext := slack_loop2 l n m hv ats t0 t1 L hL hLl j (k + 1)
    have hall : (List.range' k (j + 1)).all (cellsOn n L) = (L.any (onPath (n.leaves + k)) && (List.range' (k + 1) j).all (cellsOn n L)) := by rw [List.range'_succ]; rfl
    rw [hall]
    generalize L.any (onPath (n.leaves + k)) = b at *
    generalize (List.range' (k + 1) j).all (cellsOn n L) = c at *
    simp [u_ratchetlaw28_TimingSlack_L2, b_ratchetlaw28_TimingSlack_L2, hlen]
    rw [hin _ (by simp)]
    cases b with
    | true =>
      simp
      exact hnext _ (by omega) (by simp [hws])
    | false => simp

end Go.Proofs.Ytafomlbikcphgaa.V

/- The law TimingSlack, in the evaluator: its last loops. -/
namespace Go.Proofs.Ytafomlbikcphgaa.V
open Go (IntKind BinOp UnOp)
variable {π ρ κ : Id}

abbrev env6 (ats : List Int) (l : List Cell) : Env := env5 ats l ++ [(17, .ap [1017]), (18, .ap [1018])]
abbrev stDL (n : Net) (m : Model) (t0 t1 t2 : Int) (k : Nat) : Sto := [rowI [1017] (some false) (List.replicate k t0), rowI [1018] (some false) (List.replicate k t2)] ++ stQ n m t0 t1

theorem slack_loop4 (l : List Cell) (n : Net) (m : Model) (hv : Valid l n m) (ats : List Int) (t0 t1 t2 : Int) (hw : IntKind.i64.wrap (t0 + t1) = t2) :
    ∀ (j k : Nat) (x : Env × Sto), k + j = n.outs.length →
    mask [1, 5, 7, 8, 9, 17, 18, 19] [] x = some (env6 ats l ++ [(19, .p (I k))], stDL n m t0 t1 t2 k) →
    kpO [1, 5, 7, 8, 9, 17, 18] [6] [] (bkO 8 (iter (round EE iter [] [] [1, 5, 7, 8, 9, 17, 18, 19] c_ratchetlaw28_TimingSlack_L4) x)) = some (.nm, env6 ats l, stDL n m t0 t1 t2 n.outs.length)
  | 0, k, x, h, hm => by
    rw [loop_eq hm]
    have : k = n.outs.length := by omega
    subst this
    simp [u_ratchetlaw28_TimingSlack_L4, b_ratchetlaw28_TimingSlack_L4]
  | j + 1, k, x, h, hm => by
    rw [loop_eq hm]
    have hno := hv.no
    have hlen : k < n.outs.length := by omega
    have hws := w_succ hlen (show n.outs.length ≤ top63 by simp only [top63]; omega)
    have hnext := slack_loop4 l n m hv ats t0 t1 t2 hw j (k + 1)
    have e1 : List.replicate (k + 1) (I t0) = List.replicate k (I t0) ++ [I t0] := List.replicate_succ'
    have e2 : List.replicate (k + 1) (I t2) = List.replicate k (I t2) ++ [I t2] := List.replicate_succ'
    have hroom : k + 1 ≤ room := by simp only [room]; omega
    simp [u_ratchetlaw28_TimingSlack_L4, b_ratchetlaw28_TimingSlack_L4, hlen, hw, hroom, evRO]
    exact hnext _ (by omega) (by simp [hws, e1, e2])

theorem slack_loop4a (l : List Cell) (n : Net) (m : Model) (hv : Valid l n m) (ats : List Int) (t0 t1 t2 : Int) (hw : IntKind.i64.wrap (t0 + t1) = t2) (h0 : 0 < n.outs.length) (x : Env × Sto)
    (hm : mask [1, 5, 7, 8, 9, 17, 18, 19] [] x = some (env6 ats l ++ [(19, .p (I 0))], [([1018], Blk.row false t_int 1 (some true) []), ([1017], Blk.row false t_int 1 (some true) [])] ++ stQ n m t0 t1)) :
    kpO [1, 5, 7, 8, 9, 17, 18] [6] [] (bkO 8 (iter (round EE iter [] [] [1, 5, 7, 8, 9, 17, 18, 19] c_ratchetlaw28_TimingSlack_L4) x)) = some (.nm, env6 ats l, stDL n m t0 t1 t2 n.outs.length) := by
  rw [loop_eq hm]
  have hws : IntKind.i64.wrap ((0 : Int) + 1) = 1 := by decide
  have hws1 : IntKind.i64.wrap 1 = 1 := by decide
  have hroom : 1 ≤ room := by decide
  have hnext := slack_loop4 l n m hv ats t0 t1 t2 hw (n.outs.length - 1) 1
  have h0' : (0 : Int) < n.outs.length := by omega
  simp [u_ratchetlaw28_TimingSlack_L4, b_ratchetlaw28_TimingSlack_L4, h0, h0', hw, hroom, evRO]
  exact hnext _ (by omega) (by simp [hws, hws1])

/-- The least one of some slacks. -/
def leastF : List Int → Int → Int
  | [], a => a
  | s :: r, a => leastF r (if s = never then a else if a = never ∨ s < a then s else a)

theorem slack_loop5 (S T P : List Int) (k t0 t1 : Int) (hl : T.length = S.length) (hSl : S.length ≤ 1000) (hST : ∀ (i : Nat) s t, S[i]? = some s → T[i]? = some t → (s = never ∧ t = never) ∨ (s ≠ never ∧ IntKind.i64.wrap (s + t1) = t)) :
    ∀ (suf pre : List Int) (a : Int) (x : Env × Sto), S = pre ++ suf →
    mask [5, 20, 22, 24, 25, 27, 28] [] x = some ([(5, .ref [5] 0), (20, .ap [30, 18, 38, 183]), (22, .ap [30, 18, 38, 193]), (24, .ap [67, 202]), (25, .p (I k)), (27, .p (I a)), (28, .p (I pre.length))], [rowI [67, 202] (some false) P, rowI [30, 18, 38, 193] (some false) T, rowI [30, 18, 38, 183] (some false) S, ([5], .box false [.p (I t0), .p (I t1)])]) →
    kpO [5, 20, 24, 25, 27] [6] [] (bkO 10 (iter (round EE iter [] [] [5, 20, 22, 24, 25, 27, 28] c_ratchetlaw28_TimingSlack_L5) x)) = some (.nm, [(5, .ref [5] 0), (20, .ap [30, 18, 38, 183]), (24, .ap [67, 202]), (25, .p (I k)), (27, .p (I (leastF suf a)))], [rowI [67, 202] (some false) P, rowI [30, 18, 38, 183] (some false) S, ([5], .box false [.p (I t0), .p (I t1)])])
  | [], pre, a, x, h, hm => by
    rw [loop_eq hm]
    have : S = pre := by simpa using h
    simp [u_ratchetlaw28_TimingSlack_L5, b_ratchetlaw28_TimingSlack_L5, ← this, leastF]
  | y :: suf, pre, a, x, h, hm => by
    rw [loop_eq hm]
    have hlen : pre.length < S.length := by rw [h]; simp
    have hlenT : pre.length < T.length := by omega
    have hyg : S[pre.length]? = some y := by rw [h]; simp
    have hyg2 : S[pre.length] = y := by simpa [List.getElem?_eq_getElem hlen] using hyg
    have hT := hST pre.length y T[pre.length] hyg (List.getElem?_eq_getElem hlenT)
    generalize hTv : T[pre.length] = tv at *
    have hws := w_succ hlen (show S.length ≤ top63 by simp only [top63]; omega)
    have hnext := slack_loop5 S T P k t0 t1 hl hSl hST suf (pre ++ [y])
    rw [show (pre ++ [y]).length = pre.length + 1 by simp] at hnext
    simp only [leastF]
    rcases hT with ⟨h1, h2⟩ | ⟨h1, h2⟩
    · rw [if_pos h1]
      have h1' : y = -1000000000 := h1
      have h2' : tv = -1000000000 := h2
      have hnx := hnext a
      generalize leastF suf a = r at *
      simp [u_ratchetlaw28_TimingSlack_L5, b_ratchetlaw28_TimingSlack_L5, hlen, hlenT, hyg2, hTv, h1', h2']
      exact hnx _ (by simp [h]) (by simp [hws])
    · rw [if_neg h1]
      have h1' : ¬ y = -1000000000 := h1
      by_cases ha : a = -1000000000
      · have hnx := hnext y
        rw [if_pos (.inl ha)]
        generalize leastF suf y = r at *
        simp [u_ratchetlaw28_TimingSlack_L5, b_ratchetlaw28_TimingSlack_L5, hlen, hlenT, hyg2, hTv, h1', h2, ha]
        exact hnx _ (by simp [h]) (by simp [hws])
      · by_cases hc : y < a
        · have hnx := hnext y
          rw [if_pos (.inr hc)]
          generalize leastF suf y = r at *
          simp [u_ratchetlaw28_TimingSlack_L5, b_ratchetlaw28_TimingSlack_L5, hlen, hlenT, hyg2, hTv, h1', h2, ha, hc]
          exact hnx _ (by simp [h]) (by simp [hws])
        · have hnx := hnext a
          rw [if_neg (show ¬ (a = never ∨ y < a) from fun hh => hh.elim ha hc)]
          generalize leastF suf a = r at *
          simp [u_ratchetlaw28_TimingSlack_L5, b_ratchetlaw28_TimingSlack_L5, hlen, hlenT, hyg2, hTv, h1', h2, ha, hc]
          exact hnx _ (by simp [h]) (by simp [hws])

theorem slack_loop6 (S P : List Int) (a : Int) (hPl : P.length ≤ 1000) (hP : ∀ q ∈ P, 0 ≤ q ∧ S[q.toNat]? = some a) :
    ∀ (suf pre : List Int) (x : Env × Sto), P = pre ++ suf →
    mask [20, 24, 27, 29] [] x = some ([(20, .ap [30, 18, 38, 183]), (24, .ap [67, 202]), (27, .p (I a)), (29, .p (I pre.length))], [rowI [67, 202] (some false) P, rowI [30, 18, 38, 183] (some false) S]) →
    kpO [] [6] [] (bkO 12 (iter (round EE iter [] [] [20, 24, 27, 29] c_ratchetlaw28_TimingSlack_L6) x)) = some (.nm, [], [])
  | [], pre, x, h, hm => by
    rw [loop_eq hm]
    have : P = pre := by simpa using h
    simp [u_ratchetlaw28_TimingSlack_L6, b_ratchetlaw28_TimingSlack_L6, ← this]
  | y :: suf, pre, x, h, hm => by
    rw [loop_eq hm]
    have hlen : pre.length < P.length := by rw [h]; simp
    have hyg : P[pre.length]? = some y := by rw [h]; simp
    have hyg2 : P[pre.length] = y := by simpa [List.getElem?_eq_getElem hlen] using hyg
    obtain ⟨hy0, hyS⟩ := hP y (by rw [h]; simp)
    obtain ⟨hyl, hyv⟩ := List.getElem?_eq_some_iff.1 hyS
    have hyl' : y < (S.length : Int) := by omega
    have hws := w_succ hlen (show P.length ≤ top63 by simp only [top63]; omega)
    have hnext := slack_loop6 S P a hPl hP suf (pre ++ [y])
    rw [show (pre ++ [y]).length = pre.length + 1 by simp] at hnext
    simp [u_ratchetlaw28_TimingSlack_L6, b_ratchetlaw28_TimingSlack_L6, hlen, hyg2, hy0, hyl, hyl', hyv]
    exact hnext _ (by simp [h]) (by simp [hws])

end Go.Proofs.Ytafomlbikcphgaa.V

/- The law TimingSlack, in the evaluator. -/
namespace Go.Proofs.Ytafomlbikcphgaa.V
open Go (IntKind BinOp UnOp)
variable {π ρ κ : Id}

@[simp] theorem fgL_rep (k : Nat) (t : Int) : PV.fg.PV.fgL (List.replicate k (I t)) = List.replicate k (I t) := by
  have := fgL_ints .i64 (List.replicate k t)
  simpa using this

theorem slkN_len {l : List Cell} {n : Net} {m : Model} {ats due : List Int} (h0 : 0 ≤ n.leaves) (ha : (ats.length : Int) = n.leaves) : (slkN l n m ats due).length = n.leaves.toNat + n.placed.length := by
  unfold slkN
  rw [List.length_zipWith, reqN_len, arrN_len]
  omega

/-- The slack of a point. -/
theorem slk_get (l : List Cell) (n : Net) (m : Model) (hv : Valid l n m) (ats : List Int) (ha : (ats.length : Int) = n.leaves) (T : Int) (hT : 0 ≤ T ∧ T ≤ 1000000) (p : Nat) (hp : p < n.leaves.toNat + n.placed.length) :
    (slkN l n m ats (List.replicate n.outs.length T))[p]? = some (if (restN l n m).getD p 0 = -1 then never else T - (restN l n m).getD p 0 - (arrN l n m ats).getD p 0) := by
  have hlv0 := hv.lv0
  have hlv1 := hv.lv1
  have hnp := hv.np
  have hr := req_get l n m hv T hT p hp
  have hRb : Bnd (restN l n m) (25400 * ((n.leaves.toNat + n.placed.length : Nat) : Int)) := restL_in n (delaysN l n m) hv.D_ge _
  have hRq := hRb.getD (by omega) p
  have h1 : p < (reqN l n m (List.replicate n.outs.length T)).length := by rw [reqN_len]; exact hp
  have h2 : p < (arrN l n m ats).length := by rw [arrN_len]; omega
  unfold slkN
  rw [List.getElem?_zipWith, List.getElem?_eq_getElem h1, List.getElem?_eq_getElem h2]
  have e1 : (reqN l n m (List.replicate n.outs.length T))[p] = toReq T ((restN l n m).getD p 0) := by rw [← hr]; simp [List.getD, h1]
  have e2 : (arrN l n m ats)[p] = (arrN l n m ats).getD p 0 := by simp [List.getD, h2]
  simp only [e1, e2]
  unfold slk toReq
  by_cases hz : (restN l n m).getD p 0 = -1
  · rw [if_pos hz, if_pos hz, if_pos rfl]
  · rw [if_neg hz, if_neg hz, if_neg (by unfold never; omega)]

theorem leastF_eq (lo : Int) (hlo : lo ≠ never) : ∀ (S : List Int) (a : Int), (∀ s ∈ S, s = never ∨ lo ≤ s) → (a = never ∨ lo ≤ a) → (lo ∈ S ∨ a = lo) → leastF S a = lo
  | [], a, h, ha, hm => by
    rcases hm with hm | hm
    · cases hm
    · exact hm
  | s :: r, a, h, ha, hm => by
    have hs := h s (List.mem_cons_self ..)
    have hr := fun x hx => h x (List.mem_cons_of_mem s hx)
    simp only [leastF]
    by_cases h1 : s = never
    · rw [if_pos h1]
      refine leastF_eq lo hlo r a hr ha ?_
      rcases hm with hm | hm
      · rcases List.mem_cons.1 hm with hm | hm
        · exact absurd (hm.trans h1) hlo
        · exact .inl hm
      · exact .inr hm
    · rw [if_neg h1]
      have hs2 : lo ≤ s := hs.resolve_left h1
      by_cases h2 : a = never ∨ s < a
      · rw [if_pos h2]
        refine leastF_eq lo hlo r s hr (.inr hs2) ?_
        rcases hm with hm | hm
        · rcases List.mem_cons.1 hm with hm | hm
          · exact .inr hm.symm
          · exact .inl hm
        · rcases h2 with h2 | h2
          · exact absurd (hm.symm.trans h2) hlo
          · omega
      · rw [if_neg h2]
        refine leastF_eq lo hlo r a hr ha ?_
        rcases hm with hm | hm
        · rcases List.mem_cons.1 hm with hm | hm
          · have h3 : a ≠ never := fun hh => h2 (.inl hh)
            have h4 : ¬ s < a := fun hh => h2 (.inr hh)
            have h5 := ha.resolve_left h3
            exact .inr (by omega)
          · exact .inl hm
        · exact .inr hm

/-- What the law says of slacks. -/
theorem slack_law (l : List Cell) (n : Net) (m : Model) (hv : Valid l n m) (ats : List Int) (ha : (ats.length : Int) = n.leaves) (hat : ∀ v ∈ ats, 0 ≤ v ∧ v ≤ 1000000) (t0 t1 : Int) (hT0 : 0 ≤ t0 ∧ t0 ≤ 10000) (hT1 : 0 ≤ t1 ∧ t1 ≤ 10000) (hre : Reached n) (hk : (critB l n m ats).2 ≠ -1) :
    (∀ (i : Nat) s t, (slkN l n m ats (List.replicate n.outs.length t0))[i]? = some s → (slkN l n m ats (List.replicate n.outs.length (t0 + t1)))[i]? = some t → (s = never ∧ t = never) ∨ (s ≠ never ∧ IntKind.i64.wrap (s + t1) = t)) ∧
    leastF (slkN l n m ats (List.replicate n.outs.length t0)) never = t0 - (critB l n m ats).2 ∧ ok64 (t0 - (critB l n m ats).2) ∧
    (∀ q ∈ critP l n m ats, 0 ≤ q ∧ (slkN l n m ats (List.replicate n.outs.length t0))[q.toNat]? = some (t0 - (critB l n m ats).2)) := by
  have hlv0 := hv.lv0
  have hlv1 := hv.lv1
  have hnp := hv.np
  have hRb : Bnd (restN l n m) (25400 * ((n.leaves.toNat + n.placed.length : Nat) : Int)) := restL_in n (delaysN l n m) hv.D_ge _
  have hRq := fun p => hRb.getD (by omega) p
  have hA0 : ∀ q : Nat, 0 ≤ (arrN l n m ats).getD q 0 ∧ (arrN l n m ats).getD q 0 ≤ 3000000 := fun q => by
    rw [List.getD]
    cases hx : (arrN l n m ats)[q]? with
    | none => simp
    | some x => exact arrN_in hv hat x (List.mem_of_getElem? hx)
  have hg := fun p hp => slk_get l n m hv ats ha t0 (by omega) p hp
  have hg2 := fun p hp => slk_get l n m hv ats ha (t0 + t1) (by omega) p hp
  have hlen := slkN_len (l := l) (m := m) (ats := ats) (due := List.replicate n.outs.length t0) hlv0 ha
  have hmax := crit_max l n m hv ats ha hat hre
  obtain ⟨hne, hlate⟩ := crit_late l n m hv ats ha hk
  have hat4 : ∀ q ∈ critP l n m ats, 0 ≤ q ∧ (slkN l n m ats (List.replicate n.outs.length t0))[q.toNat]? = some (t0 - (critB l n m ats).2) := fun q hq => by
    obtain ⟨h0, h1, h2, h3⟩ := hlate q hq
    refine ⟨h0, ?_⟩
    rw [hg _ (by omega), if_neg h2]
    have := hmax q.toNat (by omega) h2
    congr 1
    omega
  have hbk : -1000000 ≤ (critB l n m ats).2 ∧ (critB l n m ats).2 ≤ 10000000 := by
    cases hcp : critP l n m ats with
    | nil => exact absurd hcp hne
    | cons q r =>
      obtain ⟨h0, h1, h2, h3⟩ := hlate q (by rw [hcp]; exact List.mem_cons_self ..)
      have h4 := hmax q.toNat (by omega) h2
      have h5 := hA0 q.toNat
      have h6 := hRq q.toNat
      omega
  refine ⟨fun i s t hs ht => ?_, ?_, ?_, hat4⟩
  · have hi : i < n.leaves.toNat + n.placed.length := by rw [← hlen]; exact (List.getElem?_eq_some_iff.1 hs).1
    rw [hg i hi] at hs
    rw [hg2 i hi] at ht
    have h5 := hA0 i
    have h6 := hRq i
    by_cases hz : (restN l n m).getD i 0 = -1
    · rw [if_pos hz] at hs ht
      exact .inl ⟨by simpa using hs.symm, by simpa using ht.symm⟩
    · rw [if_neg hz] at hs ht
      simp only [Option.some.injEq] at hs ht
      refine .inr ⟨by rw [← hs]; unfold never; omega, ?_⟩
      rw [← hs, ← ht, w64 ⟨by omega, by omega⟩]
      omega
  · refine leastF_eq _ (by unfold never; omega) _ _ (fun s hs => ?_) (.inl rfl) (.inl ?_)
    · obtain ⟨i, hi, hs⟩ := List.getElem_of_mem hs
      have hgi := hg i (by omega)
      rw [List.getElem?_eq_getElem hi, hs] at hgi
      by_cases hz : (restN l n m).getD i 0 = -1
      · rw [if_pos hz] at hgi
        exact .inl (by simpa using hgi)
      · rw [if_neg hz] at hgi
        simp only [Option.some.injEq] at hgi
        have := hmax i (by omega) hz
        exact .inr (by omega)
    · cases hcp : critP l n m ats with
      | nil => exact absurd hcp hne
      | cons q r =>
        exact List.mem_of_getElem? (hat4 q (by rw [hcp]; exact List.mem_cons_self ..)).2
  · exact ⟨by omega, by omega⟩

theorem slack_fit (l : List Cell) (n : Net) (m : Model) (ats : List Int) (t0 t1 : Int) (hok : netOk l n) (haw : Awake [30]) (hfew : fewB l n = true) (h9 : n.placed.length ≤ 9) (ha : allE l n m = 0) (ht : timesE ats n.leaves = 0) (hT0 : within t0 0 10000 = true) (hT1 : within t1 0 10000 = true) (hm : (pathsN n 200).length ≤ 200) (hm0 : 0 < (pathsN n 200).length) :
    EE [] n_ratchetlaw28_TimingSlack [.p (.agg (circ l n m)), .p (encInts ats), .p (.agg [I t0, I t1])] [] = some (.p (.bool true), []) := by
  have hf := fun π => e_Few (π := π) l n m
  rw [hfew] at hf
  have hc := fun π => e_copied (π := π) l n m hfew
  have ea := fun π => e_AllErr (π := π) l n m hok
  have hv := valid_of ha
  obtain ⟨ht1, ht2⟩ := times_ok ht
  have hlv0 := hv.lv0
  have hlv1 := hv.lv1
  have eta := fun π => e_TimesErr (π := π) ats (by simp only [top63]; omega) n.leaves
  rw [ha] at ea
  rw [ht] at eta
  have el := fun π => e_light (π := π) l n m
  have h9' : (n.placed.length : Int) ≤ 9 := by omega
  have ep : ∀ π : Id, EE π n_ratchetref28_Paths [.p (encNet n), .p (I 200)] [] = some (.ap (1005 :: π), [rowL (1005 :: π) (flagE (pathsN n 200)) (pathsN n 200)]) := fun π => e_Paths (π := π) l n m hv 200 (by omega)
  have hm' : ¬ (200 : Int) < (pathsN n 200).length := by omega
  have hgood := paths_good hv ht1 hm
  have hk : (critB l n m ats).2 ≠ -1 := fun hk => by
    have h0 := (crit_best l n m hv ats ht1 ht2 200 hm).1 hk
    cases hL : pathsN n 200 with
    | nil => rw [hL] at hm0; cases hm0
    | cons q r =>
      rw [hL] at h0
      obtain ⟨c, hc⟩ := critLG_some (alongN n (delaysN l n m) ats) r q
      rw [critLG, hc] at h0
      cases h0
  have hcm : critP l n m ats ∈ pathsN n 200 := by
    have := critLG_mem _ _ _ _ ((crit_best l n m hv ats ht1 ht2 200 hm).2 hk).1
    simpa using this
  have hcE := paths_chain hv hm _ hcm
  have hcl := (hgood _ hcm).2
  have eP := fun π => e_PathErr (π := π) l n m hv (critP l n m ats) (by omega)
  rw [hcE] at eP
  have ho0 : 0 < n.outs.length := by
    unfold V.pathE at hcE
    rw [if_neg (hgood _ hcm).1.ne] at hcE
    split at hcE
    · rename_i hz; exact absurd hcE hz
    · rw [unlE_z (by decide), memB_iff] at hcE
      exact List.length_pos_of_mem hcE
  have hre : (List.range' 0 n.placed.length).all (cellsOn n (pathsN n 200)) = true → Reached n := fun hB i c hc => by
    have hi : i < n.placed.length := (List.getElem?_eq_some_iff.1 hc).1
    have := List.all_eq_true.1 hB i (by rw [List.mem_range'_1]; omega)
    unfold cellsOn at this
    obtain ⟨q, hq, hqi⟩ := List.any_eq_true.1 this
    exact chain_src hv (by have := (hgood q hq).2; omega) (paths_chain hv hm q hq) i c hc (memB_iff.1 hqi)
  have hpts := fun π => e_Points (π := π) n
  have hwp : IntKind.i64.wrap (n.leaves + n.placed.length) = n.leaves + n.placed.length := w64 ⟨by omega, by have := hv.np; omega⟩
  rw [hwp] at hpts
  have hSl := slkN_len (l := l) (m := m) (ats := ats) (due := List.replicate n.outs.length t0) hlv0 ht1
  have hTl := slkN_len (l := l) (m := m) (ats := ats) (due := List.replicate n.outs.length (t0 + t1)) hlv0 ht1
  have hSl' : ((slkN l n m ats (List.replicate n.outs.length t0)).length : Int) = n.leaves + n.placed.length := by omega
  have hTS : (slkN l n m ats (List.replicate n.outs.length (t0 + t1))).length = (slkN l n m ats (List.replicate n.outs.length t0)).length := by omega
  have hnp := hv.np
  have hm0' : ¬ (pathsN n 200).length = 0 := by omega
  have hm1' : ¬ (pathsN n 200) = [] := by intro h; rw [h] at hm0; cases hm0
  have hca := fun π => e_CopyInts (π := π) (ints ats) (by simp only [room, List.length_map]; omega)
  generalize pathsN n 200 = L at *
  have hT0' := within_iff.1 hT0
  have hT1' := within_iff.1 hT1
  have hw12 : IntKind.i64.wrap (t0 + t1) = t0 + t1 := w64 ⟨by omega, by omega⟩
  have hl4 := fun x => slack_loop4a l n m hv ats t0 t1 (t0 + t1) hw12 ho0 x
  have hno := hv.no
  have hrep : ∀ t : Int, 0 ≤ t → t ≤ 1000000 → errS l n m ats (List.replicate n.outs.length t) = 0 := fun t h0 h1 => by
    unfold errS
    rw [ha, ht]
    have : timesE (List.replicate n.outs.length t) n.outs.length = 0 := by
      unfold timesE
      rw [firstE_cons, firstE_cons, unlE_z (by decide), unlE_z (by decide)]
      refine ⟨by simp, ?_, rfl⟩
      simp [within_iff, h0, h1]
    rw [this]; rfl
  have es := fun π => e_SlacksOf_ok (π := π) l n m hok ats (List.replicate n.outs.length t0) (by simp only [top63]; omega) (by simp only [List.length_replicate, top63]; omega) (hrep t0 (by omega) (by omega))
  have et := fun π => e_SlacksOf_ok (π := π) l n m hok ats (List.replicate n.outs.length (t0 + t1)) (by simp only [top63]; omega) (by simp only [List.length_replicate, top63]; omega) (hrep (t0 + t1) (by omega) (by omega))
  simp only [encInts, List.map_replicate] at es et
  have hA0 : errA l n m ats = 0 := by unfold errA; rw [ha, ht]; rfl
  have ec := fun π => e_CriticalPath_ok (π := π) l n m hok ats (by simp only [top63]; omega) hA0 hk
  have hre' := hre
  have hl0 := fun x => slack_loop0 l n m hv ats t0 t1 L (fun q hq => ⟨(hgood q hq).1.ne, (hgood q hq).2⟩) (by omega) n.outs [] x rfl
  have hl2 := fun x => slack_loop2 l n m hv ats t0 t1 L (fun q hq => ⟨(hgood q hq).1.ne, (hgood q hq).2⟩) (by omega) n.placed.length 0 x (by omega)
  simp [e_ratchetlaw28_TimingSlack, run_eq, c_ratchetlaw28_TimingSlack, haw, hf, hc, hca, ea, eta, el, h9, h9', ep, e_Within, hT0, hT1, hm', hm0', hm1', freeze, evRO, w64z]
  rw [hl0 _ (by simp)]
  by_cases hA : n.outs.all (outHas L) = true
  · rw [if_pos hA]
    simp
    rw [hl2 _ (by simp)]
    by_cases hB : (List.range' 0 n.placed.length).all (cellsOn n L) = true
    · rw [if_pos hB]
      simp [thaw, thaw1]
      rw [hl4 _ (by simp)]
      obtain ⟨q1, q2, q3, q4⟩ := slack_law l n m hv ats ht1 ht2 t0 t1 (by omega) (by omega) (hre hB) hk
      have hl5 := slack_loop5 _ _ (critP l n m ats) (critB l n m ats).2 t0 t1 hTS (by omega) q1 (slkN l n m ats (List.replicate n.outs.length t0)) [] never
      have hl5 := fun x => hl5 x rfl
      rw [q2] at hl5
      have hl6 := fun x => slack_loop6 _ (critP l n m ats) (t0 - (critB l n m ats).2) (by omega) q4 (critP l n m ats) [] x rfl
      have hwk := w64 q3
      generalize slkN l n m ats (List.replicate n.outs.length t0) = S at *
      generalize slkN l n m ats (List.replicate n.outs.length (t0 + t1)) = T at *
      generalize critP l n m ats = P at *
      generalize (critB l n m ats).2 = k at *
      simp [hca, es, et, ec, eP, hpts, hSl', hTS, freeze, evRO]
      rw [hl5 _ (by simp)]
      simp [hwk]
      rw [hl6 _ (by simp)]
      simp
    · rw [if_neg hB]
      simp
  · rw [if_neg hA]
    simp

end Go.Proofs.Ytafomlbikcphgaa.V

/- The law TimingSlack, in the evaluator: where it asks nothing. -/
namespace Go.Proofs.Ytafomlbikcphgaa.V
open Go (IntKind BinOp UnOp)
variable {π ρ κ : Id}

theorem slack_big (l : List Cell) (n : Net) (m : Model) (ats : List Int) (t0 t1 : Int) (hok : netOk l n) (haw : Awake [30]) (hal : ats.length ≤ top63) (hbig : ¬ (fewB l n = true ∧ n.placed.length ≤ 9 ∧ allE l n m = 0 ∧ timesE ats n.leaves = 0 ∧ within t0 0 10000 = true ∧ within t1 0 10000 = true)) :
    EE [] n_ratchetlaw28_TimingSlack [.p (.agg (circ l n m)), .p (encInts ats), .p (.agg [I t0, I t1])] [] = some (.p (.bool true), []) := by
  have hf := fun π => e_Few (π := π) l n m
  have el := fun π => e_light (π := π) l n m
  have ea := fun π => e_AllErr (π := π) l n m hok
  have eta := fun π => e_TimesErr (π := π) ats hal n.leaves
  by_cases h1 : fewB l n = true
  · rw [h1] at hf
    by_cases h2 : n.placed.length ≤ 9
    · have h2' : (n.placed.length : Int) ≤ 9 := by omega
      by_cases h3 : allE l n m = 0
      · rw [h3] at ea
        by_cases h4 : timesE ats n.leaves = 0
        · rw [h4] at eta
          cases h5 : within t0 0 10000 with
          | false => simp [e_ratchetlaw28_TimingSlack, run_eq, c_ratchetlaw28_TimingSlack, haw, hf, el, h2, h2', ea, eta, e_Within, h5, freeze, evRO, w64z]
          | true =>
            have h6 : within t1 0 10000 = false := by
              cases h6 : within t1 0 10000 with
              | false => rfl
              | true => exact absurd ⟨h1, h2, h3, h4, h5, h6⟩ hbig
            simp [e_ratchetlaw28_TimingSlack, run_eq, c_ratchetlaw28_TimingSlack, haw, hf, el, h2, h2', ea, eta, e_Within, h5, h6, freeze, evRO, w64z]
        · generalize timesE ats n.leaves = c at *
          simp [e_ratchetlaw28_TimingSlack, run_eq, c_ratchetlaw28_TimingSlack, haw, hf, el, h2, h2', ea, eta, h4, freeze, evRO, w64z]
      · generalize allE l n m = c at *
        simp [e_ratchetlaw28_TimingSlack, run_eq, c_ratchetlaw28_TimingSlack, haw, hf, el, h2, h2', ea, h3, freeze, evRO, w64z]
    · have h2' : ¬ (n.placed.length : Int) ≤ 9 := by omega
      simp [e_ratchetlaw28_TimingSlack, run_eq, c_ratchetlaw28_TimingSlack, haw, hf, el, h2, h2', freeze, evRO, w64z]
  · have h1 : fewB l n = false := by simpa using h1
    rw [h1] at hf
    simp [e_ratchetlaw28_TimingSlack, run_eq, c_ratchetlaw28_TimingSlack, haw, hf, freeze, evRO, w64z]

theorem slack_none (l : List Cell) (n : Net) (m : Model) (ats : List Int) (t0 t1 : Int) (hok : netOk l n) (haw : Awake [30]) (hal : ats.length ≤ top63) (hfew : fewB l n = true) (h9 : n.placed.length ≤ 9) (ha : allE l n m = 0) (ht : timesE ats n.leaves = 0) (hT0 : within t0 0 10000 = true) (hT1 : within t1 0 10000 = true) (hm : ¬ ((pathsN n 200).length ≤ 200 ∧ 0 < (pathsN n 200).length)) :
    EE [] n_ratchetlaw28_TimingSlack [.p (.agg (circ l n m)), .p (encInts ats), .p (.agg [I t0, I t1])] [] = some (.p (.bool true), []) := by
  have hf := fun π => e_Few (π := π) l n m
  rw [hfew] at hf
  have el := fun π => e_light (π := π) l n m
  have hc := fun π => e_copied (π := π) l n m hfew
  have ea := fun π => e_AllErr (π := π) l n m hok
  have hv := valid_of ha
  have eta := fun π => e_TimesErr (π := π) ats hal n.leaves
  rw [ha] at ea
  rw [ht] at eta
  have h9' : (n.placed.length : Int) ≤ 9 := by omega
  have ep : ∀ π : Id, EE π n_ratchetref28_Paths [.p (encNet n), .p (I 200)] [] = some (.ap (1005 :: π), [rowL (1005 :: π) (flagE (pathsN n 200)) (pathsN n 200)]) := fun π => e_Paths (π := π) l n m hv 200 (by omega)
  by_cases h0 : (pathsN n 200).length = 0
  · have h0' : pathsN n 200 = [] := List.eq_nil_of_length_eq_zero h0
    rw [h0'] at ep
    simp [e_ratchetlaw28_TimingSlack, run_eq, c_ratchetlaw28_TimingSlack, haw, hf, hc, ea, eta, el, h9, h9', ep, e_Within, hT0, hT1, freeze, evRO, w64z]
  · have hm' : (200 : Int) < (pathsN n 200).length := by
      have : ¬ (pathsN n 200).length ≤ 200 := fun h => hm ⟨h, by omega⟩
      omega
    have h1 : ¬ pathsN n 200 = [] := fun h => h0 (by rw [h]; rfl)
    generalize pathsN n 200 = L at *
    simp [e_ratchetlaw28_TimingSlack, run_eq, c_ratchetlaw28_TimingSlack, haw, hf, hc, ea, eta, el, h9, h9', ep, e_Within, hT0, hT1, h0, h1, hm', freeze, evRO, w64z]

end Go.Proofs.Ytafomlbikcphgaa.V
