/- The values of a graph, in the program. Depths, what is below some nodes, and their leaves: in plain terms. Errors of values and of nodes that are named. What is below some nodes, in the program: a round. What is below some nodes, in the program. What is below some nodes, by the reference. A cone, in -/
import Derived.Test.YtglelclmlkeheabGreatDoorS2
import Derived.Test.YtglelclmlkeheabGreatDoorK5
import Derived.Test.YtglelclmlkeheabGreatDoorS1

set_option linter.unusedSimpArgs false
set_option linter.unusedVariables false

/- The values of a graph, in the program. -/
namespace Go.Proofs.YtglelclmlkeheabGreatDoor.V
open Go (IntKind BinOp UnOp)
variable {π : Id}
def fitE (leaves : List Int) (i : Nat) (n : Int) : Int := unlE (fitsB n (leaves.getD i 0)) 2
theorem e_ValuesOf1 (leaves : List Int) (hlw : ∀ n ∈ leaves, 1 ≤ n ∧ n ≤ 16) (i : Nat) (hi : i < leaves.length) (n : Int) :
    EE π n_graph_ValuesOf_1 [.p (I i), .p (I n), .p (.ptr [encInts leaves])] [] = some (.p (I (fitE leaves i n)), []) := by
  have hgd : leaves.getD i 0 = leaves[i] := by simp [List.getD, hi]
  have hfi := fun π => e_fitsG (π := π) n leaves[i] (hlw _ (List.getElem_mem hi)).2
  unfold fitE
  rw [hgd]
  generalize fitsB n leaves[i] = b at *
  simp [e_graph_ValuesOf_1, run_eq, c_graph_ValuesOf_1, hi, hfi, e_unlessG]
def valuesE (leaves values : List Int) : Int := if values.length ≠ leaves.length then 10 else (eachE (fitE leaves) 0 values).2
theorem leafOk_of {leaves values : List Int} (h : valuesE leaves values = 0) : LeafOk leaves values := by
  unfold valuesE at h
  split at h
  · exact absurd h (by decide)
  · rename_i hl
    have hl : values.length = leaves.length := by simpa using hl
    refine ⟨hl, fun j hj => ?_⟩
    have hv : values[j]? = some (values.getD j 0) := by simp [List.getD, show j < values.length by omega]
    have := eachE_all h j _ hv
    unfold fitE at this
    rw [Nat.zero_add] at this
    have hf := (unlE_z (by decide)).1 this
    unfold fitsB at hf
    simp only [Bool.and_eq_true, decide_eq_true_eq] at hf
    have h2 := within_iff.1 hf.2
    exact ⟨h2.1, by omega⟩
theorem e_ValuesOf (leaves : List Int) (nodes : List Nod) (values : List Int) (hll : leaves.length ≤ 1000) (hnl : nodes.length ≤ 1000) (hvl : values.length ≤ 1000) (hal : ∀ x ∈ nodes, x.args.length ≤ 1000) :
    EE π n_graph_ValuesOf [.p (encInts leaves), .p (encNodes nodes), .p (encInts values)] [] =
      (if (checkE leaves nodes).2 ≠ 0 then some (.p (.tup [.sl 1 (some true) [], I (checkE leaves nodes).2]), []) else if valuesE leaves values ≠ 0 then some (.p (.tup [.sl 1 (some true) [], I (valuesE leaves values)]), [])
        else some (.tup [.ap (1006 :: 36 :: π), .p (I 0)], [rowI (1006 :: 36 :: π) (flagE nodes) (valsN nodes values nodes [])])) := by
  have hge := fun π => e_graphErr (π := π) leaves nodes hal
  by_cases hc : (checkE leaves nodes).2 = 0
  · obtain ⟨_, _, hlw⟩ := checkE_leaves hc
    have hG := checkE_nodes hc
    rw [hc] at hge
    rw [if_neg (by simp [hc])]
    by_cases hl : values.length = leaves.length
    · have hl' : (values.length : Int) = leaves.length := by omega
      have hea := fun π => e_eachG (π := π) values (by simp only [top63]; omega) (f := n_graph_ValuesOf_1) (caps := [.ptr [encInts leaves]]) (err := fitE leaves) (fun i x hx => by
        have := (List.getElem?_eq_some_iff.1 hx).1
        simpa using e_ValuesOf1 leaves hlw i (by omega) x)
      by_cases hv : valuesE leaves values = 0
      · have hva := fun π => e_valued (π := π) (fl := none) hnl hal hll hG (leafOk_of hv)
        have hv2 : (eachE (fitE leaves) 0 values).2 = 0 := by unfold valuesE at hv; rwa [if_neg (by simp [hl])] at hv
        generalize valsN nodes values nodes [] = R at *
        generalize eachE (fitE leaves) 0 values = q at *
        simp [e_graph_ValuesOf, run_eq, c_graph_ValuesOf, hge, hl', e_unlessG, e_first2G, unlE, firstE, hea, hv, hv2, hva, freeze, evRO]
      · have hv2 : valuesE leaves values = (eachE (fitE leaves) 0 values).2 := by unfold valuesE; rw [if_neg (by simp [hl])]
        rw [hv2] at hv ⊢
        generalize eachE (fitE leaves) 0 values = q at *
        simp [e_graph_ValuesOf, run_eq, c_graph_ValuesOf, hge, hl', e_unlessG, e_first2G, unlE, firstE, hea, hv, freeze, evRO]
    · have hl' : ¬ (values.length : Int) = leaves.length := by omega
      have hv2 : valuesE leaves values = 10 := by unfold valuesE; rw [if_pos (by simpa using hl)]
      rw [hv2]
      simp [e_graph_ValuesOf, run_eq, c_graph_ValuesOf, hge, hl', e_unlessG, e_first2G, unlE, firstE, freeze, evRO]
  · generalize (checkE leaves nodes).2 = c at *
    simp [e_graph_ValuesOf, run_eq, c_graph_ValuesOf, hge, hc, e_unlessG, e_first2G, firstE, freeze, evRO]
end Go.Proofs.YtglelclmlkeheabGreatDoor.V

/- Depths, what is below some nodes, and their leaves: in plain terms. -/
namespace Go.Proofs.YtglelclmlkeheabGreatDoor.V
def depStep (i : Nat) (o : List Int) (n : Int) : List Int := o.set i (if o.getD i 0 < o.getD n.toNat 0 + 1 then o.getD n.toNat 0 + 1 else o.getD i 0)
def depArgs (i : Nat) : List Int → List Int → List Int
  | [], o => o
  | n :: r, o => depArgs i r (depStep i o n)
structure DepI (k : Nat) (o : List Int) : Prop where
  len : o.length = k
  ok : ∀ j : Nat, j < k → 0 ≤ o.getD j 0 ∧ o.getD j 0 ≤ j
theorem getD_set {α : Type} (o : List α) (i j : Nat) (v d : α) (hi : i < o.length) : (o.set i v).getD j d = if i = j then v else o.getD j d := by
  simp only [List.getD, List.getElem?_set]
  by_cases h : i = j
  · subst h; simp [hi]
  · simp [h]
theorem DepI.step {k : Nat} {o : List Int} (h : DepI k o) {i : Nat} {n : Int} (hi : i < k) (hn : 0 ≤ n ∧ n < i) : DepI k (depStep i o n) := by
  have hl := h.len
  refine ⟨by unfold depStep; simp [hl], fun j hj => ?_⟩
  unfold depStep
  rw [getD_set _ _ _ _ _ (by omega)]
  have h1 := h.ok i hi
  have h2 := h.ok n.toNat (by omega)
  have h3 := h.ok j hj
  split
  · subst j
    split <;> omega
  · exact h3
theorem DepI.args {k : Nat} {i : Nat} (hi : i < k) : ∀ (l : List Int) {o : List Int}, DepI k o → (∀ n ∈ l, 0 ≤ n ∧ n < (i : Int)) → DepI k (depArgs i l o)
  | [], _, h, _ => h
  | n :: r, _, h, hn => DepI.args hi r (h.step hi (hn n (by simp))) fun m hm => hn m (by simp [hm])
theorem DepI.zero (k : Nat) : DepI k (List.replicate k 0) := ⟨by simp, fun j hj => by simp [List.getD, hj]⟩
def markAll : List Int → List Bool → List Bool
  | [], o => o
  | n :: r, o => markAll r (o.set n.toNat true)
theorem markAll_len : ∀ (l : List Int) (o : List Bool), (markAll l o).length = o.length
  | [], _ => rfl
  | n :: r, o => by rw [markAll, markAll_len r]; simp
theorem markAll_get : ∀ (l : List Int) (o : List Bool) (j : Nat), j < o.length → (markAll l o).getD j false = (o.getD j false || l.any fun n => n.toNat = j)
  | [], o, j, h => by simp [markAll]
  | n :: r, o, j, h => by
    rw [markAll, markAll_get r _ j (by simpa using h)]
    by_cases hn : n.toNat = j
    · rw [getD_set _ _ _ _ _ (by omega)]; simp [hn]
    · have : (o.set n.toNat true).getD j false = o.getD j false := by simp only [List.getD, List.getElem?_set]; simp [hn]
      rw [this]; simp [hn]
def belDown (nodes : List Nod) : Nat → List Bool → List Bool
  | 0, o => o
  | k + 1, o => belDown nodes k (match nodes[k]? with | some x => if o.getD k false then markAll x.args o else o | none => o)
theorem belDown_len (nodes : List Nod) : ∀ (k : Nat) (o : List Bool), (belDown nodes k o).length = o.length
  | 0, _ => rfl
  | k + 1, o => by
    rw [belDown, belDown_len nodes k]
    split
    · split
      · exact markAll_len _ _
      · rfl
    · rfl
def belN (nodes : List Nod) (from_ : List Int) : List Bool := belDown nodes nodes.length (markAll from_ (List.replicate nodes.length false))
theorem belN_len (nodes : List Nod) (from_ : List Int) : (belN nodes from_).length = nodes.length := by
  unfold belN; rw [belDown_len, markAll_len]; simp
end Go.Proofs.YtglelclmlkeheabGreatDoor.V

/- Errors of values and of nodes that are named. -/
namespace Go.Proofs.YtglelclmlkeheabGreatDoor.V
open Go (IntKind BinOp UnOp)
variable {π : Id}
def fromE (nodes : List Nod) (fr : List Int) : Int := unlE (argsIn nodes.length fr) 6
def namedE (leaves : List Int) (nodes : List Nod) (fr : List Int) : Int := if (checkE leaves nodes).2 ≠ 0 then (checkE leaves nodes).2 else fromE nodes fr
theorem e_namedErr1 (nodes : List Nod) (hnl : nodes.length ≤ 100000) (n : Int) : EE π n_graph_namedErr_1 [.p (I n), .p (.ptr [encNodes nodes])] [] = some (.p (.bool (!within n 0 ((nodes.length : Int) - 1))), []) := by
  have hw : IntKind.i64.wrap ((nodes.length : Int) - 1) = nodes.length - 1 := w64 ⟨by omega, by omega⟩
  simp [e_graph_namedErr_1, run_eq, c_graph_namedErr_1, hw, e_withinG]
theorem e_namedErr (leaves : List Int) (nodes : List Nod) (fr : List Int) (hnl : nodes.length ≤ 100000) (hfl : fr.length ≤ 1000) (hal : ∀ x ∈ nodes, x.args.length ≤ 1000) :
    EE π n_graph_namedErr [.p (encInts leaves), .p (encNodes nodes), .p (encInts fr)] [] = some (.p (I (namedE leaves nodes fr)), []) := by
  have hge := fun π => e_graphErr (π := π) leaves nodes hal
  have hcf := fun π => e_ContainsFuncI (π := π) fr (by simp only [top63]; omega) (f := n_graph_namedErr_1) (caps := [.ptr [encNodes nodes]]) (p := fun n => !within n 0 ((nodes.length : Int) - 1)) (fun n _ => by simpa using e_namedErr1 nodes hnl n)
  have hany : (fr.any fun n => !within n 0 ((nodes.length : Int) - 1)) = !argsIn nodes.length fr := by unfold argsIn; rw [List.any_eq_not_all_not]; simp
  rw [hany] at hcf
  unfold namedE fromE
  generalize (checkE leaves nodes).2 = c at *
  generalize argsIn nodes.length fr = b at *
  by_cases hc : c = 0 <;> simp [e_graph_namedErr, run_eq, c_graph_namedErr, hge, hcf, e_unlessG, e_first2G, firstE, hc, evRO, freeze]
  exact fun h => h.symm
theorem e_IsNode (nodes : List Nod) (hnl : nodes.length ≤ 100000) (n : Int) : EE π n_ratchetbase_IsNode [.p (encNodes nodes), .p (I n)] [] = some (.p (.bool (within n 0 ((nodes.length : Int) - 1))), []) := by
  have hw : IntKind.i64.wrap ((nodes.length : Int) - 1) = nodes.length - 1 := w64 ⟨by omega, by omega⟩
  simp [e_ratchetbase_IsNode, run_eq, c_ratchetbase_IsNode, hw, e_Within]
theorem fromErr_loop (nodes : List Nod) (hnl : nodes.length ≤ 100000) (fr : List Int) (hfl : fr.length ≤ 1000) :
    ∀ (suf pre : List Int) (y : Env × Sto), fr = pre ++ suf →
    mask [0, 1, 5] [] y = some ([(0, .p (encNodes nodes)), (1, .p (encInts fr)), (5, .p (I pre.length))], []) →
    kpO [] [4] [] (bkO 0 (iter (round EE iter π [] [0, 1, 5] c_ratchetref02_FromErr_L0) y)) = if argsIn nodes.length suf = true then some (.nm, [], []) else some (.rt, [(4, .p (I 6))], [])
  | [], pre, y, h, hm => by
    rw [loop_eq hm]
    have : fr = pre := by simpa using h
    simp [u_ratchetref02_FromErr_L0, b_ratchetref02_FromErr_L0, argsIn, ← this]
  | z :: suf, pre, y, h, hm => by
    rw [loop_eq hm]
    have hlen : pre.length < fr.length := by rw [h]; simp
    have hws := w_succ hlen (show fr.length ≤ top63 by simp only [top63]; omega)
    have hnext := fromErr_loop nodes hnl fr hfl suf (pre ++ [z])
    rw [show (pre ++ [z]).length = pre.length + 1 by simp] at hnext
    have hi := fun π => e_IsNode (π := π) nodes hnl z
    have ha : argsIn nodes.length (z :: suf) = (within z 0 ((nodes.length : Int) - 1) && argsIn nodes.length suf) := by simp [argsIn]
    rw [ha]
    generalize argsIn nodes.length suf = b at *
    generalize within z 0 ((nodes.length : Int) - 1) = c at *
    cases c with
    | true =>
      simp [u_ratchetref02_FromErr_L0, b_ratchetref02_FromErr_L0, lt_mid h, get_mid _ h, hi]
      exact hnext _ (by simp [h]) (by simp [hws])
    | false => simp [u_ratchetref02_FromErr_L0, b_ratchetref02_FromErr_L0, lt_mid h, get_mid _ h, hi]
theorem e_FromErr (nodes : List Nod) (fr : List Int) (hnl : nodes.length ≤ 100000) (hfl : fr.length ≤ 1000) :
    EE π n_ratchetref02_FromErr [.p (encNodes nodes), .p (encInts fr)] [] = some (.p (I (fromE nodes fr)), []) := by
  have hl := fromErr_loop (π := π) nodes hnl fr hfl fr []
  unfold fromE
  generalize argsIn nodes.length fr = b at *
  simp [e_ratchetref02_FromErr, run_eq, c_ratchetref02_FromErr]
  rw [hl _ rfl (by simp)]
  cases b <;> simp [unlE]
theorem isVal_loop (leaves values : List Int) (hlw : ∀ n ∈ leaves, 1 ≤ n ∧ n ≤ 16) (hl : values.length = leaves.length) (hvl : values.length ≤ 1000) :
    ∀ (suf pre : List Int) (y : Env × Sto), values = pre ++ suf →
    mask [0, 1, 5] [] y = some ([(0, .p (encInts leaves)), (1, .p (encInts values)), (5, .p (I pre.length))], []) →
    kpO [] [4] [] (bkO 0 (iter (round EE iter π [] [0, 1, 5] c_ratchetbase_IsValues_L0) y)) = if (eachE (fitE leaves) pre.length suf).2 = 0 then some (.nm, [], []) else some (.rt, [(4, .p (.bool false))], [])
  | [], pre, y, h, hm => by
    rw [loop_eq hm]
    have : values = pre := by simpa using h
    simp [u_ratchetbase_IsValues_L0, b_ratchetbase_IsValues_L0, eachE, ← this]
  | z :: suf, pre, y, h, hm => by
    rw [loop_eq hm]
    have hlen : pre.length < values.length := by rw [h]; simp
    have hlen2 : pre.length < leaves.length := by omega
    have hws := w_succ hlen (show values.length ≤ top63 by simp only [top63]; omega)
    have hnext := isVal_loop leaves values hlw hl hvl suf (pre ++ [z])
    rw [show (pre ++ [z]).length = pre.length + 1 by simp] at hnext
    have hlwi := hlw _ (List.getElem_mem hlen2)
    have hi := fun π => e_Fits (π := π) z leaves[pre.length] ⟨by omega, by omega⟩
    have hf : fitE leaves pre.length z = unlE (fitsB z leaves[pre.length]) 2 := by unfold fitE; simp [List.getD, hlen2]
    rw [eachE, hf]
    generalize fitsB z leaves[pre.length] = c at *
    cases c with
    | true =>
      simp [u_ratchetbase_IsValues_L0, b_ratchetbase_IsValues_L0, lt_mid h, get_mid _ h, hi, hlen2, evRO, unlE]
      exact hnext _ (by simp [h]) (by simp [hws])
    | false => simp [u_ratchetbase_IsValues_L0, b_ratchetbase_IsValues_L0, lt_mid h, get_mid _ h, hi, hlen2, evRO, unlE]
theorem eachE_two (leaves : List Int) : ∀ (l : List Int) (i : Nat), (eachE (fitE leaves) i l).2 ≠ 0 → (eachE (fitE leaves) i l).2 = 2
  | [], i, h => by simp [eachE] at h
  | x :: r, i, h => by
    rw [eachE] at h ⊢
    split
    · rename_i h0
      rw [if_pos h0] at h
      exact eachE_two leaves r _ h
    · rename_i h0
      unfold fitE unlE at *
      split at h0
      · exact absurd rfl h0
      · rename_i hb; exact if_neg hb
theorem e_ValuesErr (leaves values : List Int) (hlw : ∀ n ∈ leaves, 1 ≤ n ∧ n ≤ 16) (hvl : values.length ≤ 1000) :
    EE π n_ratchetref02_ValuesErr [.p (encInts leaves), .p (encInts values)] [] = some (.p (I (valuesE leaves values)), []) := by
  unfold valuesE
  by_cases hl : values.length = leaves.length
  · have hl' : (leaves.length : Int) = values.length := by omega
    have hlp := fun π => isVal_loop (π := π) leaves values hlw hl hvl values []
    have h2 := eachE_two leaves values 0
    simp only [List.length_nil] at hlp
    rw [if_neg (by simp [hl])]
    generalize (eachE (fitE leaves) 0 values).2 = c at *
    have hIs : ∀ π, EE π n_ratchetbase_IsValues [.p (encInts leaves), .p (encInts values)] [] = some (.p (.bool (decide (c = 0))), []) := fun π => by
      simp [e_ratchetbase_IsValues, run_eq, c_ratchetbase_IsValues, hl']
      rw [hlp π _ rfl (by simp)]
      by_cases hc : c = 0 <;> simp [hc]
    by_cases hc : c = 0
    · simp [e_ratchetref02_ValuesErr, run_eq, c_ratchetref02_ValuesErr, hl', hIs, hc]
    · simp [e_ratchetref02_ValuesErr, run_eq, c_ratchetref02_ValuesErr, hl', hIs, hc, h2 hc]
  · have hl' : ¬ (leaves.length : Int) = values.length := by omega
    rw [if_pos hl]
    simp [e_ratchetref02_ValuesErr, run_eq, c_ratchetref02_ValuesErr, hl']
end Go.Proofs.YtglelclmlkeheabGreatDoor.V

/- What is below some nodes, in the program: a round. -/
namespace Go.Proofs.YtglelclmlkeheabGreatDoor.V
open Go (IntKind BinOp UnOp)
variable {π κ : Id}
abbrev bools (l : List Bool) : List PV := l.map PV.bool
abbrev rowB (i : Id) (nl : Option Bool) (L : List Bool) : Id × Blk := (i, .row false t_bool 1 nl (bools L))
abbrev frB (π : Id) (st : FSt) : Id × Blk := (2000000 :: π, .frm π 51 [(5, .ref (5 :: π) 0)] [27, 28] c_graph_below_R0A c_graph_below_R0B st)
abbrev k0W (π : Id) : List Id := [2000000 :: π, 1 :: 26 :: π, 5 :: π, 14 :: π]
abbrev k0V (π : Id) : List Id := [2000000 :: π, 5 :: π, 14 :: π]
abbrev stBr (π : Id) (o : List Bool) : Sto := [(5 :: π, .box false [.ap (14 :: π)]), rowB (14 :: π) (some false) o]
abbrev stBl (π : Id) (nodes : List Nod) (o : List Bool) : Sto := [(1 :: 26 :: π, .box false [.p (encNodes nodes)]), (5 :: π, .box false [.ap (14 :: π)]), rowB (14 :: π) (some false) o]
theorem set_same {α : Type} (l : List α) (i : Nat) (h : i < l.length) : l.set i l[i] = l := List.set_getElem_self h
theorem bel_loop1 (i : Nat) (b : Bool) (args : List Int) (hal : args.length ≤ 1000) (hin : ∀ n ∈ args, 0 ≤ n ∧ n < (i : Int)) :
    ∀ (suf pre : List Int) (o : List Bool) (y : Env × Sto), args = pre ++ suf → o[i]? = some b →
    mask [5, 8, 30, 31, 32] (k0V π) y = some ([(5, .ref (5 :: π) 0), (8, .p (I i)), (30, .p (encInts args)), (31, .p (I args.length)), (32, .p (I pre.length))], frB π .busy :: stBr π o) →
    kpO [] [] (k0V π) (bkO 4 (iter (round EE iter π (k0V π) [5, 8, 30, 31, 32] c_graph_below_L1) y)) = some (.nm, [], frB π .busy :: stBr π (if b = true then markAll suf o else o))
  | [], pre, o, y, h, hb, hm => by
    rw [loop_eq hm]
    have : args = pre := by simpa using h
    have hr : (if b = true then markAll [] o else o) = o := by cases b <;> rfl
    rw [hr]
    simp [u_graph_below_L1, b_graph_below_L1, ← this]
  | z :: suf, pre, o, y, h, hb, hm => by
    rw [loop_eq hm]
    have hlen : pre.length < args.length := by rw [h]; simp
    have hz := hin z (by rw [h]; simp)
    have hws := w_succ hlen (show args.length ≤ top63 by simp only [top63]; omega)
    have hi := (List.getElem?_eq_some_iff.1 hb).1
    have hbi := (List.getElem?_eq_some_iff.1 hb).2
    have hzl : z.toNat < o.length := by omega
    have hnext := bel_loop1 i b args hal hin suf (pre ++ [z])
    rw [show (pre ++ [z]).length = pre.length + 1 by simp] at hnext
    cases b with
    | true =>
      have hn := hnext (o.set z.toNat true)
      rw [if_pos rfl] at hn ⊢
      rw [markAll]
      generalize markAll suf (o.set z.toNat true) = R at *
      have hb' : (o.set z.toNat true)[i]? = some true := by rw [List.getElem?_set_ne (by omega)]; exact hb
      by_cases hv : o[z.toNat] = true
      · simp [u_graph_below_L1, b_graph_below_L1, lt_mid h, get_mid _ h, hz.1, hi, hbi, hzl, hv, evRO]
        refine hn _ (by simp [h]) hb' ?_
        simp [hws]
        rfl
      · simp [u_graph_below_L1, b_graph_below_L1, lt_mid h, get_mid _ h, hz.1, hi, hbi, hzl, hv, evRO]
        refine hn _ (by simp [h]) hb' ?_
        simp [hws]
        rfl
    | false =>
      have hn := hnext o
      rw [if_neg (by decide)] at hn ⊢
      have hs : (bools o).set z.toNat (PV.bool o[z.toNat]) = bools o := by rw [← List.map_set, set_same o z.toNat hzl]
      by_cases hv : o[z.toNat] = true
      · simp [u_graph_below_L1, b_graph_below_L1, lt_mid h, get_mid _ h, hz.1, hi, hbi, hzl, hv, evRO]
        refine hn _ (by simp [h]) hb ?_
        simp [hws]
        rw [hv] at hs
        exact hs
      · simp [u_graph_below_L1, b_graph_below_L1, lt_mid h, get_mid _ h, hz.1, hi, hbi, hzl, hv, evRO]
        refine hn _ (by simp [h]) hb ?_
        simp [hws]
        rw [show o[z.toNat] = false by simpa using hv] at hs
        exact hs
theorem e_yldB {args : List AV} {s : Sto} : EE κ yieldF args s = runY EE iter args s := E_yld
theorem e_roundB (i : Nat) (x : Nod) (b : Bool) (o : List Bool) (hal : x.args.length ≤ 1000) (hin : ∀ n ∈ x.args, 0 ≤ n ∧ n < (i : Int)) (hb : o[i]? = some b) :
    EE κ yieldF [.p (I i), .p (encNode x), .yld (2000000 :: π)] (frB π .ready :: stBr π o) = some (.p (.bool true), frB π .ready :: stBr π (if b = true then markAll x.args o else o)) := by
  have hl := bel_loop1 (π := π) i b x.args hal hin x.args [] o
  rw [e_yldB]
  generalize (if b = true then markAll x.args o else o) = R at *
  simp [runY, u_graph_below_R0A, b_graph_below_R0A, u_graph_below_R0B, b_graph_below_R0B]
  rw [hl _ rfl hb (by simp)]
  simp
end Go.Proofs.YtglelclmlkeheabGreatDoor.V

/- What is below some nodes, in the program. -/
namespace Go.Proofs.YtglelclmlkeheabGreatDoor.V
open Go (IntKind BinOp UnOp)
variable {π κ : Id}
theorem evC_rf {C : Call} {L : Loop} {k0 : List Id} {e : Env} {s : Sto} (g : Opd) (nt site : Nat) (live ps : List Nat) (a b : IR) : evC C L π k0 (.rf g nt site live ps a b) e s =
    if s.has ((2000000 + site) :: π) then none else match fnOf (g.get e) (.yld ((2000000 + site) :: π)) with
    | some (k, args) => if k = yieldF then none else match C ((3000000 + site) :: π) k args (((2000000 + site) :: π, .frm π nt (e.keep live) ps a b .ready) :: s) with
      | some (_, s1) => rfO k0 ((2000000 + site) :: π) ((rowIds s).foldl Env.kill e) s1
      | none => none
    | none => none := by
  rw [evC] <;> rfl
theorem back_loopB (nodes : List Nod) (hnl : nodes.length ≤ 100000) (hal : ∀ x ∈ nodes, x.args.length ≤ 1000) (hin : ∀ (i : Nat) (x : Nod), nodes[i]? = some x → ∀ n ∈ x.args, 0 ≤ n ∧ n < (i : Int)) : ∀ (k : Nat) (o : List Bool) (x : Env × Sto), k ≤ nodes.length → o.length = nodes.length →
    mask [0, 1, 3] (k0W π) x = some ([(0, .yld (2000000 :: π)), (1, .ref (1 :: 26 :: π) 0), (3, .p (I ((k : Int) - 1)))], frB π .ready :: stBl π nodes o) →
    kpO [] [] (k0W π) (bkO 0 (iter (round EE iter κ (k0W π) [0, 1, 3] c_slices_Backward_api_Node_api_Node_1_L0) x)) = some (.nm, [], frB π .ready :: stBl π nodes (belDown nodes k o))
  | 0, o, x, hk, ho, hm => by
    rw [loop_eq hm]
    simp [u_slices_Backward_api_Node_api_Node_1_L0, b_slices_Backward_api_Node_api_Node_1_L0, belDown]
  | k + 1, o, x, hk, ho, hm => by
    rw [loop_eq hm]
    have hkl : k < nodes.length := by omega
    have hpk : nodes[k]? = some nodes[k] := List.getElem?_eq_getElem hkl
    generalize hp : nodes[k] = p at hpk
    have hmem : p ∈ nodes := List.mem_of_getElem? hpk
    have hko : k < o.length := by omega
    have hb : o[k]? = some (o.getD k false) := by simp [List.getD, hko]
    have hc := fun κ => e_roundB (κ := κ) (π := π) k p (o.getD k false) o (hal p hmem) (hin k p hpk) hb
    have hw : IntKind.i64.wrap ((k : Int) - 1) = (k : Int) - 1 := w64 ⟨by omega, by omega⟩
    have hnext := back_loopB nodes hnl hal hin k (if o.getD k false = true then markAll p.args o else o)
    have hlen : (if o.getD k false = true then markAll p.args o else o).length = nodes.length := by
      split
      · rw [markAll_len]; exact ho
      · exact ho
    rw [belDown, hpk]
    simp only
    generalize (if o.getD k false = true then markAll p.args o else o) = R at *
    have e1 : ((k + 1 : Nat) : Int) - 1 = k := by omega
    rw [e1] at *
    simp [u_slices_Backward_api_Node_api_Node_1_L0, b_slices_Backward_api_Node_api_Node_1_L0, hkl, hp, hc]
    refine hnext _ (by omega) hlen ?_
    simp [hw]
theorem e_backB (nodes : List Nod) (hnl : nodes.length ≤ 100000) (hal : ∀ x ∈ nodes, x.args.length ≤ 1000) (hin : ∀ (i : Nat) (x : Nod), nodes[i]? = some x → ∀ n ∈ x.args, 0 ≤ n ∧ n < (i : Int)) (o : List Bool) (ho : o.length = nodes.length) :
    EE κ n_slices_Backward_api_Node_api_Node_1 [.yld (2000000 :: π), .ref (1 :: 26 :: π) 0] (frB π .ready :: stBl π nodes o) = some (.p (.tup []), frB π .ready :: stBl π nodes (belDown nodes nodes.length o)) := by
  have hlp := back_loopB (κ := κ) (π := π) nodes hnl hal hin nodes.length o
  have hw : IntKind.i64.wrap ((nodes.length : Int) - 1) = (nodes.length : Int) - 1 := w64 ⟨by omega, by omega⟩
  generalize belDown nodes nodes.length o = R' at *
  simp [e_slices_Backward_api_Node_api_Node_1, run_eq, c_slices_Backward_api_Node_api_Node_1, hw]
  rw [hlp _ (by omega) ho (by simp)]
  simp
theorem mark_loop (nodes : List Nod) (fr : List Int) (hfl : fr.length ≤ 1000) (hin : ∀ n ∈ fr, 0 ≤ n ∧ n < (nodes.length : Int)) :
    ∀ (suf pre : List Int) (o : List Bool) (y : Env × Sto), fr = pre ++ suf → o.length = nodes.length →
    mask [0, 4, 5, 15, 16, 17] [] y = some ([(0, .p (encNodes nodes)), (4, .p (.sl 1 (some true) [])), (5, .ref (5 :: π) 0), (15, .p (encInts fr)), (16, .p (I fr.length)), (17, .p (I pre.length))], [(5 :: π, .box false [.ap (14 :: π)]), rowB (14 :: π) (some false) o]) →
    kpO [0, 4, 5] [4] [] (bkO 0 (iter (round EE iter π [] [0, 4, 5, 15, 16, 17] c_graph_below_L0) y)) = some (.nm, [(0, .p (encNodes nodes)), (4, .p (.sl 1 (some true) [])), (5, .ref (5 :: π) 0)], [(5 :: π, .box false [.ap (14 :: π)]), rowB (14 :: π) (some false) (markAll suf o)])
  | [], pre, o, y, h, ho, hm => by
    rw [loop_eq hm]
    have : fr = pre := by simpa using h
    simp [u_graph_below_L0, b_graph_below_L0, markAll, ← this]
  | z :: suf, pre, o, y, h, ho, hm => by
    rw [loop_eq hm]
    have hlen : pre.length < fr.length := by rw [h]; simp
    have hz := hin z (by rw [h]; simp)
    have hws := w_succ hlen (show fr.length ≤ top63 by simp only [top63]; omega)
    have hzl : z.toNat < o.length := by omega
    have hnext := mark_loop nodes fr hfl hin suf (pre ++ [z]) (o.set z.toNat true)
    rw [show (pre ++ [z]).length = pre.length + 1 by simp] at hnext
    rw [markAll]
    generalize markAll suf (o.set z.toNat true) = R at *
    simp [u_graph_below_L0, b_graph_below_L0, lt_mid h, get_mid _ h, hz.1, hzl]
    refine hnext _ (by simp [h]) (by simpa using ho) ?_
    simp [hws]
    rfl
theorem e_below (nodes : List Nod) (hnl : nodes.length ≤ 100000) (hal : ∀ x ∈ nodes, x.args.length ≤ 1000) (hin : ∀ (i : Nat) (x : Nod), nodes[i]? = some x → ∀ n ∈ x.args, 0 ≤ n ∧ n < (i : Int)) (fr : List Int) (hfl : fr.length ≤ 1000) (hfin : ∀ n ∈ fr, 0 ≤ n ∧ n < (nodes.length : Int)) :
    EE π n_graph_below [.p (encNodes nodes), .p (encInts fr)] [] = some (.ap (14 :: π), [rowB (14 :: π) (some false) (belN nodes fr)]) := by
  have hml := mark_loop (π := π) nodes fr hfl hfin fr [] (List.replicate nodes.length false)
  have hlen : (markAll fr (List.replicate nodes.length false)).length = nodes.length := by rw [markAll_len]; simp
  have hbk := fun κ => e_backB (κ := κ) (π := π) nodes hnl hal hin (markAll fr (List.replicate nodes.length false)) hlen
  have hro : nodes.length ≤ room := by simp only [room]; omega
  have hrl : (List.replicate nodes.length false).length = nodes.length := by simp
  have hrep : List.replicate nodes.length (PV.bool false) = bools (List.replicate nodes.length false) := by simp
  unfold belN
  generalize List.replicate nodes.length false = o at *
  generalize markAll fr o = o1 at *
  generalize belDown nodes nodes.length o1 = R at *
  simp [e_graph_below, run_eq, c_graph_below, hro, hrep]
  rw [hml _ rfl hrl (by simp)]
  simp [e_slices_Backward_api_Node_api_Node, c_slices_Backward_api_Node_api_Node, run_eq, evC_rf, fnOf, y_slices_Backward_api_Node_api_Node_1]
  rw [hbk]
  simp
end Go.Proofs.YtglelclmlkeheabGreatDoor.V

/- What is below some nodes, by the reference. -/
namespace Go.Proofs.YtglelclmlkeheabGreatDoor.V
open Go (IntKind BinOp UnOp)
variable {π κ : Id}
end Go.Proofs.YtglelclmlkeheabGreatDoor.V

/- A cone, in the program and by the reference. -/
namespace Go.Proofs.YtglelclmlkeheabGreatDoor.V
open Go (IntKind BinOp UnOp)
variable {π : Id}
theorem byN_set {to : List Int} {x : Nod} (h : ∀ n ∈ x.args, 0 ≤ n ∧ n < (to.length : Int)) (c : Int) (k : Nat) : byN ((to ++ [c]) ++ List.replicate k 0) x = byN to x := by
  rw [byN_zeros]
  unfold byN
  congr 1
  exact List.map_congr_left fun n hn => by
    have := h n hn
    rw [List.getD_eq_getElem?_getD, List.getD_eq_getElem?_getD, List.getElem?_append_left (by omega)]
theorem e_movedT (x : Nod) (hal : x.args.length ≤ 1000) (T : List Int) (h : ∀ n ∈ x.args, 0 ≤ n ∧ n < (T.length : Int)) :
    EE π n_graph_moved [.p (encNode x), .p (.fn n_graph_mapped_1 [.ptr [.sl 1 none (ints T)]])] [] = some (.agg [.p (I (byN T x).op), .p (I (byN T x).width), .ap (1005 :: π), .p (I (byN T x).value)], [rowI (1005 :: π) (flagE (byN T x).args) (byN T x).args]) := by
  have h1 := e_moved (π := π) x hal (f := n_graph_mapped_1) (caps := [.ptr [.sl 1 none (ints T)]]) (g := fun n => T.getD n.toNat 0) (fun n hn => by simpa using e_mapped1 n T none (h n hn))
  rw [show flagE x.args = flagE (byN T x).args from (flagE_map _ _).symm] at h1
  exact h1
set_option maxHeartbeats 1000000 in
theorem cone_loop {nodes : List Nod} (hnl : nodes.length ≤ 400) (hal : ∀ x ∈ nodes, x.args.length ≤ 1000) (hin : ∀ (i : Nat) (x : Nod), nodes[i]? = some x → ∀ n ∈ x.args, 0 ≤ n ∧ n < (i : Int)) (fr : List Int) (B : List Bool) :
    ∀ (suf pre : List Nod) (Bs Bp : List Bool) (out : List Nod) (to : List Int) (y : Env × Sto), nodes = pre ++ suf → B = Bp ++ Bs → Bp.length = pre.length → Bs.length = suf.length → to.length = pre.length → out.length ≤ pre.length →
    mask [1, 2, 10, 11, 29, 30, 31] [] y = some ([(1, .p (encNodes nodes)), (2, .p (encInts fr)), (10, .ap (26 :: π)), (11, .ap (1011 :: π)), (29, .ap (14 :: 29 :: π)), (30, .p (I B.length)), (31, .p (I pre.length))], [rowN (1011 :: π) (flagE out) (out.map encM), rowB (14 :: 29 :: π) (some false) B, rowI (26 :: π) (some false) (to ++ List.replicate suf.length 0)]) →
    kpO [2, 10, 11] [6, 7, 8] [] (bkO 0 (iter (round EE iter π [] [1, 2, 10, 11, 29, 30, 31] c_graph_ConeOf_L0) y)) = some (.nm, [(2, .p (encInts fr)), (10, .ap (26 :: π)), (11, .ap (1011 :: π))], [rowN (1011 :: π) (flagE (coneN Bs suf out to).1) ((coneN Bs suf out to).1.map encM), rowI (26 :: π) (some false) (coneN Bs suf out to).2])
  | [], pre, Bs, Bp, out, to, y, h, hB, hBp, hBs, hto, hol, hm => by
    rw [loop_eq hm]
    have : Bs = [] := List.length_eq_zero_iff.1 (by simpa using hBs)
    subst this
    have hbl : B.length = pre.length := by rw [hB]; simpa using hBp
    have : coneN [] [] out to = (out, to) := rfl
    rw [this]
    simp [u_graph_ConeOf_L0, b_graph_ConeOf_L0, hbl]
  | z :: suf, pre, b :: Bs, Bp, out, to, y, h, hB, hBp, hBs, hto, hol, hm => by
    rw [loop_eq hm]
    have hlen : pre.length < nodes.length := by rw [h]; simp
    have hx : nodes[pre.length]? = some z := by rw [h]; simp
    have hza := hal z (by rw [h]; simp)
    have hzi : ∀ n ∈ z.args, 0 ≤ n ∧ n < (to.length : Int) := fun n hn => by have := hin _ z hx n hn; omega
    have hws := w_succ hlen (show nodes.length ≤ top63 by simp only [top63]; omega)
    have hBb : B[pre.length]? = some b := by rw [hB, ← hBp]; simp
    have hBl : pre.length < B.length := (List.getElem?_eq_some_iff.1 hBb).1
    have hBg : B[pre.length] = b := (List.getElem?_eq_some_iff.1 hBb).2
    have hroom : out.length + 1 ≤ room := by simp only [room]; omega
    have hRl : (out.map encM).length = out.length := by simp
    have hset := zeros_set to suf.length
    rw [hto] at hset
    have hT : pre.length < (to ++ List.replicate (suf.length + 1) 0).length := by simp [hto]
    have hmv := fun π => e_movedT (π := π) z hza ((to ++ [(out.length : Int)]) ++ List.replicate suf.length 0) (fun n hn => by have := hzi n hn; simp; omega)
    rw [byN_set hzi] at hmv
    have hnext := cone_loop hnl hal hin fr B suf (pre ++ [z]) Bs (Bp ++ [b])
    have hkeep := fun o t y => hnext o t y (by simp [h]) (by simp [hB]) (by simp [hBp]) (by simpa using hBs)
    rw [← hset] at hmv
    have hset0 := hset 0
    have hsetL := hset (out.length : Int)
    have hTl : (to ++ List.replicate (suf.length + 1) 0).length = to.length + (suf.length + 1) := by simp
    rw [show (pre ++ [z]).length = pre.length + 1 by simp] at hkeep
    rw [show (List.replicate (z :: suf).length (0 : Int)) = List.replicate (suf.length + 1) 0 from rfl]
    unfold coneN
    have hcl : ∀ (l : List Int), (ints l).all (fun e => e.cells.all PV.clean) = true := fun l => by
      rw [List.all_eq_true]
      intro e he
      obtain ⟨n, _, rfl⟩ := List.mem_map.1 he
      rfl
    cases b with
    | true =>
      have hnx := hkeep (out ++ [byN to z]) (to ++ [(out.length : Int)])
      simp only [flagE_snoc, List.map_append, List.map_cons, List.map_nil] at hnx
      rw [if_pos rfl]
      rw [← hsetL] at hnx
      generalize byN to z = x at *
      generalize out.map encM = R at *
      have hsi : (ints (to ++ List.replicate (suf.length + 1) 0)).set pre.length (PV.int .i64 out.length) = ints ((to ++ List.replicate (suf.length + 1) 0).set pre.length (out.length : Int)) := (List.map_set ..).symm
      generalize (to ++ List.replicate (suf.length + 1) 0).set pre.length (out.length : Int) = T' at *
      generalize to ++ List.replicate (suf.length + 1) 0 = T at *
      simp [u_graph_ConeOf_L0, b_graph_ConeOf_L0, hBl, hBg, lt_mid h, get_mid _ h, hT, hsi, hmv, hroom, hRl, PV.setc, freeze, evRO, toPV, reach, AV.clean, AV.clean.AV.cleanL, Blk.clean, PV.clean]
      exact hnx _ (by simp [hto]) (by simp; omega) (by simp [hws])
    | false =>
      rw [if_neg (by decide)]
      have hnx := hkeep out (to ++ [0])
      rw [show to ++ [0] ++ List.replicate suf.length 0 = to ++ List.replicate (suf.length + 1) 0 by simp [List.replicate_succ]] at hnx
      generalize out.map encM = R at *
      generalize to ++ List.replicate (suf.length + 1) 0 = T at *
      simp [u_graph_ConeOf_L0, b_graph_ConeOf_L0, hBl, hBg]
      exact hnx _ (by simp [hto]) (by omega) (by simp [hws])
  | _ :: _, _, [], _, _, _, _, _, _, _, hBs, _, _, _ => by simp at hBs
theorem coneN_len : ∀ (Bs : List Bool) (l out : List Nod) (to : List Int), Bs.length = l.length → (coneN Bs l out to).2.length = to.length + l.length
  | [], [], out, to, _ => by simp [coneN]
  | b :: Bs, x :: r, out, to, h => by
    unfold coneN
    split
    · rw [coneN_len Bs r _ _ (by simpa using h)]; simp; omega
    · rw [coneN_len Bs r _ _ (by simpa using h)]; simp; omega
  | [], _ :: _, _, _, h => by simp at h
  | _ :: _, [], _, _, h => by simp at h
abbrev endsN (to fr : List Int) : List Int := fr.map fun n => to.getD n.toNat 0
theorem ends_loop (out : List PV) (fo : Option Bool) (to : List Int) (hto : to.length ≤ 1000) (fr : List Int) (hfl : fr.length ≤ 1000) (hin : ∀ n ∈ fr, 0 ≤ n ∧ n < (to.length : Int)) :
    ∀ (suf pre : List Int) (y : Env × Sto), fr = pre ++ suf →
    mask [10, 11, 14, 53, 54, 55] [] y = some ([(10, .ap (26 :: π)), (11, .ap (1011 :: π)), (14, .ap (1014 :: π)), (53, .p (encInts fr)), (54, .p (I fr.length)), (55, .p (I pre.length))], [rowI (1014 :: π) (flagE pre) (endsN to pre), rowN (1011 :: π) fo out, rowI (26 :: π) (some false) to]) →
    kpO [11, 14] [6, 7, 8] [] (bkO 2 (iter (round EE iter π [] [10, 11, 14, 53, 54, 55] c_graph_ConeOf_L1) y)) = some (.nm, [(11, .ap (1011 :: π)), (14, .ap (1014 :: π))], [rowI (1014 :: π) (flagE fr) (endsN to fr), rowN (1011 :: π) fo out])
  | [], pre, y, h, hm => by
    rw [loop_eq hm]
    have : fr = pre := by simpa using h
    simp [u_graph_ConeOf_L1, b_graph_ConeOf_L1, ← this]
  | z :: suf, pre, y, h, hm => by
    rw [loop_eq hm]
    have hlen : pre.length < fr.length := by rw [h]; simp
    obtain ⟨hz0, hz1⟩ := hin z (by rw [h]; simp)
    have hlt : z.toNat < to.length := by omega
    have hgd : to.getD z.toNat 0 = to[z.toNat] := by simp [List.getD, hlt]
    have hws := w_succ hlen (show fr.length ≤ top63 by simp only [top63]; omega)
    have hroom : (endsN to pre).length + 1 ≤ room := by rw [List.length_map]; simp only [room]; omega
    have hnext := ends_loop out fo to hto fr hfl hin suf (pre ++ [z])
    rw [show (pre ++ [z]).length = pre.length + 1 by simp, flagE_snoc, show endsN to (pre ++ [z]) = endsN to pre ++ [to.getD z.toNat 0] by simp, hgd] at hnext
    generalize endsN to pre = E at *
    generalize endsN to fr = EF at *
    simp [u_graph_ConeOf_L1, b_graph_ConeOf_L1, lt_mid h, get_mid _ h, hz0, hz1, hlt, hroom]
    exact hnext _ (by simp [h]) (by simp [hws])
abbrev coneG (nodes : List Nod) (fr : List Int) : List Nod × List Int := coneN (belN nodes fr) nodes [] []
theorem e_ConeOf (leaves : List Int) (nodes : List Nod) (fr : List Int) (hnl : nodes.length ≤ 1000) (hfl : fr.length ≤ 1000) (hal : ∀ x ∈ nodes, x.args.length ≤ 1000) :
    EE π n_graph_ConeOf [.p (encInts leaves), .p (encNodes nodes), .p (encInts fr)] [] = if namedE leaves nodes fr = 0 then some (.tup [.ap (1011 :: π), .ap (1014 :: π), .p (I 0)], [rowI (1014 :: π) (flagE fr) (endsN (coneG nodes fr).2 fr), rowN (1011 :: π) (flagE (coneG nodes fr).1) ((coneG nodes fr).1.map encM)])
      else some (.p (.tup [.sl 4 (some true) [], .sl 1 (some true) [], I (namedE leaves nodes fr)]), []) := by
  have hge := fun π => e_namedErr (π := π) leaves nodes fr (by omega) hfl hal
  by_cases hc : namedE leaves nodes fr = 0
  · rw [if_pos hc]
    rw [hc] at hge
    unfold namedE at hc
    split at hc
    · rename_i h; exact absurd hc h
    · rename_i h1
      have h1 : (checkE leaves nodes).2 = 0 := by simpa using h1
      have hfin : ∀ n ∈ fr, 0 ≤ n ∧ n < (nodes.length : Int) := fun n hn => by
        have := within_iff.1 (List.all_eq_true.1 ((unlE_z (by decide)).1 hc) n hn)
        omega
      have hin : ∀ (i : Nat) (x : Nod), nodes[i]? = some x → ∀ n ∈ x.args, 0 ≤ n ∧ n < (i : Int) := fun i x hx => args_in h1 hx
      have hnl4 := (checkE_leaves h1).2.1
      have hbe := fun π => e_below (π := π) nodes (by omega) hal hin fr hfl hfin
      have hbl := belN_len nodes fr
      have hlp := cone_loop (π := π) hnl4 hal hin fr (belN nodes fr) nodes [] (belN nodes fr) [] [] []
      have hcl := coneN_len (belN nodes fr) nodes [] [] hbl
      simp only [List.length_nil, Nat.zero_add] at hcl
      have hel := fun o fo => ends_loop (π := π) o fo (coneG nodes fr).2 (by rw [hcl]; omega) fr hfl (fun n hn => by rw [hcl]; exact hfin n hn) fr []
      have hro : nodes.length ≤ room := by simp only [room]; omega
      unfold coneG at *
      generalize coneN (belN nodes fr) nodes [] [] = R at *
      generalize belN nodes fr = B at *
      simp [e_graph_ConeOf, run_eq, c_graph_ConeOf, hge, hbe, hro, thaw, thaw1, freeze, evRO]
      rw [hlp _ rfl rfl rfl hbl rfl (by simp) (by simp [flagE])]
      simp [thaw, thaw1]
      rw [hel (R.1.map encM) (flagE R.1) _ rfl (by simp [flagE])]
      simp
  · rw [if_neg hc]
    simp [e_graph_ConeOf, run_eq, c_graph_ConeOf, hge, hc, freeze, evRO]
end Go.Proofs.YtglelclmlkeheabGreatDoor.V

/- Graphs made out of a graph: in plain terms, what keeps values and validity. -/
namespace Go.Proofs.YtglelclmlkeheabGreatDoor.V
open Go (IntKind BinOp UnOp)
abbrev InG (nodes : List Nod) : Prop := ∀ (i : Nat) (x : Nod), nodes[i]? = some x → ∀ n ∈ x.args, 0 ≤ n ∧ n < (i : Int)
structure Sol (nodes : List Nod) (L V : List Int) : Prop where
  len : V.length = nodes.length
  eq : ∀ i x, nodes[i]? = some x → V.getD i 0 = valN nodes L V x
theorem argsOf_congr {V W : List Int} {l : List Int} (h : ∀ n ∈ l, V.getD n.toNat 0 = W.getD n.toNat 0) : argsOf V l = argsOf W l := List.map_congr_left h
theorem valN_congr {nodes : List Nod} {L V W : List Int} {x : Nod} (h : ∀ n ∈ x.args, V.getD n.toNat 0 = W.getD n.toNat 0) : valN nodes L V x = valN nodes L W x := by
  unfold valN
  rw [argsOf_congr h]
theorem appK_args {x y : Nod} (hw : y.width = x.width) (hv : y.value = x.value) (k : Nat) (W A : List Int) : appK k y W A = appK k x W A := by
  unfold appK
  split <;> simp only [hw, hv]
theorem getD_app {α : Type} (a b : List α) (i : Nat) (d : α) (h : i < a.length) : (a ++ b).getD i d = a.getD i d := by
  simp [List.getD, List.getElem?_append_left h]
theorem vals_sol_aux {nodes : List Nod} {L : List Int} (hin : InG nodes) : ∀ (suf pre : List Nod) (vs : List Int), nodes = pre ++ suf → vs.length = pre.length → (∀ i x, i < pre.length → nodes[i]? = some x → vs.getD i 0 = valN nodes L vs x) → Sol nodes L (valsN nodes L suf vs)
  | [], pre, vs, h, hl, hp => by
    have : nodes = pre := by simpa using h
    rw [valsN]
    exact ⟨by rw [hl, this], fun i x hx => hp i x (by rw [← this]; exact (List.getElem?_eq_some_iff.1 hx).1) hx⟩
  | z :: suf, pre, vs, h, hl, hp => by
    rw [valsN]
    refine vals_sol_aux hin suf (pre ++ [z]) _ (by simp [h]) (by simp [hl]) fun i x hi hx => ?_
    have hg (n : Int) (hn : n ∈ x.args) (hle : i ≤ pre.length) : vs.getD n.toNat 0 = (vs ++ [valN nodes L vs z]).getD n.toNat 0 := by
      have := hin i x hx n hn
      rw [getD_app _ _ _ _ (by omega)]
    rw [List.length_append, List.length_singleton] at hi
    by_cases hlt : i < pre.length
    · rw [getD_app _ _ _ _ (by omega), hp i x hlt hx]
      exact valN_congr fun n hn => hg n hn (by omega)
    · have : i = pre.length := by omega
      subst this
      have hz : x = z := by
        rw [h] at hx
        simpa using hx.symm
      subst hz
      rw [show (vs ++ [valN nodes L vs x]).getD pre.length 0 = valN nodes L vs x by simp [List.getD, ← hl]]
      exact valN_congr fun n hn => hg n hn (by omega)
theorem vals_sol {nodes : List Nod} {L : List Int} (hin : InG nodes) : Sol nodes L (valsN nodes L nodes []) :=
  vals_sol_aux hin nodes [] [] rfl rfl fun i x hi => absurd hi (by simp)
theorem sol_uniq {nodes : List Nod} {L V W : List Int} (hin : InG nodes) (h1 : Sol nodes L V) (h2 : Sol nodes L W) : V = W := by
  have key : ∀ i, i < nodes.length → V.getD i 0 = W.getD i 0 := by
    intro i
    induction i using Nat.strongRecOn with
    | _ i ih =>
      intro hi
      have hx : nodes[i]? = some nodes[i] := List.getElem?_eq_getElem hi
      rw [h1.eq i _ hx, h2.eq i _ hx]
      exact valN_congr fun n hn => by
        have := hin i _ hx n hn
        exact ih n.toNat (by omega) (by omega)
  have hl1 := h1.len
  have hl2 := h2.len
  apply List.ext_getElem (by omega)
  intro i ha hb
  have := key i (by omega)
  simpa [List.getD, ha, hb] using this
theorem hom_vals {nodes a : List Nod} {L V W : List Int} {m : Nat → Int} {P : Nat → Prop} (hin : InG nodes) (h1 : Sol nodes L V) (h2 : Sol a L W)
    (hm : ∀ (i : Nat) (x : Nod), nodes[i]? = some x → P i → 0 ≤ m i ∧ ∃ y : Nod, a[(m i).toNat]? = some y ∧ y.op = x.op ∧ y.width = x.width ∧ y.value = x.value ∧ y.args = x.args.map (fun n => m n.toNat) ∧ ∀ n ∈ x.args, P n.toNat) :
    ∀ i, i < nodes.length → P i → W.getD (m i).toNat 0 = V.getD i 0 := by
  intro i
  induction i using Nat.strongRecOn with
  | _ i ih =>
    intro hi hp
    have hx : nodes[i]? = some nodes[i] := List.getElem?_eq_getElem hi
    generalize nodes[i] = x at hx
    obtain ⟨h0, y, hy, ho, hw, hv, ha, hP⟩ := hm i x hx hp
    rw [h1.eq i x hx, h2.eq _ y hy]
    unfold valN
    rw [ho, hv]
    split
    · rfl
    · rw [ha, appK_args hw hv]
      congr 1
      · show (x.args.map fun n => m n.toNat).map (widOf a) = _
        rw [List.map_map]
        exact List.map_congr_left fun n hn => by
          have hr := hin i x hx n hn
          have hxn : nodes[n.toNat]? = some nodes[n.toNat] := List.getElem?_eq_getElem (by omega)
          obtain ⟨h0', y', hy', _, hw', _⟩ := hm n.toNat _ hxn (hP n hn)
          have e1 := widOf_get hy'
          have e2 := widOf_get hxn
          rw [show (((m n.toNat).toNat : Nat) : Int) = m n.toNat by omega] at e1
          rw [show ((n.toNat : Nat) : Int) = n by omega] at e2
          show widOf a (m n.toNat) = widOf nodes n
          rw [e1, e2, hw']
      · rw [show argsOf W (List.map (fun n => m n.toNat) x.args) = x.args.map fun n => W.getD (m n.toNat).toNat 0 by simp]
        exact List.map_congr_left fun n hn => by
          have hr := hin i x hx n hn
          exact ih n.toNat (by omega) (by omega) (hP n hn)
theorem nodeE_of {leaves : List Int} {nodes : List Nod} {i : Nat} {x : Nod} (h1 : within x.op 0 18 = true) (h2 : within x.width 1 16 = true) (h3 : x.args.length = argc x.op.toNat) (h4 : argsIn i x.args = true) (h5 : valE leaves x (hasV x.op.toNat) = 0) (h6 : fitB x.op.toNat x.width (widsOf nodes x.args) x.value = true) : nodeE leaves nodes i x = 0 := by
  unfold nodeE
  simp only [firstE_cons]
  exact ⟨(unlE_z (by decide)).2 h1, (unlE_z (by decide)).2 h2, (unlE_z (by decide)).2 (by simpa using h3), (unlE_z (by decide)).2 h4, h5, (unlE_z (by decide)).2 h6, rfl⟩
theorem valE_congr {leaves : List Int} {x y : Nod} (ho : y.op = x.op) (hw : y.width = x.width) (hv : y.value = x.value) (b : Bool) : valE leaves y b = valE leaves x b := by
  unfold valE
  rw [ho, hw, hv]
theorem argsIn_of {k : Nat} {l : List Int} (h : ∀ n ∈ l, 0 ≤ n ∧ n < (k : Int)) : argsIn k l = true := by
  unfold argsIn
  rw [List.all_eq_true]
  intro n hn
  have := h n hn
  exact within_iff.2 ⟨by omega, by omega⟩
theorem hom_ok {leaves : List Int} {nodes a : List Nod} {m : Nat → Int} (hG : ∀ (i : Nat) (x : Nod), nodes[i]? = some x → nodeE leaves nodes i x = 0)
    (ha : ∀ (k : Nat) (y : Nod), a[k]? = some y → ∃ (i : Nat) (x : Nod), nodes[i]? = some x ∧ y.op = x.op ∧ y.width = x.width ∧ y.value = x.value ∧ y.args = x.args.map (fun n => m n.toNat) ∧ ∀ n ∈ x.args, widOf a (m n.toNat) = widOf nodes n ∧ 0 ≤ m n.toNat ∧ m n.toNat < (k : Int)) :
    ∀ (k : Nat) (y : Nod), a[k]? = some y → nodeE leaves a k y = 0 := by
  intro k y hy
  obtain ⟨i, x, hx, ho, hw, hv, hA, hP⟩ := ha k y hy
  obtain ⟨h1, h2, h3, h4, h5, h6⟩ := nodeE_iff (hG i x hx)
  refine nodeE_of (by rw [ho]; exact h1) (by rw [hw]; exact h2) (by rw [hA, List.length_map, ho]; exact h3) (argsIn_of fun n hn => ?_) (by rw [valE_congr ho hw hv, ho]; exact h5) ?_
  · rw [hA] at hn
    obtain ⟨j, hj, rfl⟩ := List.mem_map.1 hn
    exact (hP j hj).2
  · have : widsOf a y.args = widsOf nodes x.args := by
      rw [hA]
      show (x.args.map fun n => m n.toNat).map (widOf a) = _
      rw [List.map_map]
      exact List.map_congr_left fun n hn => (hP n hn).1
    rw [ho, hw, hv, this]
    exact h6
theorem eachE_none {α : Type} (f : Nat → α → Int) : ∀ (l : List α) (k : Nat), (∀ i x, l[i]? = some x → f (k + i) x = 0) → (eachE f k l).2 = 0
  | [], _, _ => rfl
  | x :: r, k, h => by
    rw [eachE, if_pos (by simpa using h 0 x rfl)]
    exact eachE_none f r (k + 1) fun i y hy => by
      have := h (i + 1) y (by simpa using hy)
      rwa [show k + (i + 1) = k + 1 + i by omega] at this
theorem checkE_of {leaves : List Int} {nodes a : List Nod} (hc : (checkE leaves nodes).2 = 0) (hl : a.length ≤ 400) (h : ∀ (k : Nat) (y : Nod), a[k]? = some y → nodeE leaves a k y = 0) : (checkE leaves a).2 = 0 := by
  unfold checkE at hc ⊢
  split at hc
  · simp at hc
  · rename_i h1
    rw [if_neg h1]
    split at hc
    · rename_i h2; exact absurd hc h2
    · rename_i h2
      rw [if_neg h2, if_neg (by omega)]
      exact eachE_none _ _ _ fun i x hx => by simpa using h i x hx
structure MapInv (nodes : List Nod) (P : Nat → Prop) (k : Nat) (out : List Nod) (to : List Int) : Prop where
  len : to.length = k
  le : out.length ≤ k
  fwd : ∀ (i : Nat) (x : Nod), i < k → nodes[i]? = some x → P i → ∃ j : Nat, to.getD i 0 = (j : Int) ∧ out[j]? = some (byN to x)
  bwd : ∀ (j : Nat) (y : Nod), out[j]? = some y → ∃ (i : Nat) (x : Nod), i < k ∧ nodes[i]? = some x ∧ P i ∧ y = byN to x ∧ ∀ n ∈ x.args, 0 ≤ to.getD n.toNat 0 ∧ to.getD n.toNat 0 < (j : Int)
theorem MapInv.zero (nodes : List Nod) (P : Nat → Prop) : MapInv nodes P 0 [] [] := ⟨rfl, by simp, fun i x hi => absurd hi (by simp), fun j y h => by simp at h⟩
theorem byN_app {to : List Int} {x : Nod} (h : ∀ n ∈ x.args, n.toNat < to.length) (l : List Int) : byN (to ++ l) x = byN to x := by
  unfold byN
  congr 1
  exact List.map_congr_left fun n hn => getD_app _ _ _ _ (h n hn)
theorem MapInv.add {nodes : List Nod} {P : Nat → Prop} {k : Nat} {out : List Nod} {to : List Int} (h : MapInv nodes P k out to) (hin : InG nodes) {x : Nod} (hx : nodes[k]? = some x) (hp : P k) (hP : ∀ n ∈ x.args, P n.toNat) : MapInv nodes P (k + 1) (out ++ [byN to x]) (to ++ [(out.length : Int)]) := by
  have hl := h.len
  have hle := h.le
  have hxa := hin k x hx
  have hst (i : Nat) (z : Nod) (hi : i ≤ k) (hz : nodes[i]? = some z) : byN (to ++ [(out.length : Int)]) z = byN to z := byN_app (fun n hn => by have := hin i z hz n hn; omega) _
  have hget (i : Nat) (hi : i < k) : (to ++ [(out.length : Int)]).getD i 0 = to.getD i 0 := getD_app _ _ _ _ (by omega)
  refine ⟨by simp [hl], by simp; omega, fun i z hi hz hpi => ?_, fun j y hy => ?_⟩
  · by_cases hlt : i < k
    · obtain ⟨j, hj, ho⟩ := h.fwd i z hlt hz hpi
      refine ⟨j, by rw [hget i hlt]; exact hj, ?_⟩
      rw [hst i z (by omega) hz, List.getElem?_append_left (List.getElem?_eq_some_iff.1 ho).1]
      exact ho
    · have : i = k := by omega
      subst this
      have hzx : z = x := by rw [hx] at hz; simpa using hz.symm
      subst hzx
      exact ⟨out.length, by simp [List.getD, ← hl], by rw [hst i z (by omega) hz]; simp⟩
  · by_cases hlt : j < out.length
    · rw [List.getElem?_append_left hlt] at hy
      obtain ⟨i, z, hi, hz, hpi, hyz, hr⟩ := h.bwd j y hy
      refine ⟨i, z, by omega, hz, hpi, by rw [hst i z (by omega) hz]; exact hyz, fun n hn => ?_⟩
      have := hin i z hz n hn
      rw [hget _ (by omega)]
      exact hr n hn
    · have hj : j = out.length := by
        have := (List.getElem?_eq_some_iff.1 hy).1
        simp at this; omega
      subst hj
      have hyx : y = byN to x := by simpa using hy.symm
      refine ⟨k, x, by omega, hx, hp, by rw [hst k x (Nat.le_refl _) hx]; exact hyx, fun n hn => ?_⟩
      have hn' := hxa n hn
      rw [hget _ (by omega)]
      have hkl : k < nodes.length := (List.getElem?_eq_some_iff.1 hx).1
      have hnl : n.toNat < nodes.length := by omega
      obtain ⟨j, hj, ho⟩ := h.fwd n.toNat nodes[n.toNat] (by omega) (List.getElem?_eq_getElem hnl) (hP n hn)
      have := (List.getElem?_eq_some_iff.1 ho).1
      rw [hj]
      omega
theorem MapInv.old {nodes : List Nod} {P : Nat → Prop} {k : Nat} {out : List Nod} {to : List Int} (h : MapInv nodes P k out to) (hin : InG nodes) {x : Nod} (hx : nodes[k]? = some x) {c : Nat} (hc : P k → out[c]? = some (byN to x)) : MapInv nodes P (k + 1) out (to ++ [(c : Int)]) := by
  have hl := h.len
  have hle := h.le
  have hst (i : Nat) (z : Nod) (hi : i ≤ k) (hz : nodes[i]? = some z) : byN (to ++ [(c : Int)]) z = byN to z := byN_app (fun n hn => by have := hin i z hz n hn; omega) _
  have hget (i : Nat) (hi : i < k) : (to ++ [(c : Int)]).getD i 0 = to.getD i 0 := getD_app _ _ _ _ (by omega)
  refine ⟨by simp [hl], by omega, fun i z hi hz hpi => ?_, fun j y hy => ?_⟩
  · by_cases hlt : i < k
    · obtain ⟨j, hj, ho⟩ := h.fwd i z hlt hz hpi
      exact ⟨j, by rw [hget i hlt]; exact hj, by rw [hst i z (by omega) hz]; exact ho⟩
    · have : i = k := by omega
      subst this
      have hzx : z = x := by rw [hx] at hz; simpa using hz.symm
      subst hzx
      exact ⟨c, by simp [List.getD, ← hl], by rw [hst i z (by omega) hz]; exact hc hpi⟩
  · obtain ⟨i, z, hi, hz, hpi, hyz, hr⟩ := h.bwd j y hy
    refine ⟨i, z, by omega, hz, hpi, by rw [hst i z (by omega) hz]; exact hyz, fun n hn => ?_⟩
    have := hin i z hz n hn
    rw [hget _ (by omega)]
    exact hr n hn
theorem MapInv.ok {leaves : List Int} {nodes : List Nod} {P : Nat → Prop} {out : List Nod} {to : List Int} (h : MapInv nodes P nodes.length out to) (hc : (checkE leaves nodes).2 = 0) (hP : ∀ (i : Nat) (x : Nod), nodes[i]? = some x → P i → ∀ n ∈ x.args, P n.toNat) : (checkE leaves out).2 = 0 := by
  have hG := checkE_nodes hc
  have hin : InG nodes := fun i x hx => args_in hc hx
  have hle := h.le
  have := checkE_leaves hc
  refine checkE_of hc (by omega) (hom_ok (m := fun i => to.getD i 0) hG fun k y hy => ?_)
  obtain ⟨i, x, hi, hx, hpi, rfl, hr⟩ := h.bwd k y hy
  refine ⟨i, x, hx, rfl, rfl, rfl, rfl, fun n hn => ⟨?_, hr n hn⟩⟩
  have hn' := hin i x hx n hn
  have hxn : nodes[n.toNat]? = some nodes[n.toNat] := List.getElem?_eq_getElem (by omega)
  obtain ⟨j, hj, ho⟩ := h.fwd n.toNat _ (by omega) hxn (hP i x hx hpi n hn)
  have e1 := widOf_get ho
  have e2 := widOf_get hxn
  rw [show ((n.toNat : Nat) : Int) = n by omega] at e2
  rw [hj, e1, e2]
  rfl
theorem MapInv.vals {leaves : List Int} {nodes : List Nod} {P : Nat → Prop} {out : List Nod} {to : List Int} (h : MapInv nodes P nodes.length out to) (hc : (checkE leaves nodes).2 = 0) (hP : ∀ (i : Nat) (x : Nod), nodes[i]? = some x → P i → ∀ n ∈ x.args, P n.toNat) (L : List Int) (i : Nat) (hi : i < nodes.length) (hp : P i) :
    (0 ≤ to.getD i 0 ∧ to.getD i 0 < (out.length : Int)) ∧ (valsN out L out []).getD (to.getD i 0).toNat 0 = (valsN nodes L nodes []).getD i 0 := by
  have hin : InG nodes := fun i x hx => args_in hc hx
  have hco := h.ok hc hP
  have hin2 : InG out := fun i x hx => args_in hco hx
  constructor
  · obtain ⟨j, hj, ho⟩ := h.fwd i _ hi (List.getElem?_eq_getElem hi) hp
    have := (List.getElem?_eq_some_iff.1 ho).1
    rw [hj]; omega
  · refine hom_vals (m := fun i => to.getD i 0) (P := P) hin (vals_sol hin) (vals_sol hin2) (fun i x hx hpi => ?_) i hi hp
    obtain ⟨j, hj, ho⟩ := h.fwd i x (List.getElem?_eq_some_iff.1 hx).1 hx hpi
    refine ⟨by show 0 ≤ to.getD i 0; omega, byN to x, ?_, rfl, rfl, rfl, rfl, hP i x hx hpi⟩
    show out[(to.getD i 0).toNat]? = _
    rw [hj]
    exact ho
end Go.Proofs.YtglelclmlkeheabGreatDoor.V

/- What is below some nodes is closed under arguments: in plain terms. -/
namespace Go.Proofs.YtglelclmlkeheabGreatDoor.V
def Cl (nodes : List Nod) (o : List Bool) (i : Nat) : Prop := ∀ x, nodes[i]? = some x → o.getD i false = true → ∀ n ∈ x.args, o.getD n.toNat false = true
theorem belDown_mono (nodes : List Nod) : ∀ (k : Nat) (o : List Bool) (j : Nat), j < o.length → o.getD j false = true → (belDown nodes k o).getD j false = true
  | 0, o, j, _, h => h
  | k + 1, o, j, hj, h => by
    rw [belDown]
    split
    · split
      · refine belDown_mono nodes k _ j (by rw [markAll_len]; exact hj) ?_
        rw [markAll_get _ _ _ hj, h]; rfl
      · exact belDown_mono nodes k _ j hj h
    · exact belDown_mono nodes k _ j hj h
theorem belDown_cl (nodes : List Nod) (hin : ∀ (i : Nat) (x : Nod), nodes[i]? = some x → ∀ n ∈ x.args, 0 ≤ n ∧ n < (i : Int)) : ∀ (k : Nat) (o : List Bool), k ≤ nodes.length → o.length = nodes.length → (∀ i, k ≤ i → Cl nodes o i) → ∀ i, Cl nodes (belDown nodes k o) i
  | 0, o, _, _, h, i => h i (Nat.zero_le _)
  | k + 1, o, hk, ho, h, i => by
    rw [belDown]
    have hkl : k < nodes.length := by omega
    have hx : nodes[k]? = some nodes[k] := List.getElem?_eq_getElem hkl
    rw [hx]
    simp only
    split
    · rename_i hb
      refine belDown_cl nodes hin k _ (by omega) (by rw [markAll_len]; exact ho) (fun i hi x hxi hoi n hn => ?_) i
      have hil := (List.getElem?_eq_some_iff.1 hxi).1
      have hni := hin i x hxi n hn
      rw [markAll_get _ _ _ (by omega)]
      by_cases e : i = k
      · subst e
        rw [hx] at hxi
        cases hxi
        simp only [Bool.or_eq_true, List.any_eq_true, decide_eq_true_eq]
        exact .inr ⟨n, hn, rfl⟩
      · rw [markAll_get _ _ _ (by omega)] at hoi
        simp only [Bool.or_eq_true, List.any_eq_true, decide_eq_true_eq] at hoi ⊢
        rcases hoi with hoi | ⟨m, hm, e2⟩
        · exact .inl (h i (by omega) x hxi hoi n hn)
        · have := hin k _ hx m hm
          omega
    · rename_i hb
      refine belDown_cl nodes hin k _ (by omega) ho (fun i hi => ?_) i
      by_cases e : i = k
      · subst e
        exact fun x _ hoi => absurd hoi hb
      · exact h i (by omega)
theorem belN_cl {nodes : List Nod} (hin : ∀ (i : Nat) (x : Nod), nodes[i]? = some x → ∀ n ∈ x.args, 0 ≤ n ∧ n < (i : Int)) (fr : List Int) (i : Nat) : Cl nodes (belN nodes fr) i := by
  unfold belN
  exact belDown_cl nodes hin _ _ (Nat.le_refl _) (by rw [markAll_len]; simp) (fun i hi x hx => by have := (List.getElem?_eq_some_iff.1 hx).1; omega) i
theorem belN_from {nodes : List Nod} (fr : List Int) (n : Int) (hn : n ∈ fr) (hlt : n.toNat < nodes.length) : (belN nodes fr).getD n.toNat false = true := by
  unfold belN
  refine belDown_mono _ _ _ _ (by rw [markAll_len]; simpa using hlt) ?_
  rw [markAll_get _ _ _ (by simpa using hlt)]
  simp only [Bool.or_eq_true, List.any_eq_true, decide_eq_true_eq]
  exact .inr ⟨n, hn, rfl⟩
end Go.Proofs.YtglelclmlkeheabGreatDoor.V

/- Graphs shared, folded, cones, appended and substituted: values and validity, in plain terms. -/
namespace Go.Proofs.YtglelclmlkeheabGreatDoor.V
open Go (IntKind BinOp UnOp)
theorem findN_some {y : Nod} : ∀ {l : List Nod} {i k : Nat}, findN y i l = some k → i ≤ k ∧ l[k - i]? = some y
  | [], i, k, h => by simp [findN] at h
  | z :: r, i, k, h => by
    unfold findN at h
    split at h
    · rename_i he
      have : i = k := by simpa using h
      subst this
      rw [sameN_iff] at he
      exact ⟨Nat.le_refl _, by simp [he]⟩
    · obtain ⟨h1, h2⟩ := findN_some h
      refine ⟨by omega, ?_⟩
      rw [show k - i = (k - (i + 1)) + 1 by omega]
      simpa using h2
theorem findN_none {y : Nod} : ∀ {l : List Nod} {i : Nat}, findN y i l = none ↔ y ∉ l
  | [], i => by simp [findN]
  | z :: r, i => by
    unfold findN
    split
    · rename_i he
      rw [sameN_iff] at he
      simp [he]
    · rename_i he
      rw [sameN_iff] at he
      rw [findN_none, List.mem_cons]
      constructor
      · rintro h (h1 | h1)
        · exact he h1.symm
        · exact h h1
      · intro h h1
        exact h (.inr h1)
theorem shared_inv {nodes : List Nod} (hin : InG nodes) : ∀ (suf pre out : List Nod) (to : List Int), nodes = pre ++ suf → MapInv nodes (fun _ => True) pre.length out to → out.Nodup →
    MapInv nodes (fun _ => True) nodes.length (sharedN suf out to).1 (sharedN suf out to).2 ∧ (sharedN suf out to).1.Nodup
  | [], pre, out, to, h, hm, hd => by
    have : nodes = pre := by simpa using h
    rw [sharedN, this]
    rw [this] at hm
    exact ⟨hm, hd⟩
  | x :: suf, pre, out, to, h, hm, hd => by
    have hx : nodes[pre.length]? = some x := by rw [h]; simp
    unfold sharedN
    split
    · rename_i k hf
      have h2 := (findN_some hf).2
      rw [Nat.sub_zero] at h2
      exact shared_inv hin suf (pre ++ [x]) _ _ (by simp [h]) (by rw [List.length_append]; exact hm.old hin hx fun _ => h2) hd
    · rename_i hf
      rw [findN_none] at hf
      refine shared_inv hin suf (pre ++ [x]) _ _ (by simp [h]) (by rw [List.length_append]; exact hm.add hin hx trivial fun _ _ => trivial) ?_
      rw [List.nodup_append]
      exact ⟨hd, by simp, fun a ha b hb => by
        have : b = byN to x := by simpa using hb
        subst this
        exact fun e => hf (e ▸ ha)⟩
theorem shared_all {nodes : List Nod} (hin : InG nodes) : MapInv nodes (fun _ => True) nodes.length (sharedN nodes [] []).1 (sharedN nodes [] []).2 ∧ (sharedN nodes [] []).1.Nodup :=
  shared_inv hin nodes [] [] [] rfl (MapInv.zero _ _) (by simp)
theorem shared_again_aux {a : List Nod} (hin : InG a) (hd : a.Nodup) : ∀ (suf pre : List Nod), a = pre ++ suf → (sharedN suf pre (atN 0 pre.length)).1 = a
  | [], pre, h => by rw [sharedN, h]; simp
  | x :: suf, pre, h => by
    have hx : a[pre.length]? = some x := by rw [h]; simp
    have hby : byN (atN 0 pre.length) x = x := by
      unfold byN
      have : (x.args.map fun n => (atN 0 pre.length).getD n.toNat 0) = x.args := by
        conv => rhs; rw [← List.map_id x.args]
        exact List.map_congr_left fun n hn => by
          have := hin _ x hx n hn
          rw [show (atN 0 pre.length).getD n.toNat 0 = ((n.toNat : Nat) : Int) by
            unfold atN
            simp [List.getD, show n.toNat < pre.length by omega]]
          show _ = n
          omega
      rw [this]
    have hf : findN (byN (atN 0 pre.length) x) 0 pre = none := by
      rw [hby, findN_none]
      intro hm
      rw [h, List.nodup_append] at hd
      exact hd.2.2 x hm x (by simp) rfl
    unfold sharedN
    rw [hf]
    simp only
    rw [hby, show atN 0 pre.length ++ [(pre.length : Int)] = atN 0 (pre ++ [x]).length by rw [List.length_append, List.length_singleton, atN_succ]; simp]
    exact shared_again_aux hin hd suf (pre ++ [x]) (by simp [h])
theorem shared_again {a : List Nod} (hin : InG a) (hd : a.Nodup) : (sharedN a [] []).1 = a := shared_again_aux hin hd a [] rfl
theorem fold_get {nodes : List Nod} : ∀ (suf pre out : List Nod), nodes = pre ++ suf → out.length = pre.length → ∀ i x, pre.length ≤ i → nodes[i]? = some x → (foldN nodes suf out)[i]? = some (foldX nodes ((foldN nodes suf out).take i) x)
  | [], pre, out, h, ho, i, x, hi, hx => by
    have e : nodes = pre := by simpa using h
    have h2 := (List.getElem?_eq_some_iff.1 hx).1
    rw [e] at h2
    omega
  | z :: suf, pre, out, h, ho, i, x, hi, hx => by
    have key : ∀ (l o : List Nod), (foldN nodes l o).take o.length = o := by
      intro l
      induction l with
      | nil => intro o; simp [foldN]
      | cons y r ih =>
        intro o
        have := congrArg (List.take o.length) (ih (o ++ [foldX nodes o y]))
        rw [List.take_take, Nat.min_eq_left (by simp)] at this
        rw [foldN, this]
        simp
    by_cases hlt : i = pre.length
    · subst hlt
      have hz : x = z := by rw [h] at hx; simpa using hx.symm
      subst hz
      have h1 := key (x :: suf) out
      have h2 := key suf (out ++ [foldX nodes out x])
      rw [← ho, h1]
      rw [foldN]
      have h3 := congrArg (fun l => l[out.length]?) h2
      simp only [List.getElem?_take, List.length_append, List.length_singleton] at h3
      rw [if_pos (by omega)] at h3
      rw [h3]
      simp
    · rw [foldN]
      exact fold_get suf (pre ++ [z]) _ (by simp [h]) (by simp [ho]) i x (by simp; omega) hx
theorem fold_at {nodes : List Nod} {i : Nat} {x : Nod} (hx : nodes[i]? = some x) : (foldN nodes nodes [])[i]? = some (foldX nodes ((foldN nodes nodes []).take i) x) := fold_get nodes [] [] rfl rfl i x (Nat.zero_le _) hx
theorem closed_take {out : List Nod} {i : Nat} {x : Nod} (h : ∀ n ∈ x.args, 0 ≤ n ∧ n < (i : Int)) : closedB (out.take i) x = closedB out x := by
  unfold closedB
  congr 1
  rw [Bool.eq_iff_iff, List.all_eq_true, List.all_eq_true]
  have e : ∀ n ∈ x.args, isC (out.take i) n = isC out n := fun n hn => by
    have := h n hn
    simp only [isC, outAt, List.getD_eq_getElem?_getD, List.getElem?_take]
    rw [if_pos (by omega)]
  constructor
  · intro h1 n hn; rw [← e n hn]; exact h1 n hn
  · intro h1 n hn; rw [e n hn]; exact h1 n hn
theorem foldX_take {nodes out : List Nod} {i : Nat} {x : Nod} (h : ∀ n ∈ x.args, 0 ≤ n ∧ n < (i : Int)) : foldX nodes (out.take i) x = foldX nodes out x := by
  unfold foldX
  rw [closed_take h]
  have : argsOf (valsOf (out.take i)) x.args = argsOf (valsOf out) x.args := List.map_congr_left fun n hn => by
    have := h n hn
    show (valsOf (out.take i)).getD n.toNat 0 = (valsOf out).getD n.toNat 0
    rw [valsOf_getD, valsOf_getD]
    simp only [List.getD_eq_getElem?_getD, List.getElem?_take]
    rw [if_pos (by omega)]
  rw [this]
theorem fold_at' {nodes : List Nod} (hin : InG nodes) {i : Nat} {x : Nod} (hx : nodes[i]? = some x) : (foldN nodes nodes [])[i]? = some (foldX nodes (foldN nodes nodes []) x) := by
  rw [fold_at hx, foldX_take (hin i x hx)]
theorem fold_inv {leaves : List Int} {nodes : List Nod} (hG : ∀ i x, nodes[i]? = some x → nodeE leaves nodes i x = 0) : ∀ (suf pre out : List Nod), nodes = pre ++ suf → FoldOk nodes pre.length out → FoldOk nodes nodes.length (foldN nodes suf out)
  | [], pre, out, h, hI => by
    have : nodes = pre := by simpa using h
    rw [foldN]
    rw [← this] at hI
    exact hI
  | z :: suf, pre, out, h, hI => by
    have hx : nodes[pre.length]? = some z := by rw [h]; simp
    rw [foldN]
    exact fold_inv hG suf (pre ++ [z]) _ (by simp [h]) (by rw [List.length_append]; exact fold_step hG hI hx)
theorem fold_wid {leaves : List Int} {nodes : List Nod} (hG : ∀ i x, nodes[i]? = some x → nodeE leaves nodes i x = 0) {n : Int} (hn : 0 ≤ n ∧ n < (nodes.length : Int)) : widOf (foldN nodes nodes []) n = widOf nodes n := by
  have h := (fold_inv hG nodes [] [] rfl (FoldOk.zero nodes)).wid n.toNat (by omega)
  rw [show ((n.toNat : Nat) : Int) = n by omega] at h
  exact h
theorem fold_ok {leaves : List Int} {nodes : List Nod} (hc : (checkE leaves nodes).2 = 0) : (checkE leaves (foldN nodes nodes [])).2 = 0 := by
  have hG := checkE_nodes hc
  have hin : InG nodes := fun i x hx => args_in hc hx
  have hlv := checkE_leaves hc
  have hlen : (foldN nodes nodes []).length = nodes.length := by rw [foldN_len]; simp
  have hI := fold_inv hG nodes [] [] rfl (FoldOk.zero nodes)
  refine checkE_of hc (by omega) fun k y hy => ?_
  have hk : k < nodes.length := by have := (List.getElem?_eq_some_iff.1 hy).1; omega
  have hx : nodes[k]? = some nodes[k] := List.getElem?_eq_getElem hk
  generalize nodes[k] = x at hx
  have hyx : y = foldX nodes (foldN nodes nodes []) x := by rw [fold_at' hin hx] at hy; simpa using hy.symm
  obtain ⟨h1, h2, h3, h4, h5, h6⟩ := nodeE_iff (hG k x hx)
  have hcon := hI.con k hk
  have hgd : (foldN nodes nodes []).getD k nod0 = y := by simp [List.getD, hy]
  rw [hgd, widOf_get hx] at hcon
  unfold foldX at hyx
  split at hyx
  · subst hyx
    generalize appK x.op.toNat x (widsOf nodes x.args) (argsOf (valsOf (foldN nodes nodes [])) x.args) = r at *
    have hv : Okv r x.width := hcon rfl
    refine nodeE_of (show within 0 0 18 = true by decide) h2 rfl rfl ?_ rfl
    show unlE (fitsB _ _) 2 = 0
    refine (unlE_z (by decide)).2 ?_
    have h2' := within_iff.1 h2
    unfold fitsB
    simp only [Bool.and_eq_true, decide_eq_true_eq]
    have hv2 := hv.2
    exact ⟨by omega, within_iff.2 ⟨hv.1, by show r ≤ pw x.width - 1; omega⟩⟩
  · subst hyx
    refine nodeE_of h1 h2 h3 h4 h5 ?_
    rw [show widsOf (foldN nodes nodes []) y.args = widsOf nodes y.args from List.map_congr_left fun n hn => by
      have := hin k y hx n hn
      exact fold_wid hG (by omega)]
    exact h6
theorem fold_vals {leaves : List Int} {nodes : List Nod} (hc : (checkE leaves nodes).2 = 0) (L : List Int) : valsN (foldN nodes nodes []) L (foldN nodes nodes []) [] = valsN nodes L nodes [] := by
  have hG := checkE_nodes hc
  have hin : InG nodes := fun i x hx => args_in hc hx
  have hco := fold_ok hc
  have hin2 : InG (foldN nodes nodes []) := fun i x hx => args_in hco hx
  have hlen : (foldN nodes nodes []).length = nodes.length := by rw [foldN_len]; simp
  have hS := vals_sol (L := L) hin
  generalize valsN nodes L nodes [] = V at *
  refine sol_uniq hin2 (vals_sol hin2) ⟨by rw [hS.len, hlen], ?_⟩
  have key : ∀ k x, nodes[k]? = some x → V.getD k 0 = valN (foldN nodes nodes []) L V (foldX nodes (foldN nodes nodes []) x) := by
    intro k
    induction k using Nat.strongRecOn with
    | _ k ih =>
      intro x hx
      rw [hS.eq k x hx]
      have hxa := hin k x hx
      have hkl := (List.getElem?_eq_some_iff.1 hx).1
      unfold foldX
      split
      · rename_i hcl
        unfold closedB at hcl
        simp only [Bool.and_eq_true, decide_eq_true_eq, List.all_eq_true] at hcl
        obtain ⟨hne, hall⟩ := hcl
        have ho1 : x.op ≠ 1 := by
          intro h1
          obtain ⟨_, _, h3, _⟩ := nodeE_iff (hG k x hx)
          rw [h1] at h3
          exact hne (List.length_eq_zero_iff.1 h3)
        have e1 : valN nodes L V x = appK x.op.toNat x (widsOf nodes x.args) (argsOf V x.args) := by
          unfold valN; rw [if_neg ho1]
        rw [e1]
        show _ = appK x.op.toNat x (widsOf nodes x.args) (argsOf (valsOf (foldN nodes nodes [])) x.args)
        congr 1
        refine List.map_congr_left fun n hn => ?_
        have hr := hxa n hn
        have hxn : nodes[n.toNat]? = some nodes[n.toNat] := List.getElem?_eq_getElem (by omega)
        have hcn := hall n hn
        simp only [isC, outAt, decide_eq_true_eq] at hcn
        rw [ih n.toNat (by omega) _ hxn, valsOf_getD]
        have hgt := fold_at' hin hxn
        have hgd : (foldN nodes nodes []).getD n.toNat nod0 = foldX nodes (foldN nodes nodes []) nodes[n.toNat] := by simp only [List.getD_eq_getElem?_getD, hgt, Option.getD_some]
        rw [hgd] at hcn ⊢
        unfold valN
        rw [if_neg (by rw [hcn]; decide), hcn]
        rfl
      · unfold valN
        split
        · rfl
        · rw [show widsOf (foldN nodes nodes []) x.args = widsOf nodes x.args from List.map_congr_left fun n hn => by
            have := hxa n hn
            exact fold_wid hG (by omega)]
  intro k y hy
  have hk : k < nodes.length := by have := (List.getElem?_eq_some_iff.1 hy).1; omega
  have hx : nodes[k]? = some nodes[k] := List.getElem?_eq_getElem hk
  have hyx : y = foldX nodes (foldN nodes nodes []) nodes[k] := by rw [fold_at' hin hx] at hy; simpa using hy.symm
  rw [hyx]
  exact key k _ hx
theorem foldN_take (nodes : List Nod) : ∀ (l o : List Nod), (∀ i x, l[i]? = some x → foldX nodes (o ++ l.take i) x = x) → foldN nodes l o = o ++ l
  | [], o, _ => by simp [foldN]
  | y :: r, o, h => by
    have h0 := h 0 y rfl
    simp only [List.take_zero, List.append_nil] at h0
    rw [foldN, h0, foldN_take nodes r (o ++ [y]) fun i x hx => by
      have := h (i + 1) x (by simpa using hx)
      simpa using this]
    simp
theorem fold_twice {leaves : List Int} {nodes : List Nod} (hc : (checkE leaves nodes).2 = 0) : foldN (foldN nodes nodes []) (foldN nodes nodes []) [] = foldN nodes nodes [] := by
  have hin : InG nodes := fun i x hx => args_in hc hx
  have hco := fold_ok hc
  have hin2 : InG (foldN nodes nodes []) := fun i x hx => args_in hco hx
  have hlen : (foldN nodes nodes []).length = nodes.length := by rw [foldN_len]; simp
  refine (foldN_take _ _ [] fun k y hy => ?_).trans (by simp)
  rw [List.nil_append, foldX_take (hin2 k y hy)]
  have hk : k < nodes.length := by have := (List.getElem?_eq_some_iff.1 hy).1; omega
  have hx : nodes[k]? = some nodes[k] := List.getElem?_eq_getElem hk
  generalize nodes[k] = x at hx
  have hyx : y = foldX nodes (foldN nodes nodes []) x := by rw [fold_at' hin hx] at hy; simpa using hy.symm
  have hcl : closedB (foldN nodes nodes []) y = false := by
    rw [hyx]
    unfold foldX
    split
    · rfl
    · rename_i h; simpa using h
  unfold foldX
  rw [if_neg (by rw [hcl]; decide)]
theorem cone_inv {nodes : List Nod} (hin : InG nodes) {B0 : List Bool} (hcl : ∀ i, Cl nodes B0 i) (hbl : B0.length = nodes.length) : ∀ (suf pre : List Nod) (B : List Bool) (out : List Nod) (to : List Int), nodes = pre ++ suf → B = B0.drop pre.length → MapInv nodes (fun i => B0.getD i false = true) pre.length out to →
    MapInv nodes (fun i => B0.getD i false = true) nodes.length (coneN B suf out to).1 (coneN B suf out to).2
  | [], pre, B, out, to, h, hB, hm => by
    have : nodes = pre := by simpa using h
    rw [← this] at hm
    have : coneN B [] out to = (out, to) := by cases B <;> rfl
    rw [this]
    exact hm
  | x :: suf, pre, B, out, to, h, hB, hm => by
    have hx : nodes[pre.length]? = some x := by rw [h]; simp
    have hlt : pre.length < B0.length := by rw [hbl, h]; simp
    have hB' : B = B0[pre.length] :: B0.drop (pre.length + 1) := by rw [hB, List.drop_eq_getElem_cons hlt]
    have hg : B0.getD pre.length false = B0[pre.length] := by simp [List.getD, hlt]
    rw [hB']
    unfold coneN
    split
    · rename_i hb
      refine cone_inv hin hcl hbl suf (pre ++ [x]) _ _ _ (by simp [h]) (by simp) ?_
      rw [List.length_append]
      exact hm.add hin hx (by rw [hg]; exact hb) (hcl _ x hx (by rw [hg]; exact hb))
    · rename_i hb
      refine cone_inv hin hcl hbl suf (pre ++ [x]) _ _ _ (by simp [h]) (by simp) ?_
      rw [List.length_append]
      exact hm.old hin hx (c := 0) fun hp => absurd (hg ▸ hp) hb
theorem cone_all {nodes : List Nod} (hin : InG nodes) (fr : List Int) : MapInv nodes (fun i => (belN nodes fr).getD i false = true) nodes.length (coneN (belN nodes fr) nodes [] []).1 (coneN (belN nodes fr) nodes [] []).2 :=
  cone_inv hin (belN_cl hin fr) (belN_len nodes fr) nodes [] _ [] [] rfl (by simp) (MapInv.zero _ _)
theorem app_at {nodes : List Nod} {k : Nat} {y : Nod} (hy : (nodes ++ nodes.map (shiftN nodes.length))[k]? = some y) : (k < nodes.length ∧ nodes[k]? = some y) ∨ (nodes.length ≤ k ∧ ∃ x, nodes[k - nodes.length]? = some x ∧ y = shiftN nodes.length x) := by
  rcases Nat.lt_or_ge k nodes.length with h | h
  · rw [List.getElem?_append_left h] at hy
    exact .inl ⟨h, hy⟩
  · rw [List.getElem?_append_right h, List.getElem?_map] at hy
    cases hx : nodes[k - nodes.length]? with
    | none => rw [hx] at hy; simp at hy
    | some x => rw [hx] at hy; exact .inr ⟨h, x, rfl, by simpa using hy.symm⟩
theorem app_wid1 {nodes : List Nod} {n : Int} (h : 0 ≤ n ∧ n < (nodes.length : Int)) (r : List Nod) : widOf (nodes ++ r) n = widOf nodes n := by
  unfold widOf
  rw [getD_app _ _ _ _ (by omega)]
theorem app_wid2 {nodes : List Nod} {n : Int} (h : 0 ≤ n ∧ n < (nodes.length : Int)) : widOf (nodes ++ nodes.map (shiftN nodes.length)) (n + nodes.length) = widOf nodes n := by
  unfold widOf
  simp only [List.getD_eq_getElem?_getD]
  rw [List.getElem?_append_right (by omega), show (n + (nodes.length : Int)).toNat - nodes.length = n.toNat by omega, List.getElem?_map]
  cases nodes[n.toNat]? <;> rfl
theorem app_ok2 {leaves : List Int} {nodes : List Nod} (hc : (checkE leaves nodes).2 = 0) (hl : 2 * nodes.length ≤ 400) : (checkE leaves (nodes ++ nodes.map (shiftN nodes.length))).2 = 0 := by
  have hG := checkE_nodes hc
  have hin : InG nodes := fun i x hx => args_in hc hx
  refine checkE_of hc (by simp; omega) fun k y hy => ?_
  rcases app_at hy with ⟨hk, hx⟩ | ⟨hk, x, hx, rfl⟩
  · obtain ⟨h1, h2, h3, h4, h5, h6⟩ := nodeE_iff (hG k y hx)
    refine nodeE_of h1 h2 h3 h4 h5 ?_
    rw [show widsOf (nodes ++ nodes.map (shiftN nodes.length)) y.args = widsOf nodes y.args from List.map_congr_left fun n hn => by
      have := hin k y hx n hn
      exact app_wid1 (by omega) _]
    exact h6
  · obtain ⟨h1, h2, h3, h4, h5, h6⟩ := nodeE_iff (hG _ x hx)
    have hxl := (List.getElem?_eq_some_iff.1 hx).1
    refine nodeE_of h1 h2 (by show (x.args.map _).length = _; rw [List.length_map]; exact h3) (argsIn_of fun n hn => ?_) h5 ?_
    · obtain ⟨j, hj, rfl⟩ := List.mem_map.1 (show n ∈ x.args.map (fun n => n + (nodes.length : Int)) from hn)
      have := hin _ x hx j hj
      omega
    · rw [show widsOf (nodes ++ nodes.map (shiftN nodes.length)) (shiftN nodes.length x).args = widsOf nodes x.args by
        show (x.args.map fun n => n + (nodes.length : Int)).map _ = _
        rw [List.map_map]
        exact List.map_congr_left fun n hn => by
          have := hin _ x hx n hn
          exact app_wid2 (by omega)]
      exact h6
theorem app_vals {leaves : List Int} {nodes : List Nod} (hc : (checkE leaves nodes).2 = 0) (hl : 2 * nodes.length ≤ 400) (L : List Int) (i : Nat) (hi : i < nodes.length) :
    (valsN (nodes ++ nodes.map (shiftN nodes.length)) L (nodes ++ nodes.map (shiftN nodes.length)) []).getD i 0 = (valsN nodes L nodes []).getD i 0 ∧
    (valsN (nodes ++ nodes.map (shiftN nodes.length)) L (nodes ++ nodes.map (shiftN nodes.length)) []).getD (nodes.length + i) 0 = (valsN nodes L nodes []).getD i 0 := by
  have hin : InG nodes := fun i x hx => args_in hc hx
  have hco := app_ok2 hc hl
  have hin2 : InG (nodes ++ nodes.map (shiftN nodes.length)) := fun i x hx => args_in hco hx
  constructor
  · refine hom_vals (m := fun i => (i : Int)) (P := fun _ => True) hin (vals_sol hin) (vals_sol hin2) (fun i x hx _ => ⟨by simp, x, ?_, rfl, rfl, rfl, ?_, fun _ _ => trivial⟩) i hi trivial
    · show (nodes ++ _)[((i : Int)).toNat]? = _
      rw [Int.toNat_natCast, List.getElem?_append_left (List.getElem?_eq_some_iff.1 hx).1]
      exact hx
    · conv => lhs; rw [← List.map_id x.args]
      exact List.map_congr_left fun n hn => by
        have := hin i x hx n hn
        show n = ((n.toNat : Nat) : Int)
        omega
  · have this : _ = _ := hom_vals (m := fun i => ((nodes.length + i : Nat) : Int)) (P := fun _ => True) hin (vals_sol (L := L) hin) (vals_sol hin2) (fun i x hx _ => ⟨by show (0 : Int) ≤ ((nodes.length + i : Nat) : Int); omega, shiftN nodes.length x, ?_, rfl, rfl, rfl, ?_, fun _ _ => trivial⟩) i hi trivial
    · have e : (((nodes.length + i : Nat) : Int)).toNat = nodes.length + i := Int.toNat_natCast _
      rw [← e]
      exact this
    · show (nodes ++ _)[(((nodes.length + i : Nat) : Int)).toNat]? = _
      rw [Int.toNat_natCast, List.getElem?_append_right (by omega), show nodes.length + i - nodes.length = i by omega, List.getElem?_map, hx]
      rfl
    · show x.args.map _ = _
      exact List.map_congr_left fun n hn => by
        have := hin i x hx n hn
        show n + (nodes.length : Int) = ((nodes.length + n.toNat : Nat) : Int)
        omega
theorem subN_at {nodes : List Nod} {leaf v : Int} {k : Nat} {y : Nod} (hy : (nodes.map (subN leaf v))[k]? = some y) : ∃ x, nodes[k]? = some x ∧ y = subN leaf v x := by
  rw [List.getElem?_map] at hy
  cases hx : nodes[k]? with
  | none => rw [hx] at hy; simp at hy
  | some x => rw [hx] at hy; exact ⟨x, rfl, by simpa using hy.symm⟩
theorem subN_wid (nodes : List Nod) (leaf v n : Int) : widOf (nodes.map (subN leaf v)) n = widOf nodes n := by
  unfold widOf
  simp only [List.getD_eq_getElem?_getD, List.getElem?_map]
  cases nodes[n.toNat]? with
  | none => rfl
  | some x =>
    show (subN leaf v x).width = x.width
    unfold subN; split <;> rfl
theorem subN_ok {leaves : List Int} {nodes : List Nod} (hc : (checkE leaves nodes).2 = 0) {leaf v : Int} (hv : fitsB v (leaves.getD leaf.toNat 0) = true) : (checkE leaves (nodes.map (subN leaf v))).2 = 0 := by
  have hG := checkE_nodes hc
  have hlv := checkE_leaves hc
  refine checkE_of hc (by rw [List.length_map]; omega) fun k y hy => ?_
  obtain ⟨x, hx, rfl⟩ := subN_at hy
  obtain ⟨h1, h2, h3, h4, h5, h6⟩ := nodeE_iff (hG k x hx)
  have hW : widsOf (nodes.map (subN leaf v)) x.args = widsOf nodes x.args := List.map_congr_left fun n _ => subN_wid nodes leaf v n
  generalize nodes.map (subN leaf v) = M at *
  unfold subN
  split
  · rename_i hs
    refine nodeE_of (show within 0 0 18 = true by decide) h2 rfl rfl ?_ rfl
    show unlE (fitsB v x.width) 2 = 0
    refine (unlE_z (by decide)).2 ?_
    unfold valE at h5
    rw [if_neg (by omega), if_pos hs.1] at h5
    split at h5
    · have : leaves.getD x.value.toNat 0 = x.width := by simpa using (unlE_z (by decide)).1 h5
      rw [hs.2] at this
      rw [← this]
      exact hv
    · exact absurd h5 (by decide)
  · refine nodeE_of h1 h2 h3 h4 h5 ?_
    rw [hW]
    exact h6
theorem subN_vals {leaves : List Int} {nodes : List Nod} (hc : (checkE leaves nodes).2 = 0) (L : List Int) {leaf : Int} (hv : fitsB (L.getD leaf.toNat 0) (leaves.getD leaf.toNat 0) = true) :
    valsN (nodes.map (subN leaf (L.getD leaf.toNat 0))) L (nodes.map (subN leaf (L.getD leaf.toNat 0))) [] = valsN nodes L nodes [] := by
  have hin : InG nodes := fun i x hx => args_in hc hx
  have hco := subN_ok hc hv
  have hin2 : InG (nodes.map (subN leaf (L.getD leaf.toNat 0))) := fun i x hx => args_in hco hx
  have hS := vals_sol (L := L) hin
  refine sol_uniq hin2 (vals_sol hin2) ⟨by rw [hS.len, List.length_map], fun k y hy => ?_⟩
  obtain ⟨x, hx, rfl⟩ := subN_at hy
  rw [hS.eq k x hx]
  have hW : widsOf (nodes.map (subN leaf (L.getD leaf.toNat 0))) x.args = widsOf nodes x.args := List.map_congr_left fun n _ => subN_wid nodes leaf _ n
  generalize nodes.map (subN leaf (L.getD leaf.toNat 0)) = M at *
  unfold subN
  split
  · rename_i hs
    unfold valN
    rw [if_pos hs.1, hs.2]
    rfl
  · unfold valN
    rw [hW]
end Go.Proofs.YtglelclmlkeheabGreatDoor.V

/- The errors of any graph, by the reference; whatever their arguments. -/
namespace Go.Proofs.YtglelclmlkeheabGreatDoor.V
open Go (IntKind BinOp UnOp)
variable {π : Id}
theorem argc_le : ∀ k, argc k ≤ 3
  | k => by unfold argc; (repeat' split) <;> omega
theorem e_nodeErrA (leaves : List Int) (hl : leaves.length ≤ 1000) (nodes : List Nod) (hnl : nodes.length ≤ 100000) (i : Nat) (x : Nod) (hx : nodes[i]? = some x) :
    EE π n_ratchetbase_nodeErr [.p (encInts leaves), .p (encNodes nodes), .p (I i)] [] = some (.p (I (nodeE leaves nodes i x)), []) := by
  by_cases hal : x.args.length ≤ 1000
  · exact e_nodeErr leaves hl nodes hnl i x hx hal
  have hi := (List.getElem?_eq_some_iff.1 hx).1
  have hx2 := (List.getElem?_eq_some_iff.1 hx).2
  unfold nodeE
  by_cases h1 : within x.op 0 18 = true
  · have h1' := within_iff.1 h1
    by_cases h2 : within x.width 1 16 = true
    · have hk : x.op.toNat < 19 := by omega
      have hopn : x.op = (x.op.toNat : Int) := by omega
      have hac := fun π => e_ArgCount (π := π) x.op.toNat hk
      rw [← hopn] at hac
      have h3 := argc_le x.op.toNat
      have h3' : ¬ (x.args.length : Int) = (argc x.op.toNat : Int) := by omega
      have h3'' : ¬ x.args.length = argc x.op.toNat := by omega
      simp [e_ratchetbase_nodeErr, run_eq, c_ratchetbase_nodeErr, hi, hx2, e_Within, e_IsWidth, h1, h2, hac, h3', h3'', freeze, evRO, firstE, unlE]
    · simp [e_ratchetbase_nodeErr, run_eq, c_ratchetbase_nodeErr, hi, hx2, e_Within, e_IsWidth, h1, h2, freeze, evRO, firstE, unlE]
  · simp [e_ratchetbase_nodeErr, run_eq, c_ratchetbase_nodeErr, hi, hx2, e_Within, e_IsWidth, h1, freeze, evRO, firstE, unlE]
theorem nds_loopA (leaves : List Int) (hl : leaves.length ≤ 1000) (nodes : List Nod) (hnl : nodes.length ≤ 100000) : ∀ (suf pre : List Nod) (x : Env × Sto), nodes = pre ++ suf → mask [0, 1, 6] [] x = some ([(0, .p (encInts leaves)), (1, .p (encNodes nodes)), (6, .p (I pre.length))], []) →
    kpO [] [4, 5] [] (bkO 0 (iter (round EE iter π [] [0, 1, 6] c_ratchetbase_NodesErr_L0) x)) = (if (eachE (nodeE leaves nodes) pre.length suf).2 = 0 then some (.nm, [], []) else some (.rt, [(4, .p (I (eachE (nodeE leaves nodes) pre.length suf).1)), (5, .p (I (eachE (nodeE leaves nodes) pre.length suf).2))], []))
  | [], pre, x, h, hm => by
    rw [loop_eq hm]
    subst h
    simp [u_ratchetbase_NodesErr_L0, b_ratchetbase_NodesErr_L0, eachE]
  | y :: suf, pre, x, h, hm => by
    rw [loop_eq hm]
    have hne := fun π => e_nodeErrA (π := π) leaves hl nodes hnl pre.length y (by rw [h]; simp)
    have hlt := lt_mid h
    have hnext := nds_loopA leaves hl nodes hnl suf (pre ++ [y])
    rw [show (pre ++ [y]).length = pre.length + 1 by simp] at hnext
    have he : eachE (nodeE leaves nodes) pre.length (y :: suf) = if nodeE leaves nodes pre.length y = 0 then eachE (nodeE leaves nodes) (pre.length + 1) suf else (pre.length, nodeE leaves nodes pre.length y) := rfl
    rw [he]
    generalize nodeE leaves nodes pre.length y = c at *
    generalize eachE (nodeE leaves nodes) (pre.length + 1) suf = q at *
    by_cases hc : c = 0
    · simp [u_ratchetbase_NodesErr_L0, b_ratchetbase_NodesErr_L0, lt_mid h, hne, hc]
      exact hnext _ (by simp [h]) (by simp [w_succ (lt_nat h) (show nodes.length ≤ top63 by simp only [top63]; omega)])
    · simp [u_ratchetbase_NodesErr_L0, b_ratchetbase_NodesErr_L0, lt_mid h, hne, hc]
theorem e_NodesErrBA (leaves : List Int) (hl : leaves.length ≤ 1000) (nodes : List Nod) :
    EE π n_ratchetbase_NodesErr [.p (encInts leaves), .p (encNodes nodes)] [] = some (.p (.tup [I (if 400 < nodes.length then (0, 8) else eachE (nodeE leaves nodes) 0 nodes).1, I (if 400 < nodes.length then (0, 8) else eachE (nodeE leaves nodes) 0 nodes).2]), []) := by
  by_cases h3 : 400 < nodes.length
  · have h3' : (400 : Int) < nodes.length := by omega
    simp [e_ratchetbase_NodesErr, run_eq, c_ratchetbase_NodesErr, h3, h3', freeze, evRO]
  · have h3' : ¬ (400 : Int) < nodes.length := by omega
    simp [e_ratchetbase_NodesErr, run_eq, c_ratchetbase_NodesErr, h3, h3', freeze, evRO]
    rw [nds_loopA leaves hl nodes (by omega) nodes [] _ rfl (by simp)]
    by_cases hf : (eachE (nodeE leaves nodes) 0 nodes).2 = 0
    · have h1 : (eachE (nodeE leaves nodes) 0 nodes).1 = 0 := eachE_0 _ 0 _ hf
      simp [hf, h1]
    · simp [hf]
theorem e_CheckNodesRA (leaves : List Int) (nodes : List Nod) :
    EE π n_ratchetref02_CheckNodes [.p (encInts leaves), .p (encNodes nodes)] [] = some (.p (.tup [I (checkE leaves nodes).1, I (checkE leaves nodes).2]), []) := by
  unfold checkE
  by_cases h1 : 40 < leaves.length
  · have h1' : (40 : Int) < leaves.length := by omega
    simp [e_ratchetref02_CheckNodes, run_eq, c_ratchetref02_CheckNodes, h1, h1', freeze, evRO]
  · have h1' : ¬ (40 : Int) < leaves.length := by omega
    have hlp := lv_loop (π := π) leaves (by omega) (encNodes nodes) leaves []
    have hnb := fun π => e_NodesErrBA (π := π) leaves (by omega) nodes
    rw [if_neg h1]
    simp [e_ratchetref02_CheckNodes, run_eq, c_ratchetref02_CheckNodes, h1', freeze, evRO]
    rw [hlp _ rfl (by simp)]
    simp only [List.length_nil]
    generalize (if 400 < nodes.length then (0, 8) else eachE (nodeE leaves nodes) 0 nodes) = q at *
    generalize eachE (fun _ n => unlE (within n 1 16) 2) 0 leaves = r at *
    by_cases h2 : r.2 = 0 <;> simp [h2, hnb, freeze, evRO]
theorem e_NodesErrA (leaves : List Int) (nodes : List Nod) :
    EE π n_ratchetref02_NodesErr [.p (encInts leaves), .p (encNodes nodes)] [] = some (.p (I (checkE leaves nodes).2), []) := by
  have hc := fun π => e_CheckNodesRA (π := π) leaves nodes
  simp [e_ratchetref02_NodesErr, run_eq, c_ratchetref02_NodesErr, hc, evRO]
theorem args_le {leaves : List Int} {nodes : List Nod} (h : (checkE leaves nodes).2 = 0) : ∀ x ∈ nodes, x.args.length ≤ 1000 := fun x hx => by
  obtain ⟨i, hi⟩ := List.getElem?_of_mem hx
  have := (nodeE_iff (checkE_nodes h i x hi)).2.2.1
  have h3 := argc_le x.op.toNat
  omega
theorem e_ValuesErrA (leaves values : List Int) (hll : leaves.length ≤ 1000) (hlw : ∀ n ∈ leaves, 1 ≤ n ∧ n ≤ 16) :
    EE π n_ratchetref02_ValuesErr [.p (encInts leaves), .p (encInts values)] [] = some (.p (I (valuesE leaves values)), []) := by
  by_cases hl : values.length = leaves.length
  · exact e_ValuesErr leaves values hlw (by omega)
  · unfold valuesE
    have hl' : ¬ (leaves.length : Int) = values.length := by omega
    rw [if_pos hl]
    simp [e_ratchetref02_ValuesErr, run_eq, c_ratchetref02_ValuesErr, hl']
end Go.Proofs.YtglelclmlkeheabGreatDoor.V

/- The arguments of chapter 2's laws. -/
namespace Go.Proofs.YtglelclmlkeheabGreatDoor.V
open Go (IntKind BinOp UnOp)
variable {π : Id}
theorem dec_listP {α : Type} (f : α → PV) (P : α → Prop) : ∀ l : List PV, (∀ y ∈ l, ∃ a, y = f a ∧ P a) → ∃ k : List α, l = k.map f ∧ ∀ a ∈ k, P a
  | [], _ => ⟨[], rfl, fun a h => by cases h⟩
  | y :: r, h => by
    obtain ⟨a, rfl, ha⟩ := h y List.mem_cons_self
    obtain ⟨k, rfl, hk⟩ := dec_listP f P r fun z hz => h z (List.mem_cons_of_mem _ hz)
    exact ⟨a :: k, rfl, fun b hb => by
      rcases List.mem_cons.1 hb with rfl | hb
      · exact ha
      · exact hk b hb⟩
theorem ok_wf {n : Int} (h : (Go.Lit.int .i64 n).wf = true) : ok64 n := by
  simp only [Go.Lit.wf, Bool.and_eq_true, decide_eq_true_eq] at h
  have h1 : IntKind.i64.min = -9223372036854775808 := by decide
  have h2 : IntKind.i64.max = 9223372036854775807 := by decide
  exact ⟨by omega, by omega⟩
theorem cel_int {x : PV} (h : Cel (.int .i64) x) : ∃ n, x = I n ∧ ok64 n := by
  simp only [Cel] at h
  obtain ⟨n, h, h2⟩ := h
  exact ⟨n, h, ok_wf h2⟩
theorem cel_ints {x : PV} (h : Cel (.sl 1 false [.int .i64]) x) : ∃ k : List Int, x = encInts k ∧ k.length ≤ top63 ∧ ∀ n ∈ k, ok64 n := by
  simp only [Cel, CelL] at h
  obtain ⟨l, rfl, hl, h⟩ := h
  obtain ⟨k, rfl, hk⟩ := dec_listP I ok64 l fun y hy => by
    obtain ⟨⟨x, ys, hc, ⟨n, hx, hn⟩, h0⟩, he⟩ := h y hy
    subst h0
    rw [hc] at he
    exact ⟨n, by rw [he, hx]; rfl, ok_wf hn⟩
  exact ⟨k, rfl, by simpa [Go.maxLen] using hl, hk⟩
abbrev NodOk (x : Nod) : Prop := ok64 x.op ∧ ok64 x.width ∧ ok64 x.value ∧ x.args.length ≤ top63 ∧ ∀ n ∈ x.args, ok64 n
theorem cel_nodes {x : PV} (h : Cel (.sl 4 true [.int .i64, .int .i64, .sl 1 false [.int .i64], .int .i64]) x) : ∃ k : List Nod, x = encNodes k ∧ k.length ≤ top63 ∧ ∀ p ∈ k, NodOk p := by
  rw [Cel] at h
  obtain ⟨l, rfl, hl, h⟩ := h
  obtain ⟨k, rfl, hk⟩ := dec_listP encNode NodOk l fun y hy => by
    obtain ⟨hc, he⟩ := h y hy
    simp only [CelL] at hc
    obtain ⟨a, r1, h1, ca, b, r2, h2, cb, c, r3, h3, cc, d, r4, h4, cd, h5⟩ := hc
    subst h5 h4 h3 h2
    rw [h1] at he
    obtain ⟨n1, rfl, k1⟩ := cel_int ca
    obtain ⟨n2, rfl, k2⟩ := cel_int cb
    obtain ⟨ar, rfl, k3, k4⟩ := cel_ints cc
    obtain ⟨n4, rfl, k5⟩ := cel_int cd
    exact ⟨⟨n1, n2, ar, n4⟩, he, k1, k2, k5, k3, k4⟩
  exact ⟨k, rfl, by simpa [Go.maxLen] using hl, hk⟩
theorem cel_ints1 {x : List PV} (h : CelL [.sl 1 false [.int .i64]] x) : ∃ k : List Int, x = [encInts k] ∧ k.length ≤ top63 ∧ ∀ n ∈ k, ok64 n := by
  simp only [CelL] at h
  obtain ⟨a, r1, h1, ca, h2⟩ := h
  subst h2
  obtain ⟨k, rfl, hk⟩ := cel_ints ca
  exact ⟨k, h1, hk⟩
theorem cel_nodes1 {x : List PV} (h : CelL [.sl 4 true [.int .i64, .int .i64, .sl 1 false [.int .i64], .int .i64]] x) : ∃ k : List Nod, x = [encNodes k] ∧ k.length ≤ top63 ∧ ∀ p ∈ k, NodOk p := by
  simp only [CelL] at h
  obtain ⟨a, r1, h1, ca, h2⟩ := h
  subst h2
  obtain ⟨k, rfl, hk⟩ := cel_nodes ca
  exact ⟨k, h1, hk⟩
end Go.Proofs.YtglelclmlkeheabGreatDoor.V

/- The chapter's examples. -/
namespace Go.Proofs.YtglelclmlkeheabGreatDoor.V
abbrev AwakeG (π : Id) : Prop := EE π n_ratchetlaw02_awake [] [] = some (.p (.bool true), [])
end Go.Proofs.YtglelclmlkeheabGreatDoor.V

/- The law GraphSame, in the evaluator: its loops. -/
namespace Go.Proofs.YtglelclmlkeheabGreatDoor.V
open Go (IntKind BinOp UnOp)
variable {π : Id}
structure SamOk (leaves : List Int) (nodes : List Nod) (vals fr : List Int) : Prop where
  nl : nodes.length ≤ 60
  fl : fr.length ≤ 60
  ck : (checkE leaves nodes).2 = 0
  va : valuesE leaves vals = 0
  fe : fromE nodes fr = 0
theorem same_few (leaves : List Int) (nodes : List Nod) (vals fr : List Int) (haw : AwakeG [42]) (h : ¬ SamOk leaves nodes vals fr) :
    EE [] n_ratchetlaw02_GraphSame [.p (encInts leaves), .p (encNodes nodes), .p (.agg [encInts vals, encInts fr])] [] = some (.p (.bool true), []) := by
  have haw : EE [42] n_ratchetlaw02_awake [] [] = some (.p (.bool true), []) := haw
  have hea := fun π => e_NodesErrA (π := π) leaves nodes
  by_cases h1 : nodes.length ≤ 60
  · have h1' : ¬ (60 : Int) < nodes.length := by omega
    by_cases h3 : fr.length ≤ 60
    · have h3' : ¬ (60 : Int) < fr.length := by omega
      by_cases h4 : (checkE leaves nodes).2 = 0
      · obtain ⟨hl, _, hlw⟩ := checkE_leaves h4
        rw [h4] at hea
        have hve := fun π => e_ValuesErrA (π := π) leaves vals (by omega) hlw
        by_cases h5 : valuesE leaves vals = 0
        · rw [h5] at hve
          have hfe := fun π => e_FromErr (π := π) nodes fr (by omega) (by omega)
          by_cases h6 : fromE nodes fr = 0
          · exact absurd ⟨h1, h3, h4, h5, h6⟩ h
          · simp [e_ratchetlaw02_GraphSame, run_eq, c_ratchetlaw02_GraphSame, haw, h1', h3', hea, hve, hfe, h6, freeze, evRO]
        · simp [e_ratchetlaw02_GraphSame, run_eq, c_ratchetlaw02_GraphSame, haw, h1', h3', hea, hve, h5, freeze, evRO]
      · simp [e_ratchetlaw02_GraphSame, run_eq, c_ratchetlaw02_GraphSame, haw, h1', h3', hea, h4, freeze, evRO]
    · have h3' : (60 : Int) < fr.length := by omega
      simp [e_ratchetlaw02_GraphSame, run_eq, c_ratchetlaw02_GraphSame, haw, h1', h3', freeze, evRO]
  · have h1' : (60 : Int) < nodes.length := by omega
    simp [e_ratchetlaw02_GraphSame, run_eq, c_ratchetlaw02_GraphSame, haw, h1', freeze, evRO]
abbrev bx5 (vals fr : List Int) : Sto := [([5], .box false [.p (encInts vals), .p (encInts fr)])]
structure MapsOk (k : Nat) (V M VA O VL : List Int) : Prop where
  vl : V.length = k
  ml : M.length = k
  ol : O.length = k
  ok : ∀ j, j < k → (0 ≤ M.getD j 0 ∧ M.getD j 0 < (VA.length : Int)) ∧ VA.getD (M.getD j 0).toNat 0 = V.getD j 0 ∧ (0 ≤ O.getD j 0 ∧ O.getD j 0 < (VL.length : Int)) ∧ VL.getD (O.getD j 0).toNat 0 = V.getD j 0 ∧ j < VL.length ∧ VL.getD j 0 = V.getD j 0
theorem getD_get {l : List Int} {i : Nat} (h : i < l.length) : l.getD i 0 = l[i] := by simp [List.getD, h]
set_option maxHeartbeats 1000000 in
theorem same_l0 (leaves : List Int) {nodes : List Nod} (vals fr V M VA O VL : List Int) (f7 f10 f18 f20 f26 : Option Bool) (A B N C : PV) (hnl : nodes.length ≤ 1000) (hal : VA.length ≤ 1000) (hvl : VL.length ≤ 1000) (hk : MapsOk nodes.length V M VA O VL) :
    ∀ (suf pre : List Nod) (y : Env × Sto), nodes = pre ++ suf →
    mask [0, 1, 5, 7, 9, 10, 12, 15, 18, 20, 24, 26, 28] [] y = some ([(0, .p (encInts leaves)), (1, .p (encNodes nodes)), (5, .ref [5] 0), (7, .p (.sl 1 f7 (ints V))), (9, .p A), (10, .p (.sl 1 f10 (ints M))), (12, .p B), (15, .p N), (18, .p (.sl 1 f18 (ints O))), (20, .p (.sl 1 f20 (ints VA))), (24, .p C), (26, .p (.sl 1 f26 (ints VL))), (28, .p (I pre.length))], bx5 vals fr) →
    kpO [0, 1, 5, 7, 9, 12, 15, 24] [6] [] (bkO 0 (iter (round EE iter [] [] [0, 1, 5, 7, 9, 10, 12, 15, 18, 20, 24, 26, 28] c_ratchetlaw02_GraphSame_L0) y)) = some (.nm, [(0, .p (encInts leaves)), (1, .p (encNodes nodes)), (5, .ref [5] 0), (7, .p (.sl 1 f7 (ints V))), (9, .p A), (12, .p B), (15, .p N), (24, .p C)], bx5 vals fr)
  | [], pre, y, h, hm => by
    rw [loop_eq hm]
    have : nodes = pre := by simpa using h
    simp [u_ratchetlaw02_GraphSame_L0, b_ratchetlaw02_GraphSame_L0, this]
  | z :: suf, pre, y, h, hm => by
    rw [loop_eq hm]
    have hlen : pre.length < nodes.length := by rw [h]; simp
    have hws := w_succ hlen (show nodes.length ≤ top63 by simp only [top63]; omega)
    obtain ⟨hm1, hm2, ho1, ho2, hl1, hl2⟩ := hk.ok pre.length hlen
    have hV := hk.vl
    have hM := hk.ml
    have hO := hk.ol
    have hnext := same_l0 leaves vals fr V M VA O VL f7 f10 f18 f20 f26 A B N C hnl hal hvl hk suf (pre ++ [z])
    rw [show (pre ++ [z]).length = pre.length + 1 by simp] at hnext
    have iV : pre.length < V.length := by omega
    have iM : pre.length < M.length := by omega
    have iO : pre.length < O.length := by omega
    rw [getD_get iM] at hm1 hm2
    rw [getD_get iO] at ho1 ho2
    rw [getD_get iV] at hm2 ho2 hl2
    rw [getD_get hl1] at hl2
    have eM : M[pre.length] = M[pre.length] := rfl
    generalize hmk : M[pre.length] = mk at *
    generalize hok : O[pre.length] = ok at *
    generalize hvk : V[pre.length] = vk at *
    have iA : mk.toNat < VA.length := by omega
    have iL : ok.toNat < VL.length := by omega
    rw [getD_get iA] at hm2
    rw [getD_get iL] at ho2
    have w1 : IntKind.i64.wrap ((VA.length : Int) - 1) = VA.length - 1 := w64 ⟨by omega, by omega⟩
    have w2 : IntKind.i64.wrap ((VL.length : Int) - 1) = VL.length - 1 := w64 ⟨by omega, by omega⟩
    have h1 : within mk 0 ((VA.length : Int) - 1) = true := within_iff.2 ⟨hm1.1, by omega⟩
    have h2 : within ok 0 ((VL.length : Int) - 1) = true := within_iff.2 ⟨ho1.1, by omega⟩
    simp [u_ratchetlaw02_GraphSame_L0, b_ratchetlaw02_GraphSame_L0, lt_mid h, iV, iM, iO, hmk, hok, hvk, e_Within, w1, w2, h1, h2, hm1.1, hm1.2, ho1.1, ho1.2, iA, iL, hm2, ho2, hl1, hl2, freeze, evRO]
    exact hnext _ (by simp [h]) (by simp [hws])
structure EndsOk (fr V E VC : List Int) : Prop where
  el : E.length = fr.length
  ok : ∀ j, j < fr.length → (0 ≤ E.getD j 0 ∧ E.getD j 0 < (VC.length : Int)) ∧ (0 ≤ fr.getD j 0 ∧ fr.getD j 0 < (V.length : Int)) ∧ VC.getD (E.getD j 0).toNat 0 = V.getD (fr.getD j 0).toNat 0
set_option maxHeartbeats 1000000 in
theorem same_l1 (leaves : List Int) (nodes : PV) (vals fr V E VC : List Int) (f7 f15 f24 : Option Bool) (A B : PV) (hfl : fr.length ≤ 1000) (hcl : VC.length ≤ 1000) (hk : EndsOk fr V E VC) :
    ∀ (d k : Nat) (y : Env × Sto), d + k = fr.length →
    mask [0, 1, 5, 7, 9, 12, 15, 24, 29] [] y = some ([(0, .p (encInts leaves)), (1, .p nodes), (5, .ref [5] 0), (7, .p (.sl 1 f7 (ints V))), (9, .p A), (12, .p B), (15, .p (.sl 1 f15 (ints E))), (24, .p (.sl 1 f24 (ints VC))), (29, .p (I k))], bx5 vals fr) →
    kpO [0, 1, 5, 7, 9, 12] [6] [] (bkO 2 (iter (round EE iter [] [] [0, 1, 5, 7, 9, 12, 15, 24, 29] c_ratchetlaw02_GraphSame_L1) y)) = some (.nm, [(0, .p (encInts leaves)), (1, .p nodes), (5, .ref [5] 0), (7, .p (.sl 1 f7 (ints V))), (9, .p A), (12, .p B)], bx5 vals fr)
  | 0, k, y, h, hm => by
    rw [loop_eq hm]
    have : k = E.length := by rw [hk.el]; omega
    simp [u_ratchetlaw02_GraphSame_L1, b_ratchetlaw02_GraphSame_L1, this]
  | d + 1, k, y, h, hm => by
    rw [loop_eq hm]
    have hlen : k < fr.length := by omega
    have hws : IntKind.i64.wrap ((k : Int) + 1) = ((k + 1 : Nat) : Int) := w64 ⟨by omega, by omega⟩
    obtain ⟨he, hf, hv⟩ := hk.ok k hlen
    have hnext := same_l1 leaves nodes vals fr V E VC f7 f15 f24 A B hfl hcl hk d (k + 1)
    have iE : k < E.length := by rw [hk.el]; exact hlen
    rw [getD_get iE] at he hv
    rw [getD_get hlen] at hf hv
    generalize hek : E[k] = ek at *
    generalize hfk : fr[k] = fk at *
    have iC : ek.toNat < VC.length := by omega
    have iV : fk.toNat < V.length := by omega
    rw [getD_get iC, getD_get iV] at hv
    have w1 : IntKind.i64.wrap ((VC.length : Int) - 1) = VC.length - 1 := w64 ⟨by omega, by omega⟩
    have h1 : within ek 0 ((VC.length : Int) - 1) = true := within_iff.2 ⟨he.1, by omega⟩
    simp [u_ratchetlaw02_GraphSame_L1, b_ratchetlaw02_GraphSame_L1, iE, hlen, hek, hfk, e_Within, w1, h1, he.1, he.2, hf.1, hf.2, iC, iV, hv, freeze, evRO]
    exact hnext _ (by omega) (by simp [hws])
set_option maxHeartbeats 1000000 in
theorem same_l2 {leaves : List Int} {nodes : List Nod} (vals fr : List Int) (f7 : Option Bool) (A B : PV) (hnl : nodes.length ≤ 400) (hc : (checkE leaves nodes).2 = 0) (hva : valuesE leaves vals = 0) :
    ∀ (d k : Nat) (y : Env × Sto), d + k = leaves.length →
    mask [0, 1, 5, 7, 9, 12, 30] [] y = some ([(0, .p (encInts leaves)), (1, .p (encNodes nodes)), (5, .ref [5] 0), (7, .p (.sl 1 f7 (ints (valsN nodes vals nodes [])))), (9, .p A), (12, .p B), (30, .p (I k))], bx5 vals fr) →
    kpO [0, 9, 12] [6] [] (bkO 4 (iter (round EE iter [] [] [0, 1, 5, 7, 9, 12, 30] c_ratchetlaw02_GraphSame_L2) y)) = some (.nm, [(0, .p (encInts leaves)), (9, .p A), (12, .p B)], [])
  | 0, k, y, h, hm => by
    rw [loop_eq hm]
    have : k = leaves.length := by omega
    simp [u_ratchetlaw02_GraphSame_L2, b_ratchetlaw02_GraphSame_L2, this]
  | d + 1, k, y, h, hm => by
    rw [loop_eq hm]
    have hlen : k < leaves.length := by omega
    obtain ⟨hll, _, hlw⟩ := checkE_leaves hc
    have hal := args_le hc
    have hL := leafOk_of hva
    have hvl := hL.len
    have iv : k < vals.length := by omega
    have hws : IntKind.i64.wrap ((k : Int) + 1) = ((k + 1 : Nat) : Int) := w64 ⟨by omega, by omega⟩
    have hnext := same_l2 vals fr f7 A B hnl hc hva d (k + 1)
    have hfit : fitsB (vals.getD ((k : Int)).toNat 0) (leaves.getD ((k : Int)).toNat 0) = true := by
      rw [Int.toNat_natCast]
      have := hL.ok k hlen
      have hw := hlw (leaves.getD k 0) (by rw [getD_get hlen]; exact List.getElem_mem hlen)
      unfold fitsB
      simp only [Bool.and_eq_true, decide_eq_true_eq]
      exact ⟨by omega, within_iff.2 ⟨this.1, by have := this.2; omega⟩⟩
    have hso := subN_ok hc (leaf := (k : Int)) hfit
    have hsv := subN_vals hc vals (leaf := (k : Int)) hfit
    have hcn := fun π => e_CopyNodes (π := π) nodes (by omega) hal
    have hsu := fun π => e_Substituted (π := π) leaves (by omega) nodes (by omega) hal (k : Int) (vals.getD ((k : Int)).toNat 0)
    have hse : subE leaves (checkE leaves nodes).2 (k : Int) (vals.getD ((k : Int)).toNat 0) = 0 := by
      unfold subE
      rw [if_neg (by simp [hc]), if_neg (by rw [within_iff.2 ⟨by omega, by omega⟩]; decide), if_neg (by rw [hfit]; decide)]
    simp only [hse, if_true] at hsu
    have hvo := fun π => e_ValuesOf (π := π) leaves (nodes.map (subN (k : Int) (vals.getD ((k : Int)).toNat 0))) vals (by omega) (by rw [List.length_map]; omega) (by omega) (args_le hso)
    simp only [hso, hva, hsv, ne_eq, not_true_eq_false, if_false] at hvo
    have hii := fun π => e_Ints (π := π) (valsN nodes vals nodes []) (valsN nodes vals nodes []) (by
      have := (vals_sol (L := vals) (nodes := nodes) (fun i x hx => args_in hc hx)).len
      simp only [top63]; omega)
    simp only [decide_true] at hii
    have g1 : PV.fg.PV.fgL (nodes.map fun x => encM (subN (k : Int) (vals.getD ((k : Int)).toNat 0) x)) = (nodes.map (subN (k : Int) (vals.getD ((k : Int)).toNat 0))).map encNode := by
      rw [← fgL_M, List.map_map]; rfl
    simp only [Int.toNat_natCast, getD_get iv] at hsu hvo g1
    simp only [encNodes] at hvo
    generalize valsN nodes vals nodes [] = V at *
    generalize hvk : vals[k] = vk at *
    generalize flagE (nodes.map (subN (k : Int) vk)) = fz at *
    generalize (nodes.map (subN (k : Int) vk)).map encNode = L2 at *
    generalize (nodes.map fun x => encM (subN (k : Int) vk x)) = R2 at *
    simp [u_ratchetlaw02_GraphSame_L2, b_ratchetlaw02_GraphSame_L2, hlen, iv, hvk, hcn, fgL_nodesC, hsu, g1, hvo, hii, toPV, reach, depth, freeze, evRO]
    exact hnext _ (by omega) (by simp [hws])
set_option maxHeartbeats 1000000 in
theorem same_l4 (fa : Option Bool) (out : List Nod) (hol : out.length ≤ 1000) (hxa : ∀ x ∈ out, x.args.length ≤ 1000) (hd : out.Nodup) (i : Nat) (hi : i < out.length) :
    ∀ (d k : Nat) (y : Env × Sto), d + k = i →
    mask [9, 40, 41] [] y = some ([(9, .p (.sl 4 fa (out.map encM))), (40, .p (I i)), (41, .p (I k))], []) →
    kpO [9, 40] [6] [] (bkO 8 (iter (round EE iter [] [] [9, 40, 41] c_ratchetlaw02_GraphSame_L4) y)) = some (.nm, [(9, .p (.sl 4 fa (out.map encM))), (40, .p (I i))], [])
  | 0, k, y, h, hm => by
    rw [loop_eq hm]
    have : k = i := by omega
    subst this
    generalize out.map encM = R at *
    simp [u_ratchetlaw02_GraphSame_L4, b_ratchetlaw02_GraphSame_L4]
  | d + 1, k, y, h, hm => by
    rw [loop_eq hm]
    have hlt : k < i := by omega
    have hws : IntKind.i64.wrap ((k : Int) + 1) = ((k + 1 : Nat) : Int) := w64 ⟨by omega, by omega⟩
    have hwi : IntKind.i64.wrap ((i : Int) + 1) = ((i + 1 : Nat) : Int) := w64 ⟨by omega, by omega⟩
    have hRl : (out.map encM).length = out.length := by simp
    have take1 : ∀ j (hj : j < out.length), ((out.map encM).drop j).take 1 = [encM out[j]] := fun j hj => by
      rw [List.drop_eq_getElem_cons (by rw [hRl]; exact hj)]
      simp
    have ti := take1 i hi
    have tk := take1 k (by omega)
    have hne : sameN out[i] out[k] = false := by
      cases hs : sameN out[i] out[k] with
      | false => rfl
      | true =>
        rw [sameN_iff] at hs
        have := (List.getElem_inj hd).1 hs
        omega
    have hs1 := fun π => e_Same1 (π := π) out[i] out[k] (hxa _ (List.getElem_mem hi))
    rw [hne] at hs1
    have hnext := same_l4 fa out hol hxa hd i hi d (k + 1)
    have c1 : (0 : Int) ≤ (i : Int) + 1 := by omega
    have c2 : (0 : Int) ≤ (k : Int) + 1 := by omega
    have c3 : i + 1 ≤ out.length := by omega
    have c4 : k + 1 ≤ out.length := by omega
    generalize out[i] = a at *
    generalize out[k] = b at *
    generalize out.map encM = R at *
    simp [u_ratchetlaw02_GraphSame_L4, b_ratchetlaw02_GraphSame_L4, hlt, hRl, hws, hwi, c1, c2, c3, c4, ti, tk, hs1, freeze, evRO]
    exact hnext _ (by omega) (by simp [hws])
set_option maxHeartbeats 1000000 in
theorem same_l3 (fa : Option Bool) (out : List Nod) (hol : out.length ≤ 1000) (hxa : ∀ x ∈ out, x.args.length ≤ 1000) (hd : out.Nodup) :
    ∀ (d k : Nat) (y : Env × Sto), d + k = out.length →
    mask [9, 40] [] y = some ([(9, .p (.sl 4 fa (out.map encM))), (40, .p (I k))], []) →
    kpO [] [6] [] (bkO 6 (iter (round EE iter [] [] [9, 40] c_ratchetlaw02_GraphSame_L3) y)) = some (.nm, [], [])
  | 0, k, y, h, hm => by
    rw [loop_eq hm]
    have hk : k = (out.map encM).length := by rw [List.length_map]; omega
    subst hk
    generalize out.map encM = R at *
    simp [u_ratchetlaw02_GraphSame_L3, b_ratchetlaw02_GraphSame_L3]
  | d + 1, k, y, h, hm => by
    rw [loop_eq hm]
    have hlt : k < out.length := by omega
    have hws : IntKind.i64.wrap ((k : Int) + 1) = ((k + 1 : Nat) : Int) := w64 ⟨by omega, by omega⟩
    have hRl : (out.map encM).length = out.length := by simp
    have h4 := same_l4 fa out hol hxa hd k hlt k 0
    have hnext := same_l3 fa out hol hxa hd d (k + 1)
    generalize out.map encM = R at *
    simp [u_ratchetlaw02_GraphSame_L3, b_ratchetlaw02_GraphSame_L3, hlt, hRl]
    rw [h4 _ (by omega) (by simp)]
    simp
    exact hnext _ (by omega) (by simp [hws])
end Go.Proofs.YtglelclmlkeheabGreatDoor.V

/- The law GraphSame, in the evaluator. -/
namespace Go.Proofs.YtglelclmlkeheabGreatDoor.V
open Go (IntKind BinOp UnOp)
variable {π : Id}
theorem maps_ok {leaves : List Int} {nodes : List Nod} (hc : (checkE leaves nodes).2 = 0) (hl : nodes.length ≤ 60) (L : List Int) :
    MapsOk nodes.length (valsN nodes L nodes []) (sharedN nodes [] []).2 (valsN (sharedN nodes [] []).1 L (sharedN nodes [] []).1 []) (atN nodes.length nodes.length) (valsN (nodes ++ nodes.map (shiftN nodes.length)) L (nodes ++ nodes.map (shiftN nodes.length)) []) := by
  have hin : InG nodes := fun i x hx => args_in hc hx
  have hs := (shared_all hin).1
  have hso := hs.ok hc (fun _ _ _ _ _ _ => trivial)
  have hao := app_ok2 hc (by omega)
  refine ⟨(vals_sol hin).len, hs.len, atN_len _ _, fun j hj => ?_⟩
  obtain ⟨h1, h2⟩ := hs.vals hc (fun _ _ _ _ _ _ => trivial) L j hj trivial
  obtain ⟨h3, h4⟩ := app_vals hc (by omega) L j hj
  have l1 := (vals_sol (L := L) (nodes := (sharedN nodes [] []).1) (fun i x hx => args_in hso hx)).len
  have l2 := (vals_sol (L := L) (nodes := nodes ++ nodes.map (shiftN nodes.length)) (fun i x hx => args_in hao hx)).len
  rw [List.length_append, List.length_map] at l2
  have ha : (atN nodes.length nodes.length).getD j 0 = ((nodes.length + j : Nat) : Int) := by
    unfold atN
    simp [List.getD, hj]
  rw [ha]
  refine ⟨by rw [l1]; exact h1, h2, ⟨by omega, by omega⟩, by rw [Int.toNat_natCast]; exact h4, by omega, h3⟩
theorem ends_ok {leaves : List Int} {nodes : List Nod} (hc : (checkE leaves nodes).2 = 0) (fr : List Int) (hfin : ∀ n ∈ fr, 0 ≤ n ∧ n < (nodes.length : Int)) (L : List Int) :
    EndsOk fr (valsN nodes L nodes []) (endsN (coneG nodes fr).2 fr) (valsN (coneG nodes fr).1 L (coneG nodes fr).1 []) := by
  have hin : InG nodes := fun i x hx => args_in hc hx
  have hs := cone_all hin fr
  have hP : ∀ (i : Nat) (x : Nod), nodes[i]? = some x → (belN nodes fr).getD i false = true → ∀ n ∈ x.args, (belN nodes fr).getD n.toNat false = true := fun i x hx hb => belN_cl hin fr i x hx hb
  have hso := hs.ok hc hP
  refine ⟨by simp, fun j hj => ?_⟩
  have hm := List.getElem_mem hj
  have hf := hfin _ hm
  have e1 : fr.getD j 0 = fr[j] := getD_get hj
  have e2 : (endsN (coneG nodes fr).2 fr).getD j 0 = (coneG nodes fr).2.getD fr[j].toNat 0 := by simp [List.getD, hj]
  obtain ⟨h1, h2⟩ := hs.vals hc hP L fr[j].toNat (by omega) (belN_from fr _ hm (by omega))
  have l1 := (vals_sol (L := L) (nodes := (coneG nodes fr).1) (fun i x hx => args_in hso hx)).len
  have l2 := (vals_sol (L := L) hin).len
  rw [e1, e2]
  exact ⟨by rw [l1]; exact h1, by omega, h2⟩
set_option maxRecDepth 20000 in
set_option maxHeartbeats 4000000 in
theorem same_true (leaves : List Int) (nodes : List Nod) (vals fr : List Int) (hv : ∀ x ∈ nodes, ok64 x.value) (haw : AwakeG [42]) (h : SamOk leaves nodes vals fr) :
    EE [] n_ratchetlaw02_GraphSame [.p (encInts leaves), .p (encNodes nodes), .p (.agg [encInts vals, encInts fr])] [] = some (.p (.bool true), []) := by
  obtain ⟨hnl, hfl, hc, hva, hfe0⟩ := h
  have haw : EE [42] n_ratchetlaw02_awake [] [] = some (.p (.bool true), []) := haw
  obtain ⟨hll, _, hlw⟩ := checkE_leaves hc
  have hal := args_le hc
  have h1' : ¬ (60 : Int) < nodes.length := by omega
  have h3' : ¬ (60 : Int) < fr.length := by omega
  have hea := fun π => e_NodesErrA (π := π) leaves nodes
  have hve := fun π => e_ValuesErrA (π := π) leaves vals (by omega) hlw
  have hfe := fun π => e_FromErr (π := π) nodes fr (by omega) (by omega)
  have hfin : ∀ n ∈ fr, 0 ≤ n ∧ n < (nodes.length : Int) := fun n hn => by
    have := within_iff.1 (List.all_eq_true.1 ((unlE_z (by decide)).1 hfe0) n hn)
    omega
  have hL := leafOk_of hva
  have hvl := hL.len
  have hin : InG nodes := fun i x hx => args_in hc hx
  have hsm := shared_all hin
  have hco := cone_all hin fr
  have hP : ∀ (i : Nat) (x : Nod), nodes[i]? = some x → (belN nodes fr).getD i false = true → ∀ n ∈ x.args, (belN nodes fr).getD n.toNat false = true := fun i x hx hb => belN_cl hin fr i x hx hb
  have c1 : (checkE leaves (sharedN nodes [] []).1).2 = 0 := hsm.1.ok hc (fun _ _ _ _ _ _ => trivial)
  have c2 := fold_ok hc
  have c3 : (checkE leaves (coneG nodes fr).1).2 = 0 := hco.ok hc hP
  have c4 := app_ok2 hc (by omega)
  have n1 : (sharedN nodes [] []).1.length ≤ nodes.length := hsm.1.le
  have n1m : (sharedN nodes [] []).2.length = nodes.length := hsm.1.len
  have n2 : (foldN nodes nodes []).length = nodes.length := by rw [foldN_len]; simp
  have n3 : (coneG nodes fr).1.length ≤ nodes.length := hco.le
  have n4 : (nodes ++ nodes.map (shiftN nodes.length)).length = nodes.length + nodes.length := by simp
  have n5 : (atN nodes.length nodes.length).length = nodes.length := atN_len _ _
  have n6 : (endsN (coneG nodes fr).2 fr).length = fr.length := by simp
  have v0 := (vals_sol (L := vals) hin).len
  have v1 := (vals_sol (L := vals) (nodes := (sharedN nodes [] []).1) (fun i x hx => args_in c1 hx)).len
  have v3 := (vals_sol (L := vals) (nodes := (coneG nodes fr).1) (fun i x hx => args_in c3 hx)).len
  have v4 := (vals_sol (L := vals) (nodes := nodes ++ nodes.map (shiftN nodes.length)) (fun i x hx => args_in c4 hx)).len
  have hmo := maps_ok hc hnl vals
  have heo := ends_ok hc fr hfin vals
  have hcn := fun π => e_CopyNodes (π := π) nodes (by omega) hal
  have hcf := fun π => e_CopyInts (π := π) (ints fr) (by simp only [List.length_map, room]; omega)
  have hv0 := fun π => e_ValuesOf (π := π) leaves nodes vals (by omega) (by omega) (by omega) hal
  have hsh := fun π => e_SharedOf (π := π) leaves nodes hal hv
  have hfo := fun π => e_FoldedOf (π := π) leaves nodes hal
  have hcon := fun π => e_ConeOf (π := π) leaves nodes fr (by omega) (by omega) hal
  have hap := fun π => e_Appended (π := π) leaves nodes nodes (by omega) (by omega) hal hal
  have hnm : namedE leaves nodes fr = 0 := by unfold namedE; rw [if_neg (by simp [hc])]; exact hfe0
  have hae : appE nodes.length nodes.length (checkE leaves nodes).2 (checkE leaves nodes).2 = 0 := by
    unfold appE
    rw [hc]
    simp only [firstE_cons, true_and]
    exact ⟨(unlE_z (by decide)).2 (by simp; omega), rfl⟩
  have hv1 := fun π => e_ValuesOf (π := π) leaves (sharedN nodes [] []).1 vals (by omega) (by omega) (by omega) (args_le c1)
  have hv2 := fun π => e_ValuesOf (π := π) leaves (foldN nodes nodes []) vals (by omega) (by omega) (by omega) (args_le c2)
  have hv3 := fun π => e_ValuesOf (π := π) leaves (coneG nodes fr).1 vals (by omega) (by omega) (by omega) (args_le c3)
  have hv4 := fun π => e_ValuesOf (π := π) leaves (nodes ++ nodes.map (shiftN nodes.length)) vals (by omega) (by omega) (by omega) (args_le c4)
  have hii := fun π => e_Ints (π := π) (valsN nodes vals nodes []) (valsN nodes vals nodes []) (by simp only [top63]; omega)
  have hcn1 := fun π => e_CopyNodes (π := π) (sharedN nodes [] []).1 (by omega) (args_le c1)
  have hcn2 := fun π => e_CopyNodes (π := π) (foldN nodes nodes []) (by omega) (args_le c2)
  have hsh1 := fun π => e_SharedOf (π := π) leaves (sharedN nodes [] []).1 (args_le c1) (fun y hy => by
    obtain ⟨k, hk⟩ := List.mem_iff_getElem?.1 hy
    obtain ⟨i, x, _, hx, _, rfl, _⟩ := hsm.1.bwd k y hk
    exact hv x (List.mem_of_getElem? hx))
  have hfo1 := fun π => e_FoldedOf (π := π) leaves (foldN nodes nodes []) (args_le c2)
  have hsa := shared_again (a := (sharedN nodes [] []).1) (fun i x hx => args_in c1 hx) hsm.2
  have hft := fold_twice hc
  have hs1 := fun π => e_SameNodes (π := π) (sharedN nodes [] []).1 (by omega) (args_le c1)
  have hs2 := fun π => e_SameNodes (π := π) (foldN nodes nodes []) (by omega) (args_le c2)
  have hfv := fold_vals hc vals
  have g1 := fgL_M (sharedN nodes [] []).1
  have g2 := fgL_M (foldN nodes nodes [])
  have g3 := fgL_M (coneG nodes fr).1
  have g4 := fgL_M (nodes ++ nodes.map (shiftN nodes.length))
  simp only [hc, ne_eq, not_true_eq_false, if_false, if_true, hva] at hv0 hsh hfo hea hve
  simp only [hnm, if_true] at hcon
  simp only [hae, if_true] at hap
  simp only [c1, ne_eq, not_true_eq_false, if_false, if_true, hva] at hv1 hsh1
  simp only [c2, ne_eq, not_true_eq_false, if_false, if_true, hva, hfv] at hv2 hfo1
  simp only [c3, ne_eq, not_true_eq_false, if_false, hva] at hv3
  simp only [c4, ne_eq, not_true_eq_false, if_false, hva] at hv4
  rw [hfe0] at hfe
  simp only [hsa] at hsh1
  simp only [hft] at hfo1
  simp only [decide_true] at hii
  have hl0 := same_l0 leaves vals fr _ _ _ _ _ (flagE nodes) (flagE (sharedN nodes [] []).2) (flagE nodes) (flagE (sharedN nodes [] []).1) (flagE (nodes ++ nodes.map (shiftN nodes.length))) (.sl 4 (flagE (sharedN nodes [] []).1) ((sharedN nodes [] []).1.map encM)) (.sl 4 (flagE (foldN nodes nodes [])) ((foldN nodes nodes []).map encM)) (.sl 1 (flagE fr) (ints (endsN (coneG nodes fr).2 fr))) (.sl 1 (flagE (coneG nodes fr).1) (ints (valsN (coneG nodes fr).1 vals (coneG nodes fr).1 []))) (by omega) (by rw [v1]; omega) (by rw [v4, n4]; omega) hmo nodes []
  have hl1 := same_l1 leaves (encNodes nodes) vals fr _ _ _ (flagE nodes) (flagE fr) (flagE (coneG nodes fr).1) (.sl 4 (flagE (sharedN nodes [] []).1) ((sharedN nodes [] []).1.map encM)) (.sl 4 (flagE (foldN nodes nodes [])) ((foldN nodes nodes []).map encM)) (by omega) (by rw [v3]; omega) heo fr.length 0
  have hl2 := same_l2 vals fr (flagE nodes) (.sl 4 (flagE (sharedN nodes [] []).1) ((sharedN nodes [] []).1.map encM)) (.sl 4 (flagE (foldN nodes nodes [])) ((foldN nodes nodes []).map encM)) (by omega) hc hva leaves.length 0
  have hl3 := same_l3 (flagE (sharedN nodes [] []).1) (sharedN nodes [] []).1 (by omega) (fun y hy => args_le c1 y hy) hsm.2 (sharedN nodes [] []).1.length 0
  have hw2 : IntKind.i64.wrap (2 * (nodes.length : Int)) = (nodes.length : Int) + nodes.length := by rw [w64 ⟨by omega, by omega⟩]; omega
  have q1 : ¬ ((nodes.length : Int) < ((sharedN nodes [] []).1.length : Int)) := by omega
  have q3 : ¬ ((nodes.length : Int) < ((coneG nodes fr).1.length : Int)) := by omega
  have r1 : ((sharedN nodes [] []).1.map encM).length = (sharedN nodes [] []).1.length := by simp
  have r2 : ((foldN nodes nodes []).map encM).length = nodes.length := by rw [List.length_map]; exact n2
  have r3 : ((coneG nodes fr).1.map encM).length = (coneG nodes fr).1.length := by simp
  have r4 : ((nodes ++ nodes.map (shiftN nodes.length)).map encM).length = nodes.length + nodes.length := by rw [List.length_map]; exact n4
  rw [n4] at v4
  have k1 := fgL_nodesC (sharedN nodes [] []).1
  have k2 := fgL_nodesC (foldN nodes nodes [])
  clear hsm hco c1 c2 c3 c4 hmo heo hsa hft hfv hP hin hae hnm hv hva hfin hL hc hfe0
  simp only [encNodes] at hv1 hv2 hv3 hv4 hs1 hs2 hsh1 hfo1 hcn1 hcn2
  generalize valsN nodes vals nodes [] = V at *
  generalize valsN (sharedN nodes [] []).1 vals (sharedN nodes [] []).1 [] = VA at *
  generalize valsN (coneG nodes fr).1 vals (coneG nodes fr).1 [] = VC at *
  generalize valsN (nodes ++ nodes.map (shiftN nodes.length)) vals (nodes ++ nodes.map (shiftN nodes.length)) [] = VL at *
  generalize endsN (coneG nodes fr).2 fr = E at *
  generalize (sharedN (sharedN nodes [] []).1 [] []).2 = TO at *
  generalize (sharedN nodes [] []).2 = M at *
  generalize (sharedN nodes [] []).1 = S1 at *
  generalize (coneG nodes fr).1 = S3 at *
  generalize foldN nodes nodes [] = S2 at *
  generalize nodes ++ nodes.map (shiftN nodes.length) = S4 at *
  generalize atN nodes.length nodes.length = AT at *
  generalize S1.map encM = R1 at *
  generalize S2.map encM = R2 at *
  generalize S3.map encM = R3 at *
  generalize S4.map encM = R4 at *
  generalize S1.map encNode = L1 at *
  generalize S2.map encNode = L2 at *
  generalize S3.map encNode = L3 at *
  generalize S4.map encNode = L4 at *
  generalize S1.map encNodeC = K1 at *
  generalize S2.map encNodeC = K2 at *
  generalize flagE S1 = f1 at *
  generalize flagE S2 = f2 at *
  generalize flagE S3 = f3 at *
  generalize flagE S4 = f4 at *
  generalize flagE fr = f5 at *
  generalize flagE M = f6 at *
  generalize flagE (nodes ++ nodes) = f8 at *
  generalize flagE nodes = f7 at *
  simp (config := { maxSteps := 2000000 }) [e_ratchetlaw02_GraphSame, run_eq, c_ratchetlaw02_GraphSame, haw, h1', h3', hea, hve, hfe, hcn, hcf, fgL_nodesC, hv0, hsh, hfo, hcon, hap, g1, g2, g3, g4, hv1, hv2, hv3, hv4, hii, v0, v1, v3, v4, n1m, n5, n6, hw2, q1, q3, r1, r2, r3, r4, toPV, reach, depth, freeze, evRO]
  rw [hl0 _ rfl (by simp)]
  simp
  rw [hl1 _ (by omega) (by simp)]
  simp
  rw [hl2 _ (by omega) (by simp)]
  simp [hcn1, hcn2, k1, k2, hsh1, hfo1, g1, g2, hs1, hs2, toPV, reach, depth, freeze, evRO]
  rw [hl3 _ (by omega) (by simp)]
  simp
end Go.Proofs.YtglelclmlkeheabGreatDoor.V
