/- The values of a graph, in the program. Depths, what is below some nodes, and their leaves: in plain terms. Errors of values and of nodes that are named. What is below some nodes, in the program: a round. What is below some nodes, in the program. What is below some nodes, by the reference. A cone, in -/
import Derived.Test.YtglelclmlkeheaaGreatDoorS2
import Derived.Test.YtglelclmlkeheaaGreatDoorK5
import Derived.Test.YtglelclmlkeheaaGreatDoorS1

set_option linter.unusedSimpArgs false
set_option linter.unusedVariables false

/- The values of a graph, in the program. -/
namespace Go.Proofs.YtglelclmlkeheaaGreatDoor.V
open Go (IntKind BinOp UnOp)
variable {π : Id}
end Go.Proofs.YtglelclmlkeheaaGreatDoor.V

/- Depths, what is below some nodes, and their leaves: in plain terms. -/
namespace Go.Proofs.YtglelclmlkeheaaGreatDoor.V
def depStep (i : Nat) (o : List Int) (n : Int) : List Int := o.set i (if o.getD i 0 < o.getD n.toNat 0 + 1 then o.getD n.toNat 0 + 1 else o.getD i 0)
def depArgs (i : Nat) : List Int → List Int → List Int
  | [], o => o
  | n :: r, o => depArgs i r (depStep i o n)
structure DepI (k : Nat) (o : List Int) : Prop where
  len : o.length = k
  ok : ∀ j : Nat, j < k → 0 ≤ o.getD j 0 ∧ o.getD j 0 ≤ j
theorem getD_set {α : Type} (o : List α) (i j : Nat) (v d : α) (hi : i < o.length) : (o.set i v).getD j d = if i = j then v else o.getD j d := by
  simp only [List.getD, List.getElem?_set]
  by_cases h : i = j
  · subst h; simp [hi]
  · simp [h]
theorem DepI.step {k : Nat} {o : List Int} (h : DepI k o) {i : Nat} {n : Int} (hi : i < k) (hn : 0 ≤ n ∧ n < i) : DepI k (depStep i o n) := by
  have hl := h.len
  refine ⟨by unfold depStep; simp [hl], fun j hj => ?_⟩
  unfold depStep
  rw [getD_set _ _ _ _ _ (by omega)]
  have h1 := h.ok i hi
  have h2 := h.ok n.toNat (by omega)
  have h3 := h.ok j hj
  split
  · subst j
    split <;> omega
  · exact h3
theorem DepI.args {k : Nat} {i : Nat} (hi : i < k) : ∀ (l : List Int) {o : List Int}, DepI k o → (∀ n ∈ l, 0 ≤ n ∧ n < (i : Int)) → DepI k (depArgs i l o)
  | [], _, h, _ => h
  | n :: r, _, h, hn => DepI.args hi r (h.step hi (hn n (by simp))) fun m hm => hn m (by simp [hm])
theorem DepI.zero (k : Nat) : DepI k (List.replicate k 0) := ⟨by simp, fun j hj => by simp [List.getD, hj]⟩
def markAll : List Int → List Bool → List Bool
  | [], o => o
  | n :: r, o => markAll r (o.set n.toNat true)
theorem markAll_len : ∀ (l : List Int) (o : List Bool), (markAll l o).length = o.length
  | [], _ => rfl
  | n :: r, o => by rw [markAll, markAll_len r]; simp
theorem markAll_get : ∀ (l : List Int) (o : List Bool) (j : Nat), j < o.length → (markAll l o).getD j false = (o.getD j false || l.any fun n => n.toNat = j)
  | [], o, j, h => by simp [markAll]
  | n :: r, o, j, h => by
    rw [markAll, markAll_get r _ j (by simpa using h)]
    by_cases hn : n.toNat = j
    · rw [getD_set _ _ _ _ _ (by omega)]; simp [hn]
    · have : (o.set n.toNat true).getD j false = o.getD j false := by simp only [List.getD, List.getElem?_set]; simp [hn]
      rw [this]; simp [hn]
def belDown (nodes : List Nod) : Nat → List Bool → List Bool
  | 0, o => o
  | k + 1, o => belDown nodes k (match nodes[k]? with | some x => if o.getD k false then markAll x.args o else o | none => o)
theorem belDown_len (nodes : List Nod) : ∀ (k : Nat) (o : List Bool), (belDown nodes k o).length = o.length
  | 0, _ => rfl
  | k + 1, o => by
    rw [belDown, belDown_len nodes k]
    split
    · split
      · exact markAll_len _ _
      · rfl
    · rfl
def belN (nodes : List Nod) (from_ : List Int) : List Bool := belDown nodes nodes.length (markAll from_ (List.replicate nodes.length false))
theorem belN_len (nodes : List Nod) (from_ : List Int) : (belN nodes from_).length = nodes.length := by
  unfold belN; rw [belDown_len, markAll_len]; simp
end Go.Proofs.YtglelclmlkeheaaGreatDoor.V

/- Errors of values and of nodes that are named. -/
namespace Go.Proofs.YtglelclmlkeheaaGreatDoor.V
open Go (IntKind BinOp UnOp)
variable {π : Id}
def fromE (nodes : List Nod) (fr : List Int) : Int := unlE (argsIn nodes.length fr) 6
def namedE (leaves : List Int) (nodes : List Nod) (fr : List Int) : Int := if (checkE leaves nodes).2 ≠ 0 then (checkE leaves nodes).2 else fromE nodes fr
theorem e_namedErr1 (nodes : List Nod) (hnl : nodes.length ≤ 100000) (n : Int) : EE π n_graph_namedErr_1 [.p (I n), .p (.ptr [encNodes nodes])] [] = some (.p (.bool (!within n 0 ((nodes.length : Int) - 1))), []) := by
  have hw : IntKind.i64.wrap ((nodes.length : Int) - 1) = nodes.length - 1 := w64 ⟨by omega, by omega⟩
  simp [e_graph_namedErr_1, run_eq, c_graph_namedErr_1, hw, e_withinG]
theorem e_namedErr (leaves : List Int) (nodes : List Nod) (fr : List Int) (hnl : nodes.length ≤ 100000) (hfl : fr.length ≤ 1000) (hal : ∀ x ∈ nodes, x.args.length ≤ 1000) :
    EE π n_graph_namedErr [.p (encInts leaves), .p (encNodes nodes), .p (encInts fr)] [] = some (.p (I (namedE leaves nodes fr)), []) := by
  have hge := fun π => e_graphErr (π := π) leaves nodes hal
  have hcf := fun π => e_ContainsFuncI (π := π) fr (by simp only [top63]; omega) (f := n_graph_namedErr_1) (caps := [.ptr [encNodes nodes]]) (p := fun n => !within n 0 ((nodes.length : Int) - 1)) (fun n _ => by simpa using e_namedErr1 nodes hnl n)
  have hany : (fr.any fun n => !within n 0 ((nodes.length : Int) - 1)) = !argsIn nodes.length fr := by unfold argsIn; rw [List.any_eq_not_all_not]; simp
  rw [hany] at hcf
  unfold namedE fromE
  generalize (checkE leaves nodes).2 = c at *
  generalize argsIn nodes.length fr = b at *
  by_cases hc : c = 0 <;> simp [e_graph_namedErr, run_eq, c_graph_namedErr, hge, hcf, e_unlessG, e_first2G, firstE, hc, evRO, freeze]
  exact fun h => h.symm
theorem e_IsNode (nodes : List Nod) (hnl : nodes.length ≤ 100000) (n : Int) : EE π n_ratchetbase_IsNode [.p (encNodes nodes), .p (I n)] [] = some (.p (.bool (within n 0 ((nodes.length : Int) - 1))), []) := by
  have hw : IntKind.i64.wrap ((nodes.length : Int) - 1) = nodes.length - 1 := w64 ⟨by omega, by omega⟩
  simp [e_ratchetbase_IsNode, run_eq, c_ratchetbase_IsNode, hw, e_Within]
theorem fromErr_loop (nodes : List Nod) (hnl : nodes.length ≤ 100000) (fr : List Int) (hfl : fr.length ≤ 1000) :
    ∀ (suf pre : List Int) (y : Env × Sto), fr = pre ++ suf →
    mask [0, 1, 5] [] y = some ([(0, .p (encNodes nodes)), (1, .p (encInts fr)), (5, .p (I pre.length))], []) →
    kpO [] [4] [] (bkO 0 (iter (round EE iter π [] [0, 1, 5] c_ratchetref02_FromErr_L0) y)) = if argsIn nodes.length suf = true then some (.nm, [], []) else some (.rt, [(4, .p (I 6))], [])
  | [], pre, y, h, hm => by
    rw [loop_eq hm]
    have : fr = pre := by simpa using h
    simp [u_ratchetref02_FromErr_L0, b_ratchetref02_FromErr_L0, argsIn, ← this]
  | z :: suf, pre, y, h, hm => by
    rw [loop_eq hm]
    have hlen : pre.length < fr.length := by rw [h]; simp
    have hws := w_succ hlen (show fr.length ≤ top63 by simp only [top63]; omega)
    have hnext := fromErr_loop nodes hnl fr hfl suf (pre ++ [z])
    rw [show (pre ++ [z]).length = pre.length + 1 by simp] at hnext
    have hi := fun π => e_IsNode (π := π) nodes hnl z
    have ha : argsIn nodes.length (z :: suf) = (within z 0 ((nodes.length : Int) - 1) && argsIn nodes.length suf) := by simp [argsIn]
    rw [ha]
    generalize argsIn nodes.length suf = b at *
    generalize within z 0 ((nodes.length : Int) - 1) = c at *
    cases c with
    | true =>
      simp [u_ratchetref02_FromErr_L0, b_ratchetref02_FromErr_L0, lt_mid h, get_mid _ h, hi]
      exact hnext _ (by simp [h]) (by simp [hws])
    | false => simp [u_ratchetref02_FromErr_L0, b_ratchetref02_FromErr_L0, lt_mid h, get_mid _ h, hi]
theorem e_FromErr (nodes : List Nod) (fr : List Int) (hnl : nodes.length ≤ 100000) (hfl : fr.length ≤ 1000) :
    EE π n_ratchetref02_FromErr [.p (encNodes nodes), .p (encInts fr)] [] = some (.p (I (fromE nodes fr)), []) := by
  have hl := fromErr_loop (π := π) nodes hnl fr hfl fr []
  unfold fromE
  generalize argsIn nodes.length fr = b at *
  simp [e_ratchetref02_FromErr, run_eq, c_ratchetref02_FromErr]
  rw [hl _ rfl (by simp)]
  cases b <;> simp [unlE]
end Go.Proofs.YtglelclmlkeheaaGreatDoor.V

/- What is below some nodes, in the program: a round. -/
namespace Go.Proofs.YtglelclmlkeheaaGreatDoor.V
open Go (IntKind BinOp UnOp)
variable {π κ : Id}
abbrev bools (l : List Bool) : List PV := l.map PV.bool
abbrev rowB (i : Id) (nl : Option Bool) (L : List Bool) : Id × Blk := (i, .row false t_bool 1 nl (bools L))
abbrev frB (π : Id) (st : FSt) : Id × Blk := (2000000 :: π, .frm π 51 [(5, .ref (5 :: π) 0)] [27, 28] c_graph_below_R0A c_graph_below_R0B st)
abbrev k0W (π : Id) : List Id := [2000000 :: π, 1 :: 26 :: π, 5 :: π, 14 :: π]
abbrev k0V (π : Id) : List Id := [2000000 :: π, 5 :: π, 14 :: π]
abbrev stBr (π : Id) (o : List Bool) : Sto := [(5 :: π, .box false [.ap (14 :: π)]), rowB (14 :: π) (some false) o]
abbrev stBl (π : Id) (nodes : List Nod) (o : List Bool) : Sto := [(1 :: 26 :: π, .box false [.p (encNodes nodes)]), (5 :: π, .box false [.ap (14 :: π)]), rowB (14 :: π) (some false) o]
theorem set_same {α : Type} (l : List α) (i : Nat) (h : i < l.length) : l.set i l[i] = l := List.set_getElem_self h
theorem bel_loop1 (i : Nat) (b : Bool) (args : List Int) (hal : args.length ≤ 1000) (hin : ∀ n ∈ args, 0 ≤ n ∧ n < (i : Int)) :
    ∀ (suf pre : List Int) (o : List Bool) (y : Env × Sto), args = pre ++ suf → o[i]? = some b →
    mask [5, 8, 30, 31, 32] (k0V π) y = some ([(5, .ref (5 :: π) 0), (8, .p (I i)), (30, .p (encInts args)), (31, .p (I args.length)), (32, .p (I pre.length))], frB π .busy :: stBr π o) →
    kpO [] [] (k0V π) (bkO 4 (iter (round EE iter π (k0V π) [5, 8, 30, 31, 32] c_graph_below_L1) y)) = some (.nm, [], frB π .busy :: stBr π (if b = true then markAll suf o else o))
  | [], pre, o, y, h, hb, hm => by
    rw [loop_eq hm]
    have : args = pre := by simpa using h
    have hr : (if b = true then markAll [] o else o) = o := by cases b <;> rfl
    rw [hr]
    simp [u_graph_below_L1, b_graph_below_L1, ← this]
  | z :: suf, pre, o, y, h, hb, hm => by
    rw [loop_eq hm]
    have hlen : pre.length < args.length := by rw [h]; simp
    have hz := hin z (by rw [h]; simp)
    have hws := w_succ hlen (show args.length ≤ top63 by simp only [top63]; omega)
    have hi := (List.getElem?_eq_some_iff.1 hb).1
    have hbi := (List.getElem?_eq_some_iff.1 hb).2
    have hzl : z.toNat < o.length := by omega
    have hnext := bel_loop1 i b args hal hin suf (pre ++ [z])
    rw [show (pre ++ [z]).length = pre.length + 1 by simp] at hnext
    cases b with
    | true =>
      have hn := hnext (o.set z.toNat true)
      rw [if_pos rfl] at hn ⊢
      rw [markAll]
      generalize markAll suf (o.set z.toNat true) = R at *
      have hb' : (o.set z.toNat true)[i]? = some true := by rw [List.getElem?_set_ne (by omega)]; exact hb
      by_cases hv : o[z.toNat] = true
      · simp [u_graph_below_L1, b_graph_below_L1, lt_mid h, get_mid _ h, hz.1, hi, hbi, hzl, hv, evRO]
        refine hn _ (by simp [h]) hb' ?_
        simp [hws]
        rfl
      · simp [u_graph_below_L1, b_graph_below_L1, lt_mid h, get_mid _ h, hz.1, hi, hbi, hzl, hv, evRO]
        refine hn _ (by simp [h]) hb' ?_
        simp [hws]
        rfl
    | false =>
      have hn := hnext o
      rw [if_neg (by decide)] at hn ⊢
      have hs : (bools o).set z.toNat (PV.bool o[z.toNat]) = bools o := by rw [← List.map_set, set_same o z.toNat hzl]
      by_cases hv : o[z.toNat] = true
      · simp [u_graph_below_L1, b_graph_below_L1, lt_mid h, get_mid _ h, hz.1, hi, hbi, hzl, hv, evRO]
        refine hn _ (by simp [h]) hb ?_
        simp [hws]
        rw [hv] at hs
        exact hs
      · simp [u_graph_below_L1, b_graph_below_L1, lt_mid h, get_mid _ h, hz.1, hi, hbi, hzl, hv, evRO]
        refine hn _ (by simp [h]) hb ?_
        simp [hws]
        rw [show o[z.toNat] = false by simpa using hv] at hs
        exact hs
theorem e_yldB {args : List AV} {s : Sto} : EE κ yieldF args s = runY EE iter args s := E_yld
theorem e_roundB (i : Nat) (x : Nod) (b : Bool) (o : List Bool) (hal : x.args.length ≤ 1000) (hin : ∀ n ∈ x.args, 0 ≤ n ∧ n < (i : Int)) (hb : o[i]? = some b) :
    EE κ yieldF [.p (I i), .p (encNode x), .yld (2000000 :: π)] (frB π .ready :: stBr π o) = some (.p (.bool true), frB π .ready :: stBr π (if b = true then markAll x.args o else o)) := by
  have hl := bel_loop1 (π := π) i b x.args hal hin x.args [] o
  rw [e_yldB]
  generalize (if b = true then markAll x.args o else o) = R at *
  simp [runY, u_graph_below_R0A, b_graph_below_R0A, u_graph_below_R0B, b_graph_below_R0B]
  rw [hl _ rfl hb (by simp)]
  simp
end Go.Proofs.YtglelclmlkeheaaGreatDoor.V

/- What is below some nodes, in the program. -/
namespace Go.Proofs.YtglelclmlkeheaaGreatDoor.V
open Go (IntKind BinOp UnOp)
variable {π κ : Id}
theorem evC_rf {C : Call} {L : Loop} {k0 : List Id} {e : Env} {s : Sto} (g : Opd) (nt site : Nat) (live ps : List Nat) (a b : IR) : evC C L π k0 (.rf g nt site live ps a b) e s =
    if s.has ((2000000 + site) :: π) then none else match fnOf (g.get e) (.yld ((2000000 + site) :: π)) with
    | some (k, args) => if k = yieldF then none else match C ((3000000 + site) :: π) k args (((2000000 + site) :: π, .frm π nt (e.keep live) ps a b .ready) :: s) with
      | some (_, s1) => rfO k0 ((2000000 + site) :: π) ((rowIds s).foldl Env.kill e) s1
      | none => none
    | none => none := by
  rw [evC] <;> rfl
theorem back_loopB (nodes : List Nod) (hnl : nodes.length ≤ 100000) (hal : ∀ x ∈ nodes, x.args.length ≤ 1000) (hin : ∀ (i : Nat) (x : Nod), nodes[i]? = some x → ∀ n ∈ x.args, 0 ≤ n ∧ n < (i : Int)) : ∀ (k : Nat) (o : List Bool) (x : Env × Sto), k ≤ nodes.length → o.length = nodes.length →
    mask [0, 1, 3] (k0W π) x = some ([(0, .yld (2000000 :: π)), (1, .ref (1 :: 26 :: π) 0), (3, .p (I ((k : Int) - 1)))], frB π .ready :: stBl π nodes o) →
    kpO [] [] (k0W π) (bkO 0 (iter (round EE iter κ (k0W π) [0, 1, 3] c_slices_Backward_api_Node_api_Node_1_L0) x)) = some (.nm, [], frB π .ready :: stBl π nodes (belDown nodes k o))
  | 0, o, x, hk, ho, hm => by
    rw [loop_eq hm]
    simp [u_slices_Backward_api_Node_api_Node_1_L0, b_slices_Backward_api_Node_api_Node_1_L0, belDown]
  | k + 1, o, x, hk, ho, hm => by
    rw [loop_eq hm]
    have hkl : k < nodes.length := by omega
    have hpk : nodes[k]? = some nodes[k] := List.getElem?_eq_getElem hkl
    generalize hp : nodes[k] = p at hpk
    have hmem : p ∈ nodes := List.mem_of_getElem? hpk
    have hko : k < o.length := by omega
    have hb : o[k]? = some (o.getD k false) := by simp [List.getD, hko]
    have hc := fun κ => e_roundB (κ := κ) (π := π) k p (o.getD k false) o (hal p hmem) (hin k p hpk) hb
    have hw : IntKind.i64.wrap ((k : Int) - 1) = (k : Int) - 1 := w64 ⟨by omega, by omega⟩
    have hnext := back_loopB nodes hnl hal hin k (if o.getD k false = true then markAll p.args o else o)
    have hlen : (if o.getD k false = true then markAll p.args o else o).length = nodes.length := by
      split
      · rw [markAll_len]; exact ho
      · exact ho
    rw [belDown, hpk]
    simp only
    generalize (if o.getD k false = true then markAll p.args o else o) = R at *
    have e1 : ((k + 1 : Nat) : Int) - 1 = k := by omega
    rw [e1] at *
    simp [u_slices_Backward_api_Node_api_Node_1_L0, b_slices_Backward_api_Node_api_Node_1_L0, hkl, hp, hc]
    refine hnext _ (by omega) hlen ?_
    simp [hw]
theorem e_backB (nodes : List Nod) (hnl : nodes.length ≤ 100000) (hal : ∀ x ∈ nodes, x.args.length ≤ 1000) (hin : ∀ (i : Nat) (x : Nod), nodes[i]? = some x → ∀ n ∈ x.args, 0 ≤ n ∧ n < (i : Int)) (o : List Bool) (ho : o.length = nodes.length) :
    EE κ n_slices_Backward_api_Node_api_Node_1 [.yld (2000000 :: π), .ref (1 :: 26 :: π) 0] (frB π .ready :: stBl π nodes o) = some (.p (.tup []), frB π .ready :: stBl π nodes (belDown nodes nodes.length o)) := by
  have hlp := back_loopB (κ := κ) (π := π) nodes hnl hal hin nodes.length o
  have hw : IntKind.i64.wrap ((nodes.length : Int) - 1) = (nodes.length : Int) - 1 := w64 ⟨by omega, by omega⟩
  generalize belDown nodes nodes.length o = R' at *
  simp [e_slices_Backward_api_Node_api_Node_1, run_eq, c_slices_Backward_api_Node_api_Node_1, hw]
  rw [hlp _ (by omega) ho (by simp)]
  simp
theorem mark_loop (nodes : List Nod) (fr : List Int) (hfl : fr.length ≤ 1000) (hin : ∀ n ∈ fr, 0 ≤ n ∧ n < (nodes.length : Int)) :
    ∀ (suf pre : List Int) (o : List Bool) (y : Env × Sto), fr = pre ++ suf → o.length = nodes.length →
    mask [0, 4, 5, 15, 16, 17] [] y = some ([(0, .p (encNodes nodes)), (4, .p (.sl 1 (some true) [])), (5, .ref (5 :: π) 0), (15, .p (encInts fr)), (16, .p (I fr.length)), (17, .p (I pre.length))], [(5 :: π, .box false [.ap (14 :: π)]), rowB (14 :: π) (some false) o]) →
    kpO [0, 4, 5] [4] [] (bkO 0 (iter (round EE iter π [] [0, 4, 5, 15, 16, 17] c_graph_below_L0) y)) = some (.nm, [(0, .p (encNodes nodes)), (4, .p (.sl 1 (some true) [])), (5, .ref (5 :: π) 0)], [(5 :: π, .box false [.ap (14 :: π)]), rowB (14 :: π) (some false) (markAll suf o)])
  | [], pre, o, y, h, ho, hm => by
    rw [loop_eq hm]
    have : fr = pre := by simpa using h
    simp [u_graph_below_L0, b_graph_below_L0, markAll, ← this]
  | z :: suf, pre, o, y, h, ho, hm => by
    rw [loop_eq hm]
    have hlen : pre.length < fr.length := by rw [h]; simp
    have hz := hin z (by rw [h]; simp)
    have hws := w_succ hlen (show fr.length ≤ top63 by simp only [top63]; omega)
    have hzl : z.toNat < o.length := by omega
    have hnext := mark_loop nodes fr hfl hin suf (pre ++ [z]) (o.set z.toNat true)
    rw [show (pre ++ [z]).length = pre.length + 1 by simp] at hnext
    rw [markAll]
    generalize markAll suf (o.set z.toNat true) = R at *
    simp [u_graph_below_L0, b_graph_below_L0, lt_mid h, get_mid _ h, hz.1, hzl]
    refine hnext _ (by simp [h]) (by simpa using ho) ?_
    simp [hws]
    rfl
theorem e_below (nodes : List Nod) (hnl : nodes.length ≤ 100000) (hal : ∀ x ∈ nodes, x.args.length ≤ 1000) (hin : ∀ (i : Nat) (x : Nod), nodes[i]? = some x → ∀ n ∈ x.args, 0 ≤ n ∧ n < (i : Int)) (fr : List Int) (hfl : fr.length ≤ 1000) (hfin : ∀ n ∈ fr, 0 ≤ n ∧ n < (nodes.length : Int)) :
    EE π n_graph_below [.p (encNodes nodes), .p (encInts fr)] [] = some (.ap (14 :: π), [rowB (14 :: π) (some false) (belN nodes fr)]) := by
  have hml := mark_loop (π := π) nodes fr hfl hfin fr [] (List.replicate nodes.length false)
  have hlen : (markAll fr (List.replicate nodes.length false)).length = nodes.length := by rw [markAll_len]; simp
  have hbk := fun κ => e_backB (κ := κ) (π := π) nodes hnl hal hin (markAll fr (List.replicate nodes.length false)) hlen
  have hro : nodes.length ≤ room := by simp only [room]; omega
  have hrl : (List.replicate nodes.length false).length = nodes.length := by simp
  have hrep : List.replicate nodes.length (PV.bool false) = bools (List.replicate nodes.length false) := by simp
  unfold belN
  generalize List.replicate nodes.length false = o at *
  generalize markAll fr o = o1 at *
  generalize belDown nodes nodes.length o1 = R at *
  simp [e_graph_below, run_eq, c_graph_below, hro, hrep]
  rw [hml _ rfl hrl (by simp)]
  simp [e_slices_Backward_api_Node_api_Node, c_slices_Backward_api_Node_api_Node, run_eq, evC_rf, fnOf, y_slices_Backward_api_Node_api_Node_1]
  rw [hbk]
  simp
end Go.Proofs.YtglelclmlkeheaaGreatDoor.V

/- What is below some nodes, by the reference. -/
namespace Go.Proofs.YtglelclmlkeheaaGreatDoor.V
open Go (IntKind BinOp UnOp)
variable {π κ : Id}
theorem rmark_loop (nodes : List Nod) (fr : List Int) (hfl : fr.length ≤ 1000) (hin : ∀ n ∈ fr, 0 ≤ n ∧ n < (nodes.length : Int)) :
    ∀ (suf pre : List Int) (o : List Bool) (y : Env × Sto), fr = pre ++ suf → o.length = nodes.length →
    mask [0, 1, 5, 6] [] y = some ([(0, .p (encNodes nodes)), (1, .p (encInts fr)), (5, .ap (11 :: π)), (6, .p (I pre.length))], [rowB (11 :: π) (some false) o]) →
    kpO [0, 5] [4] [] (bkO 0 (iter (round EE iter π [] [0, 1, 5, 6] c_ratchetbase_Below_L0) y)) = some (.nm, [(0, .p (encNodes nodes)), (5, .ap (11 :: π))], [rowB (11 :: π) (some false) (markAll suf o)])
  | [], pre, o, y, h, ho, hm => by
    rw [loop_eq hm]
    have : fr = pre := by simpa using h
    simp [u_ratchetbase_Below_L0, b_ratchetbase_Below_L0, markAll, ← this]
  | z :: suf, pre, o, y, h, ho, hm => by
    rw [loop_eq hm]
    have hlen : pre.length < fr.length := by rw [h]; simp
    have hz := hin z (by rw [h]; simp)
    have hws := w_succ hlen (show fr.length ≤ top63 by simp only [top63]; omega)
    have hzl : z.toNat < o.length := by omega
    have hnext := rmark_loop nodes fr hfl hin suf (pre ++ [z]) (o.set z.toNat true)
    rw [show (pre ++ [z]).length = pre.length + 1 by simp] at hnext
    rw [markAll]
    generalize markAll suf (o.set z.toNat true) = R at *
    simp [u_ratchetbase_Below_L0, b_ratchetbase_Below_L0, lt_mid h, get_mid _ h, hz.1, hzl]
    refine hnext _ (by simp [h]) (by simpa using ho) ?_
    simp [hws]
    rfl
theorem rbel_loop2 (nodes : List Nod) (i : Nat) (x : Nod) (hx : nodes[i]? = some x) (hal : x.args.length ≤ 1000) (hin : ∀ n ∈ x.args, 0 ≤ n ∧ n < (i : Int)) :
    ∀ (suf pre : List Int) (o : List Bool) (y : Env × Sto), x.args = pre ++ suf → o.length = nodes.length → o[i]? = some true →
    mask [0, 5, 7, 8] [] y = some ([(0, .p (encNodes nodes)), (5, .ap (11 :: π)), (7, .p (I i)), (8, .p (I pre.length))], [rowB (11 :: π) (some false) o]) →
    kpO [0, 5, 7] [4] [] (bkO 4 (iter (round EE iter π [] [0, 5, 7, 8] c_ratchetbase_Below_L2) y)) = some (.nm, [(0, .p (encNodes nodes)), (5, .ap (11 :: π)), (7, .p (I i))], [rowB (11 :: π) (some false) (markAll suf o)])
  | [], pre, o, y, h, ho, hb, hm => by
    rw [loop_eq hm]
    have : x.args = pre := by simpa using h
    have hi := (List.getElem?_eq_some_iff.1 hx).1
    have hx2 := (List.getElem?_eq_some_iff.1 hx).2
    have hio := (List.getElem?_eq_some_iff.1 hb).1
    have hbi := (List.getElem?_eq_some_iff.1 hb).2
    simp [u_ratchetbase_Below_L2, b_ratchetbase_Below_L2, markAll, hi, hx2, hio, hbi, ← this]
  | z :: suf, pre, o, y, h, ho, hb, hm => by
    rw [loop_eq hm]
    have hi := (List.getElem?_eq_some_iff.1 hx).1
    have hx2 := (List.getElem?_eq_some_iff.1 hx).2
    have hio := (List.getElem?_eq_some_iff.1 hb).1
    have hbi := (List.getElem?_eq_some_iff.1 hb).2
    have hlen : pre.length < x.args.length := by rw [h]; simp
    have hz := hin z (by rw [h]; simp)
    have hws := w_succ hlen (show x.args.length ≤ top63 by simp only [top63]; omega)
    have hzl : z.toNat < o.length := by omega
    have hnext := rbel_loop2 nodes i x hx hal hin suf (pre ++ [z]) (o.set z.toNat true)
    rw [show (pre ++ [z]).length = pre.length + 1 by simp] at hnext
    have hb' : (o.set z.toNat true)[i]? = some true := by rw [List.getElem?_set_ne (by omega)]; exact hb
    rw [markAll]
    generalize markAll suf (o.set z.toNat true) = R at *
    simp [u_ratchetbase_Below_L2, b_ratchetbase_Below_L2, lt_mid h, get_mid _ h, hi, hx2, hio, hbi, hz.1, hzl]
    refine hnext _ (by simp [h]) (by simpa using ho) hb' ?_
    simp [hws]
    rfl
theorem rbel_loop2f (nodes : List Nod) (i : Nat) (o : List Bool) (y : Env × Sto) (hb : o[i]? = some false)
    (hm : mask [0, 5, 7, 8] [] y = some ([(0, .p (encNodes nodes)), (5, .ap (11 :: π)), (7, .p (I i)), (8, .p (I 0))], [rowB (11 :: π) (some false) o])) :
    kpO [0, 5, 7] [4] [] (bkO 4 (iter (round EE iter π [] [0, 5, 7, 8] c_ratchetbase_Below_L2) y)) = some (.nm, [(0, .p (encNodes nodes)), (5, .ap (11 :: π)), (7, .p (I i))], [rowB (11 :: π) (some false) o]) := by
  rw [loop_eq hm]
  have hio := (List.getElem?_eq_some_iff.1 hb).1
  have hbi := (List.getElem?_eq_some_iff.1 hb).2
  simp [u_ratchetbase_Below_L2, b_ratchetbase_Below_L2, hio, hbi]
theorem rbel_loop1 (nodes : List Nod) (hnl : nodes.length ≤ 100000) (hal : ∀ x ∈ nodes, x.args.length ≤ 1000) (hin : ∀ (i : Nat) (x : Nod), nodes[i]? = some x → ∀ n ∈ x.args, 0 ≤ n ∧ n < (i : Int)) : ∀ (k : Nat) (o : List Bool) (y : Env × Sto), k ≤ nodes.length → o.length = nodes.length →
    mask [0, 5, 7] [] y = some ([(0, .p (encNodes nodes)), (5, .ap (11 :: π)), (7, .p (I ((k : Int) - 1)))], [rowB (11 :: π) (some false) o]) →
    kpO [5] [4] [] (bkO 2 (iter (round EE iter π [] [0, 5, 7] c_ratchetbase_Below_L1) y)) = some (.nm, [(5, .ap (11 :: π))], [rowB (11 :: π) (some false) (belDown nodes k o)])
  | 0, o, y, hk, ho, hm => by
    rw [loop_eq hm]
    simp [u_ratchetbase_Below_L1, b_ratchetbase_Below_L1, belDown]
  | k + 1, o, y, hk, ho, hm => by
    rw [loop_eq hm]
    have hkl : k < nodes.length := by omega
    have hpk : nodes[k]? = some nodes[k] := List.getElem?_eq_getElem hkl
    generalize hp : nodes[k] = p at hpk
    have hmem : p ∈ nodes := List.mem_of_getElem? hpk
    have hko : k < o.length := by omega
    have hb : o[k]? = some (o.getD k false) := by simp [List.getD, hko]
    have hw : IntKind.i64.wrap ((k : Int) - 1) = (k : Int) - 1 := w64 ⟨by omega, by omega⟩
    have hnext := rbel_loop1 nodes hnl hal hin k (if o.getD k false = true then markAll p.args o else o)
    have hlen : (if o.getD k false = true then markAll p.args o else o).length = nodes.length := by
      split
      · rw [markAll_len]; exact ho
      · exact ho
    rw [belDown, hpk]
    simp only
    have e1 : ((k + 1 : Nat) : Int) - 1 = k := by omega
    rw [e1] at *
    generalize o.getD k false = b at *
    cases b with
    | true =>
      rw [if_pos rfl] at *
      have hl2 := rbel_loop2 (π := π) nodes k p hpk (hal p hmem) (hin k p hpk) p.args [] o
      generalize markAll p.args o = R at *
      simp [u_ratchetbase_Below_L1, b_ratchetbase_Below_L1]
      rw [hl2 _ rfl ho hb (by simp)]
      simp
      refine hnext _ (by omega) hlen ?_
      simp [hw]
    | false =>
      rw [if_neg (by decide)] at *
      simp [u_ratchetbase_Below_L1, b_ratchetbase_Below_L1]
      rw [rbel_loop2f (π := π) nodes k o _ hb (by simp)]
      simp
      refine hnext _ (by omega) hlen ?_
      simp [hw]
theorem e_BelowB (nodes : List Nod) (hnl : nodes.length ≤ 100000) (hal : ∀ x ∈ nodes, x.args.length ≤ 1000) (hin : ∀ (i : Nat) (x : Nod), nodes[i]? = some x → ∀ n ∈ x.args, 0 ≤ n ∧ n < (i : Int)) (fr : List Int) (hfl : fr.length ≤ 1000) (hfin : ∀ n ∈ fr, 0 ≤ n ∧ n < (nodes.length : Int)) :
    EE π n_ratchetbase_Below [.p (encNodes nodes), .p (encInts fr)] [] = some (.ap (11 :: π), [rowB (11 :: π) (some false) (belN nodes fr)]) := by
  have hml := rmark_loop (π := π) nodes fr hfl hfin fr [] (List.replicate nodes.length false)
  have hlen : (markAll fr (List.replicate nodes.length false)).length = nodes.length := by rw [markAll_len]; simp
  have hl1 := rbel_loop1 (π := π) nodes hnl hal hin nodes.length (markAll fr (List.replicate nodes.length false))
  have hro : nodes.length ≤ room := by simp only [room]; omega
  have hrl : (List.replicate nodes.length false).length = nodes.length := by simp
  have hrep : List.replicate nodes.length (PV.bool false) = bools (List.replicate nodes.length false) := by simp
  have hw : IntKind.i64.wrap ((nodes.length : Int) - 1) = nodes.length - 1 := w64 ⟨by omega, by omega⟩
  unfold belN
  generalize List.replicate nodes.length false = o at *
  generalize markAll fr o = o1 at *
  generalize belDown nodes nodes.length o1 = R at *
  simp [e_ratchetbase_Below, run_eq, c_ratchetbase_Below, hro, hrep]
  rw [hml _ rfl hrl (by simp)]
  simp [hw]
  rw [hl1 _ (Nat.le_refl _) hlen (by simp)]
  simp
end Go.Proofs.YtglelclmlkeheaaGreatDoor.V

/- A cone, in the program and by the reference. -/
namespace Go.Proofs.YtglelclmlkeheaaGreatDoor.V
open Go (IntKind BinOp UnOp)
variable {π : Id}
theorem byN_set {to : List Int} {x : Nod} (h : ∀ n ∈ x.args, 0 ≤ n ∧ n < (to.length : Int)) (c : Int) (k : Nat) : byN ((to ++ [c]) ++ List.replicate k 0) x = byN to x := by
  rw [byN_zeros]
  unfold byN
  congr 1
  exact List.map_congr_left fun n hn => by
    have := h n hn
    rw [List.getD_eq_getElem?_getD, List.getD_eq_getElem?_getD, List.getElem?_append_left (by omega)]
theorem e_movedT (x : Nod) (hal : x.args.length ≤ 1000) (T : List Int) (h : ∀ n ∈ x.args, 0 ≤ n ∧ n < (T.length : Int)) :
    EE π n_graph_moved [.p (encNode x), .p (.fn n_graph_mapped_1 [.ptr [.sl 1 none (ints T)]])] [] = some (.agg [.p (I (byN T x).op), .p (I (byN T x).width), .ap (1005 :: π), .p (I (byN T x).value)], [rowI (1005 :: π) (flagE (byN T x).args) (byN T x).args]) := by
  have h1 := e_moved (π := π) x hal (f := n_graph_mapped_1) (caps := [.ptr [.sl 1 none (ints T)]]) (g := fun n => T.getD n.toNat 0) (fun n hn => by simpa using e_mapped1 n T none (h n hn))
  rw [show flagE x.args = flagE (byN T x).args from (flagE_map _ _).symm] at h1
  exact h1
set_option maxHeartbeats 1000000 in
theorem cone_loop {nodes : List Nod} (hnl : nodes.length ≤ 400) (hal : ∀ x ∈ nodes, x.args.length ≤ 1000) (hin : ∀ (i : Nat) (x : Nod), nodes[i]? = some x → ∀ n ∈ x.args, 0 ≤ n ∧ n < (i : Int)) (fr : List Int) (B : List Bool) :
    ∀ (suf pre : List Nod) (Bs Bp : List Bool) (out : List Nod) (to : List Int) (y : Env × Sto), nodes = pre ++ suf → B = Bp ++ Bs → Bp.length = pre.length → Bs.length = suf.length → to.length = pre.length → out.length ≤ pre.length →
    mask [1, 2, 10, 11, 29, 30, 31] [] y = some ([(1, .p (encNodes nodes)), (2, .p (encInts fr)), (10, .ap (26 :: π)), (11, .ap (1011 :: π)), (29, .ap (14 :: 29 :: π)), (30, .p (I B.length)), (31, .p (I pre.length))], [rowN (1011 :: π) (flagE out) (out.map encM), rowB (14 :: 29 :: π) (some false) B, rowI (26 :: π) (some false) (to ++ List.replicate suf.length 0)]) →
    kpO [2, 10, 11] [6, 7, 8] [] (bkO 0 (iter (round EE iter π [] [1, 2, 10, 11, 29, 30, 31] c_graph_ConeOf_L0) y)) = some (.nm, [(2, .p (encInts fr)), (10, .ap (26 :: π)), (11, .ap (1011 :: π))], [rowN (1011 :: π) (flagE (coneN Bs suf out to).1) ((coneN Bs suf out to).1.map encM), rowI (26 :: π) (some false) (coneN Bs suf out to).2])
  | [], pre, Bs, Bp, out, to, y, h, hB, hBp, hBs, hto, hol, hm => by
    rw [loop_eq hm]
    have : Bs = [] := List.length_eq_zero_iff.1 (by simpa using hBs)
    subst this
    have hbl : B.length = pre.length := by rw [hB]; simpa using hBp
    have : coneN [] [] out to = (out, to) := rfl
    rw [this]
    simp [u_graph_ConeOf_L0, b_graph_ConeOf_L0, hbl]
  | z :: suf, pre, b :: Bs, Bp, out, to, y, h, hB, hBp, hBs, hto, hol, hm => by
    rw [loop_eq hm]
    have hlen : pre.length < nodes.length := by rw [h]; simp
    have hx : nodes[pre.length]? = some z := by rw [h]; simp
    have hza := hal z (by rw [h]; simp)
    have hzi : ∀ n ∈ z.args, 0 ≤ n ∧ n < (to.length : Int) := fun n hn => by have := hin _ z hx n hn; omega
    have hws := w_succ hlen (show nodes.length ≤ top63 by simp only [top63]; omega)
    have hBb : B[pre.length]? = some b := by rw [hB, ← hBp]; simp
    have hBl : pre.length < B.length := (List.getElem?_eq_some_iff.1 hBb).1
    have hBg : B[pre.length] = b := (List.getElem?_eq_some_iff.1 hBb).2
    have hroom : out.length + 1 ≤ room := by simp only [room]; omega
    have hRl : (out.map encM).length = out.length := by simp
    have hset := zeros_set to suf.length
    rw [hto] at hset
    have hT : pre.length < (to ++ List.replicate (suf.length + 1) 0).length := by simp [hto]
    have hmv := fun π => e_movedT (π := π) z hza ((to ++ [(out.length : Int)]) ++ List.replicate suf.length 0) (fun n hn => by have := hzi n hn; simp; omega)
    rw [byN_set hzi] at hmv
    have hnext := cone_loop hnl hal hin fr B suf (pre ++ [z]) Bs (Bp ++ [b])
    have hkeep := fun o t y => hnext o t y (by simp [h]) (by simp [hB]) (by simp [hBp]) (by simpa using hBs)
    rw [← hset] at hmv
    have hset0 := hset 0
    have hsetL := hset (out.length : Int)
    have hTl : (to ++ List.replicate (suf.length + 1) 0).length = to.length + (suf.length + 1) := by simp
    rw [show (pre ++ [z]).length = pre.length + 1 by simp] at hkeep
    rw [show (List.replicate (z :: suf).length (0 : Int)) = List.replicate (suf.length + 1) 0 from rfl]
    unfold coneN
    have hcl : ∀ (l : List Int), (ints l).all (fun e => e.cells.all PV.clean) = true := fun l => by
      rw [List.all_eq_true]
      intro e he
      obtain ⟨n, _, rfl⟩ := List.mem_map.1 he
      rfl
    cases b with
    | true =>
      have hnx := hkeep (out ++ [byN to z]) (to ++ [(out.length : Int)])
      simp only [flagE_snoc, List.map_append, List.map_cons, List.map_nil] at hnx
      rw [if_pos rfl]
      rw [← hsetL] at hnx
      generalize byN to z = x at *
      generalize out.map encM = R at *
      have hsi : (ints (to ++ List.replicate (suf.length + 1) 0)).set pre.length (PV.int .i64 out.length) = ints ((to ++ List.replicate (suf.length + 1) 0).set pre.length (out.length : Int)) := (List.map_set ..).symm
      generalize (to ++ List.replicate (suf.length + 1) 0).set pre.length (out.length : Int) = T' at *
      generalize to ++ List.replicate (suf.length + 1) 0 = T at *
      simp [u_graph_ConeOf_L0, b_graph_ConeOf_L0, hBl, hBg, lt_mid h, get_mid _ h, hT, hsi, hmv, hroom, hRl, PV.setc, freeze, evRO, toPV, reach, AV.clean, AV.clean.AV.cleanL, Blk.clean, PV.clean]
      exact hnx _ (by simp [hto]) (by simp; omega) (by simp [hws])
    | false =>
      rw [if_neg (by decide)]
      have hnx := hkeep out (to ++ [0])
      rw [show to ++ [0] ++ List.replicate suf.length 0 = to ++ List.replicate (suf.length + 1) 0 by simp [List.replicate_succ]] at hnx
      generalize out.map encM = R at *
      generalize to ++ List.replicate (suf.length + 1) 0 = T at *
      simp [u_graph_ConeOf_L0, b_graph_ConeOf_L0, hBl, hBg]
      exact hnx _ (by simp [hto]) (by omega) (by simp [hws])
  | _ :: _, _, [], _, _, _, _, _, _, _, hBs, _, _, _ => by simp at hBs
theorem coneN_len : ∀ (Bs : List Bool) (l out : List Nod) (to : List Int), Bs.length = l.length → (coneN Bs l out to).2.length = to.length + l.length
  | [], [], out, to, _ => by simp [coneN]
  | b :: Bs, x :: r, out, to, h => by
    unfold coneN
    split
    · rw [coneN_len Bs r _ _ (by simpa using h)]; simp; omega
    · rw [coneN_len Bs r _ _ (by simpa using h)]; simp; omega
  | [], _ :: _, _, _, h => by simp at h
  | _ :: _, [], _, _, h => by simp at h
abbrev endsN (to fr : List Int) : List Int := fr.map fun n => to.getD n.toNat 0
theorem ends_loop (out : List PV) (fo : Option Bool) (to : List Int) (hto : to.length ≤ 1000) (fr : List Int) (hfl : fr.length ≤ 1000) (hin : ∀ n ∈ fr, 0 ≤ n ∧ n < (to.length : Int)) :
    ∀ (suf pre : List Int) (y : Env × Sto), fr = pre ++ suf →
    mask [10, 11, 14, 53, 54, 55] [] y = some ([(10, .ap (26 :: π)), (11, .ap (1011 :: π)), (14, .ap (1014 :: π)), (53, .p (encInts fr)), (54, .p (I fr.length)), (55, .p (I pre.length))], [rowI (1014 :: π) (flagE pre) (endsN to pre), rowN (1011 :: π) fo out, rowI (26 :: π) (some false) to]) →
    kpO [11, 14] [6, 7, 8] [] (bkO 2 (iter (round EE iter π [] [10, 11, 14, 53, 54, 55] c_graph_ConeOf_L1) y)) = some (.nm, [(11, .ap (1011 :: π)), (14, .ap (1014 :: π))], [rowI (1014 :: π) (flagE fr) (endsN to fr), rowN (1011 :: π) fo out])
  | [], pre, y, h, hm => by
    rw [loop_eq hm]
    have : fr = pre := by simpa using h
    simp [u_graph_ConeOf_L1, b_graph_ConeOf_L1, ← this]
  | z :: suf, pre, y, h, hm => by
    rw [loop_eq hm]
    have hlen : pre.length < fr.length := by rw [h]; simp
    obtain ⟨hz0, hz1⟩ := hin z (by rw [h]; simp)
    have hlt : z.toNat < to.length := by omega
    have hgd : to.getD z.toNat 0 = to[z.toNat] := by simp [List.getD, hlt]
    have hws := w_succ hlen (show fr.length ≤ top63 by simp only [top63]; omega)
    have hroom : (endsN to pre).length + 1 ≤ room := by rw [List.length_map]; simp only [room]; omega
    have hnext := ends_loop out fo to hto fr hfl hin suf (pre ++ [z])
    rw [show (pre ++ [z]).length = pre.length + 1 by simp, flagE_snoc, show endsN to (pre ++ [z]) = endsN to pre ++ [to.getD z.toNat 0] by simp, hgd] at hnext
    generalize endsN to pre = E at *
    generalize endsN to fr = EF at *
    simp [u_graph_ConeOf_L1, b_graph_ConeOf_L1, lt_mid h, get_mid _ h, hz0, hz1, hlt, hroom]
    exact hnext _ (by simp [h]) (by simp [hws])
abbrev coneG (nodes : List Nod) (fr : List Int) : List Nod × List Int := coneN (belN nodes fr) nodes [] []
theorem e_ConeOf (leaves : List Int) (nodes : List Nod) (fr : List Int) (hnl : nodes.length ≤ 1000) (hfl : fr.length ≤ 1000) (hal : ∀ x ∈ nodes, x.args.length ≤ 1000) :
    EE π n_graph_ConeOf [.p (encInts leaves), .p (encNodes nodes), .p (encInts fr)] [] = if namedE leaves nodes fr = 0 then some (.tup [.ap (1011 :: π), .ap (1014 :: π), .p (I 0)], [rowI (1014 :: π) (flagE fr) (endsN (coneG nodes fr).2 fr), rowN (1011 :: π) (flagE (coneG nodes fr).1) ((coneG nodes fr).1.map encM)])
      else some (.p (.tup [.sl 4 (some true) [], .sl 1 (some true) [], I (namedE leaves nodes fr)]), []) := by
  have hge := fun π => e_namedErr (π := π) leaves nodes fr (by omega) hfl hal
  by_cases hc : namedE leaves nodes fr = 0
  · rw [if_pos hc]
    rw [hc] at hge
    unfold namedE at hc
    split at hc
    · rename_i h; exact absurd hc h
    · rename_i h1
      have h1 : (checkE leaves nodes).2 = 0 := by simpa using h1
      have hfin : ∀ n ∈ fr, 0 ≤ n ∧ n < (nodes.length : Int) := fun n hn => by
        have := within_iff.1 (List.all_eq_true.1 ((unlE_z (by decide)).1 hc) n hn)
        omega
      have hin : ∀ (i : Nat) (x : Nod), nodes[i]? = some x → ∀ n ∈ x.args, 0 ≤ n ∧ n < (i : Int) := fun i x hx => args_in h1 hx
      have hnl4 := (checkE_leaves h1).2.1
      have hbe := fun π => e_below (π := π) nodes (by omega) hal hin fr hfl hfin
      have hbl := belN_len nodes fr
      have hlp := cone_loop (π := π) hnl4 hal hin fr (belN nodes fr) nodes [] (belN nodes fr) [] [] []
      have hcl := coneN_len (belN nodes fr) nodes [] [] hbl
      simp only [List.length_nil, Nat.zero_add] at hcl
      have hel := fun o fo => ends_loop (π := π) o fo (coneG nodes fr).2 (by rw [hcl]; omega) fr hfl (fun n hn => by rw [hcl]; exact hfin n hn) fr []
      have hro : nodes.length ≤ room := by simp only [room]; omega
      unfold coneG at *
      generalize coneN (belN nodes fr) nodes [] [] = R at *
      generalize belN nodes fr = B at *
      simp [e_graph_ConeOf, run_eq, c_graph_ConeOf, hge, hbe, hro, thaw, thaw1, freeze, evRO]
      rw [hlp _ rfl rfl rfl hbl rfl (by simp) (by simp [flagE])]
      simp [thaw, thaw1]
      rw [hel (R.1.map encM) (flagE R.1) _ rfl (by simp [flagE])]
      simp
  · rw [if_neg hc]
    simp [e_graph_ConeOf, run_eq, c_graph_ConeOf, hge, hc, freeze, evRO]
set_option maxHeartbeats 1000000 in
theorem rcone_loop {nodes : List Nod} (hnl : nodes.length ≤ 400) (hal : ∀ x ∈ nodes, x.args.length ≤ 1000) (hin : ∀ (i : Nat) (x : Nod), nodes[i]? = some x → ∀ n ∈ x.args, 0 ≤ n ∧ n < (i : Int)) (fr : List Int) (B : List Bool) :
    ∀ (suf pre : List Nod) (Bs Bp : List Bool) (out : List Nod) (to : List Int) (y : Env × Sto), nodes = pre ++ suf → B = Bp ++ Bs → Bp.length = pre.length → Bs.length = suf.length → to.length = pre.length → out.length ≤ pre.length →
    mask [0, 1, 6, 7, 8, 9] [] y = some ([(0, .p (encNodes nodes)), (1, .p (encInts fr)), (6, .ap (11 :: 14 :: π)), (7, .ap (1007 :: π)), (8, .ap (17 :: π)), (9, .p (I pre.length))], [rowN (1007 :: π) (flagE out) (out.map encM), rowI (17 :: π) (some false) (to ++ List.replicate suf.length 0), rowB (11 :: 14 :: π) (some false) B]) →
    kpO [1, 7, 8] [4, 5] [] (bkO 0 (iter (round EE iter π [] [0, 1, 6, 7, 8, 9] c_ratchetref02_Cone_L0) y)) = some (.nm, [(1, .p (encInts fr)), (7, .ap (1007 :: π)), (8, .ap (17 :: π))], [rowN (1007 :: π) (flagE (coneN Bs suf out to).1) ((coneN Bs suf out to).1.map encM), rowI (17 :: π) (some false) (coneN Bs suf out to).2])
  | [], pre, Bs, Bp, out, to, y, h, hB, hBp, hBs, hto, hol, hm => by
    rw [loop_eq hm]
    have : Bs = [] := List.length_eq_zero_iff.1 (by simpa using hBs)
    subst this
    have : nodes = pre := by simpa using h
    have h2 : coneN [] [] out to = (out, to) := rfl
    rw [h2]
    simp [u_ratchetref02_Cone_L0, b_ratchetref02_Cone_L0, this]
  | z :: suf, pre, b :: Bs, Bp, out, to, y, h, hB, hBp, hBs, hto, hol, hm => by
    rw [loop_eq hm]
    have hlen : pre.length < nodes.length := by rw [h]; simp
    have hx : nodes[pre.length]? = some z := by rw [h]; simp
    have hza := hal z (by rw [h]; simp)
    have hzi : ∀ n ∈ z.args, 0 ≤ n ∧ n < (to.length : Int) := fun n hn => by have := hin _ z hx n hn; omega
    have hws := w_succ hlen (show nodes.length ≤ top63 by simp only [top63]; omega)
    have hBb : B[pre.length]? = some b := by rw [hB, ← hBp]; simp
    have hBl : pre.length < B.length := (List.getElem?_eq_some_iff.1 hBb).1
    have hBg : B[pre.length] = b := (List.getElem?_eq_some_iff.1 hBb).2
    have hroom : out.length + 1 ≤ room := by simp only [room]; omega
    have hRl : (out.map encM).length = out.length := by simp
    have hset := zeros_set to suf.length
    rw [hto] at hset
    have hT : pre.length < (to ++ List.replicate (suf.length + 1) 0).length := by simp [hto]
    have hmv : ∀ π, EE π n_ratchetref02_moved [.p (encNode z), .p (encInts ((to ++ [(out.length : Int)]) ++ List.replicate suf.length 0))] [] = some (.agg [.p (I (byN to z).op), .p (I (byN to z).width), .ap (1005 :: π), .p (I (byN to z).value)], [rowI (1005 :: π) (flagE (byN to z).args) (byN to z).args]) := fun π => by
      have h1 := e_movedR (π := π) z hza ((to ++ [(out.length : Int)]) ++ List.replicate suf.length 0) (fun n hn => by have := hzi n hn; simp; omega)
      have h2 : (z.args.map fun n : Int => ((to ++ [(out.length : Int)]) ++ List.replicate suf.length (0 : Int)).getD n.toNat 0) = (byN to z).args := congrArg Nod.args (byN_set hzi (out.length : Int) suf.length)
      rw [h2, show flagE z.args = flagE (byN to z).args from (flagE_map _ _).symm] at h1
      exact h1
    have hnext := rcone_loop hnl hal hin fr B suf (pre ++ [z]) Bs (Bp ++ [b])
    have hkeep := fun o t y => hnext o t y (by simp [h]) (by simp [hB]) (by simp [hBp]) (by simpa using hBs)
    rw [← hset] at hmv
    have hsetL := hset (out.length : Int)
    rw [show (pre ++ [z]).length = pre.length + 1 by simp] at hkeep
    rw [show (List.replicate (z :: suf).length (0 : Int)) = List.replicate (suf.length + 1) 0 from rfl]
    unfold coneN
    cases b with
    | true =>
      have hnx := hkeep (out ++ [byN to z]) (to ++ [(out.length : Int)])
      simp only [flagE_snoc, List.map_append, List.map_cons, List.map_nil] at hnx
      rw [if_pos rfl]
      rw [← hsetL] at hnx
      generalize byN to z = x at *
      generalize out.map encM = R at *
      have hsi : (ints (to ++ List.replicate (suf.length + 1) 0)).set pre.length (PV.int .i64 out.length) = ints ((to ++ List.replicate (suf.length + 1) 0).set pre.length (out.length : Int)) := (List.map_set ..).symm
      generalize (to ++ List.replicate (suf.length + 1) 0).set pre.length (out.length : Int) = T' at *
      generalize to ++ List.replicate (suf.length + 1) 0 = T at *
      simp [u_ratchetref02_Cone_L0, b_ratchetref02_Cone_L0, hBl, hBg, lt_mid h, get_mid _ h, hT, hsi, hmv, hroom, hRl, PV.setc, freeze, evRO, AV.clean, AV.clean.AV.cleanL, Blk.clean, PV.clean]
      exact hnx _ (by simp [hto]) (by simp; omega) (by simp [hws])
    | false =>
      rw [if_neg (by decide)]
      have hnx := hkeep out (to ++ [0])
      rw [show to ++ [0] ++ List.replicate suf.length 0 = to ++ List.replicate (suf.length + 1) 0 by simp [List.replicate_succ]] at hnx
      generalize out.map encM = R at *
      generalize to ++ List.replicate (suf.length + 1) 0 = T at *
      simp [u_ratchetref02_Cone_L0, b_ratchetref02_Cone_L0, hBl, hBg, lt_mid h, get_mid _ h]
      exact hnx _ (by simp [hto]) (by omega) (by simp [hws])
  | _ :: _, _, [], _, _, _, _, _, _, _, hBs, _, _, _ => by simp at hBs
theorem rends_loop (out : List PV) (fo : Option Bool) (to : List Int) (hto : to.length ≤ 1000) (fr : List Int) (hfl : fr.length ≤ 1000) (hin : ∀ n ∈ fr, 0 ≤ n ∧ n < (to.length : Int)) :
    ∀ (suf pre : List Int) (y : Env × Sto), fr = pre ++ suf →
    mask [1, 7, 8, 10, 11] [] y = some ([(1, .p (encInts fr)), (7, .ap (1007 :: π)), (8, .ap (17 :: π)), (10, .ap (1010 :: π)), (11, .p (I pre.length))], [rowI (1010 :: π) (flagE pre) (endsN to pre), rowN (1007 :: π) fo out, rowI (17 :: π) (some false) to]) →
    kpO [7, 10] [4, 5] [] (bkO 2 (iter (round EE iter π [] [1, 7, 8, 10, 11] c_ratchetref02_Cone_L1) y)) = some (.nm, [(7, .ap (1007 :: π)), (10, .ap (1010 :: π))], [rowI (1010 :: π) (flagE fr) (endsN to fr), rowN (1007 :: π) fo out])
  | [], pre, y, h, hm => by
    rw [loop_eq hm]
    have : fr = pre := by simpa using h
    simp [u_ratchetref02_Cone_L1, b_ratchetref02_Cone_L1, ← this]
  | z :: suf, pre, y, h, hm => by
    rw [loop_eq hm]
    have hlen : pre.length < fr.length := by rw [h]; simp
    obtain ⟨hz0, hz1⟩ := hin z (by rw [h]; simp)
    have hlt : z.toNat < to.length := by omega
    have hgd : to.getD z.toNat 0 = to[z.toNat] := by simp [List.getD, hlt]
    have hws := w_succ hlen (show fr.length ≤ top63 by simp only [top63]; omega)
    have hroom : (endsN to pre).length + 1 ≤ room := by rw [List.length_map]; simp only [room]; omega
    have hnext := rends_loop out fo to hto fr hfl hin suf (pre ++ [z])
    rw [show (pre ++ [z]).length = pre.length + 1 by simp, flagE_snoc, show endsN to (pre ++ [z]) = endsN to pre ++ [to.getD z.toNat 0] by simp, hgd] at hnext
    generalize endsN to pre = E at *
    generalize endsN to fr = EF at *
    simp [u_ratchetref02_Cone_L1, b_ratchetref02_Cone_L1, lt_mid h, get_mid _ h, hz0, hz1, hlt, hroom]
    exact hnext _ (by simp [h]) (by simp [hws])
theorem e_ConeR {leaves : List Int} {nodes : List Nod} (h1 : (checkE leaves nodes).2 = 0) (fr : List Int) (hfl : fr.length ≤ 1000) (hal : ∀ x ∈ nodes, x.args.length ≤ 1000) (hfin : ∀ n ∈ fr, 0 ≤ n ∧ n < (nodes.length : Int)) :
    EE π n_ratchetref02_Cone [.p (encNodes nodes), .p (encInts fr)] [] = some (.tup [.ap (1007 :: π), .ap (1010 :: π)], [rowI (1010 :: π) (flagE fr) (endsN (coneG nodes fr).2 fr), rowN (1007 :: π) (flagE (coneG nodes fr).1) ((coneG nodes fr).1.map encM)]) := by
  have hin : ∀ (i : Nat) (x : Nod), nodes[i]? = some x → ∀ n ∈ x.args, 0 ≤ n ∧ n < (i : Int) := fun i x hx => args_in h1 hx
  have hnl4 := (checkE_leaves h1).2.1
  have hbe := fun π => e_BelowB (π := π) nodes (by omega) hal hin fr hfl hfin
  have hbl := belN_len nodes fr
  have hlp := rcone_loop (π := π) hnl4 hal hin fr (belN nodes fr) nodes [] (belN nodes fr) [] [] []
  have hcl := coneN_len (belN nodes fr) nodes [] [] hbl
  simp only [List.length_nil, Nat.zero_add] at hcl
  have hel := fun o fo => rends_loop (π := π) o fo (coneG nodes fr).2 (by rw [hcl]; omega) fr hfl (fun n hn => by rw [hcl]; exact hfin n hn) fr []
  have hro : nodes.length ≤ room := by simp only [room]; omega
  unfold coneG at *
  generalize coneN (belN nodes fr) nodes [] [] = R at *
  generalize belN nodes fr = B at *
  simp [e_ratchetref02_Cone, run_eq, c_ratchetref02_Cone, hbe, hro, thaw, thaw1, freeze, evRO]
  rw [hlp _ rfl rfl rfl hbl rfl (by simp) (by simp [flagE])]
  simp [thaw, thaw1]
  rw [hel (R.1.map encM) (flagE R.1) _ rfl (by simp [flagE])]
  simp
end Go.Proofs.YtglelclmlkeheaaGreatDoor.V

/- Graphs made out of a graph: in plain terms, what keeps values and validity. -/
namespace Go.Proofs.YtglelclmlkeheaaGreatDoor.V
open Go (IntKind BinOp UnOp)
abbrev InG (nodes : List Nod) : Prop := ∀ (i : Nat) (x : Nod), nodes[i]? = some x → ∀ n ∈ x.args, 0 ≤ n ∧ n < (i : Int)
structure Sol (nodes : List Nod) (L V : List Int) : Prop where
  len : V.length = nodes.length
  eq : ∀ i x, nodes[i]? = some x → V.getD i 0 = valN nodes L V x
theorem argsOf_congr {V W : List Int} {l : List Int} (h : ∀ n ∈ l, V.getD n.toNat 0 = W.getD n.toNat 0) : argsOf V l = argsOf W l := List.map_congr_left h
theorem valN_congr {nodes : List Nod} {L V W : List Int} {x : Nod} (h : ∀ n ∈ x.args, V.getD n.toNat 0 = W.getD n.toNat 0) : valN nodes L V x = valN nodes L W x := by
  unfold valN
  rw [argsOf_congr h]
theorem appK_args {x y : Nod} (hw : y.width = x.width) (hv : y.value = x.value) (k : Nat) (W A : List Int) : appK k y W A = appK k x W A := by
  unfold appK
  split <;> simp only [hw, hv]
theorem getD_app {α : Type} (a b : List α) (i : Nat) (d : α) (h : i < a.length) : (a ++ b).getD i d = a.getD i d := by
  simp [List.getD, List.getElem?_append_left h]
theorem vals_sol_aux {nodes : List Nod} {L : List Int} (hin : InG nodes) : ∀ (suf pre : List Nod) (vs : List Int), nodes = pre ++ suf → vs.length = pre.length → (∀ i x, i < pre.length → nodes[i]? = some x → vs.getD i 0 = valN nodes L vs x) → Sol nodes L (valsN nodes L suf vs)
  | [], pre, vs, h, hl, hp => by
    have : nodes = pre := by simpa using h
    rw [valsN]
    exact ⟨by rw [hl, this], fun i x hx => hp i x (by rw [← this]; exact (List.getElem?_eq_some_iff.1 hx).1) hx⟩
  | z :: suf, pre, vs, h, hl, hp => by
    rw [valsN]
    refine vals_sol_aux hin suf (pre ++ [z]) _ (by simp [h]) (by simp [hl]) fun i x hi hx => ?_
    have hg (n : Int) (hn : n ∈ x.args) (hle : i ≤ pre.length) : vs.getD n.toNat 0 = (vs ++ [valN nodes L vs z]).getD n.toNat 0 := by
      have := hin i x hx n hn
      rw [getD_app _ _ _ _ (by omega)]
    rw [List.length_append, List.length_singleton] at hi
    by_cases hlt : i < pre.length
    · rw [getD_app _ _ _ _ (by omega), hp i x hlt hx]
      exact valN_congr fun n hn => hg n hn (by omega)
    · have : i = pre.length := by omega
      subst this
      have hz : x = z := by
        rw [h] at hx
        simpa using hx.symm
      subst hz
      rw [show (vs ++ [valN nodes L vs x]).getD pre.length 0 = valN nodes L vs x by simp [List.getD, ← hl]]
      exact valN_congr fun n hn => hg n hn (by omega)
theorem vals_sol {nodes : List Nod} {L : List Int} (hin : InG nodes) : Sol nodes L (valsN nodes L nodes []) :=
  vals_sol_aux hin nodes [] [] rfl rfl fun i x hi => absurd hi (by simp)
theorem hom_vals {nodes a : List Nod} {L V W : List Int} {m : Nat → Int} {P : Nat → Prop} (hin : InG nodes) (h1 : Sol nodes L V) (h2 : Sol a L W)
    (hm : ∀ (i : Nat) (x : Nod), nodes[i]? = some x → P i → 0 ≤ m i ∧ ∃ y : Nod, a[(m i).toNat]? = some y ∧ y.op = x.op ∧ y.width = x.width ∧ y.value = x.value ∧ y.args = x.args.map (fun n => m n.toNat) ∧ ∀ n ∈ x.args, P n.toNat) :
    ∀ i, i < nodes.length → P i → W.getD (m i).toNat 0 = V.getD i 0 := by
  intro i
  induction i using Nat.strongRecOn with
  | _ i ih =>
    intro hi hp
    have hx : nodes[i]? = some nodes[i] := List.getElem?_eq_getElem hi
    generalize nodes[i] = x at hx
    obtain ⟨h0, y, hy, ho, hw, hv, ha, hP⟩ := hm i x hx hp
    rw [h1.eq i x hx, h2.eq _ y hy]
    unfold valN
    rw [ho, hv]
    split
    · rfl
    · rw [ha, appK_args hw hv]
      congr 1
      · show (x.args.map fun n => m n.toNat).map (widOf a) = _
        rw [List.map_map]
        exact List.map_congr_left fun n hn => by
          have hr := hin i x hx n hn
          have hxn : nodes[n.toNat]? = some nodes[n.toNat] := List.getElem?_eq_getElem (by omega)
          obtain ⟨h0', y', hy', _, hw', _⟩ := hm n.toNat _ hxn (hP n hn)
          have e1 := widOf_get hy'
          have e2 := widOf_get hxn
          rw [show (((m n.toNat).toNat : Nat) : Int) = m n.toNat by omega] at e1
          rw [show ((n.toNat : Nat) : Int) = n by omega] at e2
          show widOf a (m n.toNat) = widOf nodes n
          rw [e1, e2, hw']
      · rw [show argsOf W (List.map (fun n => m n.toNat) x.args) = x.args.map fun n => W.getD (m n.toNat).toNat 0 by simp]
        exact List.map_congr_left fun n hn => by
          have hr := hin i x hx n hn
          exact ih n.toNat (by omega) (by omega) (hP n hn)
theorem nodeE_of {leaves : List Int} {nodes : List Nod} {i : Nat} {x : Nod} (h1 : within x.op 0 18 = true) (h2 : within x.width 1 16 = true) (h3 : x.args.length = argc x.op.toNat) (h4 : argsIn i x.args = true) (h5 : valE leaves x (hasV x.op.toNat) = 0) (h6 : fitB x.op.toNat x.width (widsOf nodes x.args) x.value = true) : nodeE leaves nodes i x = 0 := by
  unfold nodeE
  simp only [firstE_cons]
  exact ⟨(unlE_z (by decide)).2 h1, (unlE_z (by decide)).2 h2, (unlE_z (by decide)).2 (by simpa using h3), (unlE_z (by decide)).2 h4, h5, (unlE_z (by decide)).2 h6, rfl⟩
theorem valE_congr {leaves : List Int} {x y : Nod} (ho : y.op = x.op) (hw : y.width = x.width) (hv : y.value = x.value) (b : Bool) : valE leaves y b = valE leaves x b := by
  unfold valE
  rw [ho, hw, hv]
theorem argsIn_of {k : Nat} {l : List Int} (h : ∀ n ∈ l, 0 ≤ n ∧ n < (k : Int)) : argsIn k l = true := by
  unfold argsIn
  rw [List.all_eq_true]
  intro n hn
  have := h n hn
  exact within_iff.2 ⟨by omega, by omega⟩
theorem hom_ok {leaves : List Int} {nodes a : List Nod} {m : Nat → Int} (hG : ∀ (i : Nat) (x : Nod), nodes[i]? = some x → nodeE leaves nodes i x = 0)
    (ha : ∀ (k : Nat) (y : Nod), a[k]? = some y → ∃ (i : Nat) (x : Nod), nodes[i]? = some x ∧ y.op = x.op ∧ y.width = x.width ∧ y.value = x.value ∧ y.args = x.args.map (fun n => m n.toNat) ∧ ∀ n ∈ x.args, widOf a (m n.toNat) = widOf nodes n ∧ 0 ≤ m n.toNat ∧ m n.toNat < (k : Int)) :
    ∀ (k : Nat) (y : Nod), a[k]? = some y → nodeE leaves a k y = 0 := by
  intro k y hy
  obtain ⟨i, x, hx, ho, hw, hv, hA, hP⟩ := ha k y hy
  obtain ⟨h1, h2, h3, h4, h5, h6⟩ := nodeE_iff (hG i x hx)
  refine nodeE_of (by rw [ho]; exact h1) (by rw [hw]; exact h2) (by rw [hA, List.length_map, ho]; exact h3) (argsIn_of fun n hn => ?_) (by rw [valE_congr ho hw hv, ho]; exact h5) ?_
  · rw [hA] at hn
    obtain ⟨j, hj, rfl⟩ := List.mem_map.1 hn
    exact (hP j hj).2
  · have : widsOf a y.args = widsOf nodes x.args := by
      rw [hA]
      show (x.args.map fun n => m n.toNat).map (widOf a) = _
      rw [List.map_map]
      exact List.map_congr_left fun n hn => (hP n hn).1
    rw [ho, hw, hv, this]
    exact h6
theorem eachE_none {α : Type} (f : Nat → α → Int) : ∀ (l : List α) (k : Nat), (∀ i x, l[i]? = some x → f (k + i) x = 0) → (eachE f k l).2 = 0
  | [], _, _ => rfl
  | x :: r, k, h => by
    rw [eachE, if_pos (by simpa using h 0 x rfl)]
    exact eachE_none f r (k + 1) fun i y hy => by
      have := h (i + 1) y (by simpa using hy)
      rwa [show k + (i + 1) = k + 1 + i by omega] at this
theorem checkE_of {leaves : List Int} {nodes a : List Nod} (hc : (checkE leaves nodes).2 = 0) (hl : a.length ≤ 400) (h : ∀ (k : Nat) (y : Nod), a[k]? = some y → nodeE leaves a k y = 0) : (checkE leaves a).2 = 0 := by
  unfold checkE at hc ⊢
  split at hc
  · simp at hc
  · rename_i h1
    rw [if_neg h1]
    split at hc
    · rename_i h2; exact absurd hc h2
    · rename_i h2
      rw [if_neg h2, if_neg (by omega)]
      exact eachE_none _ _ _ fun i x hx => by simpa using h i x hx
structure MapInv (nodes : List Nod) (P : Nat → Prop) (k : Nat) (out : List Nod) (to : List Int) : Prop where
  len : to.length = k
  le : out.length ≤ k
  fwd : ∀ (i : Nat) (x : Nod), i < k → nodes[i]? = some x → P i → ∃ j : Nat, to.getD i 0 = (j : Int) ∧ out[j]? = some (byN to x)
  bwd : ∀ (j : Nat) (y : Nod), out[j]? = some y → ∃ (i : Nat) (x : Nod), i < k ∧ nodes[i]? = some x ∧ P i ∧ y = byN to x ∧ ∀ n ∈ x.args, 0 ≤ to.getD n.toNat 0 ∧ to.getD n.toNat 0 < (j : Int)
theorem MapInv.zero (nodes : List Nod) (P : Nat → Prop) : MapInv nodes P 0 [] [] := ⟨rfl, by simp, fun i x hi => absurd hi (by simp), fun j y h => by simp at h⟩
theorem byN_app {to : List Int} {x : Nod} (h : ∀ n ∈ x.args, n.toNat < to.length) (l : List Int) : byN (to ++ l) x = byN to x := by
  unfold byN
  congr 1
  exact List.map_congr_left fun n hn => getD_app _ _ _ _ (h n hn)
theorem MapInv.add {nodes : List Nod} {P : Nat → Prop} {k : Nat} {out : List Nod} {to : List Int} (h : MapInv nodes P k out to) (hin : InG nodes) {x : Nod} (hx : nodes[k]? = some x) (hp : P k) (hP : ∀ n ∈ x.args, P n.toNat) : MapInv nodes P (k + 1) (out ++ [byN to x]) (to ++ [(out.length : Int)]) := by
  have hl := h.len
  have hle := h.le
  have hxa := hin k x hx
  have hst (i : Nat) (z : Nod) (hi : i ≤ k) (hz : nodes[i]? = some z) : byN (to ++ [(out.length : Int)]) z = byN to z := byN_app (fun n hn => by have := hin i z hz n hn; omega) _
  have hget (i : Nat) (hi : i < k) : (to ++ [(out.length : Int)]).getD i 0 = to.getD i 0 := getD_app _ _ _ _ (by omega)
  refine ⟨by simp [hl], by simp; omega, fun i z hi hz hpi => ?_, fun j y hy => ?_⟩
  · by_cases hlt : i < k
    · obtain ⟨j, hj, ho⟩ := h.fwd i z hlt hz hpi
      refine ⟨j, by rw [hget i hlt]; exact hj, ?_⟩
      rw [hst i z (by omega) hz, List.getElem?_append_left (List.getElem?_eq_some_iff.1 ho).1]
      exact ho
    · have : i = k := by omega
      subst this
      have hzx : z = x := by rw [hx] at hz; simpa using hz.symm
      subst hzx
      exact ⟨out.length, by simp [List.getD, ← hl], by rw [hst i z (by omega) hz]; simp⟩
  · by_cases hlt : j < out.length
    · rw [List.getElem?_append_left hlt] at hy
      obtain ⟨i, z, hi, hz, hpi, hyz, hr⟩ := h.bwd j y hy
      refine ⟨i, z, by omega, hz, hpi, by rw [hst i z (by omega) hz]; exact hyz, fun n hn => ?_⟩
      have := hin i z hz n hn
      rw [hget _ (by omega)]
      exact hr n hn
    · have hj : j = out.length := by
        have := (List.getElem?_eq_some_iff.1 hy).1
        simp at this; omega
      subst hj
      have hyx : y = byN to x := by simpa using hy.symm
      refine ⟨k, x, by omega, hx, hp, by rw [hst k x (Nat.le_refl _) hx]; exact hyx, fun n hn => ?_⟩
      have hn' := hxa n hn
      rw [hget _ (by omega)]
      have hkl : k < nodes.length := (List.getElem?_eq_some_iff.1 hx).1
      have hnl : n.toNat < nodes.length := by omega
      obtain ⟨j, hj, ho⟩ := h.fwd n.toNat nodes[n.toNat] (by omega) (List.getElem?_eq_getElem hnl) (hP n hn)
      have := (List.getElem?_eq_some_iff.1 ho).1
      rw [hj]
      omega
theorem MapInv.old {nodes : List Nod} {P : Nat → Prop} {k : Nat} {out : List Nod} {to : List Int} (h : MapInv nodes P k out to) (hin : InG nodes) {x : Nod} (hx : nodes[k]? = some x) {c : Nat} (hc : P k → out[c]? = some (byN to x)) : MapInv nodes P (k + 1) out (to ++ [(c : Int)]) := by
  have hl := h.len
  have hle := h.le
  have hst (i : Nat) (z : Nod) (hi : i ≤ k) (hz : nodes[i]? = some z) : byN (to ++ [(c : Int)]) z = byN to z := byN_app (fun n hn => by have := hin i z hz n hn; omega) _
  have hget (i : Nat) (hi : i < k) : (to ++ [(c : Int)]).getD i 0 = to.getD i 0 := getD_app _ _ _ _ (by omega)
  refine ⟨by simp [hl], by omega, fun i z hi hz hpi => ?_, fun j y hy => ?_⟩
  · by_cases hlt : i < k
    · obtain ⟨j, hj, ho⟩ := h.fwd i z hlt hz hpi
      exact ⟨j, by rw [hget i hlt]; exact hj, by rw [hst i z (by omega) hz]; exact ho⟩
    · have : i = k := by omega
      subst this
      have hzx : z = x := by rw [hx] at hz; simpa using hz.symm
      subst hzx
      exact ⟨c, by simp [List.getD, ← hl], by rw [hst i z (by omega) hz]; exact hc hpi⟩
  · obtain ⟨i, z, hi, hz, hpi, hyz, hr⟩ := h.bwd j y hy
    refine ⟨i, z, by omega, hz, hpi, by rw [hst i z (by omega) hz]; exact hyz, fun n hn => ?_⟩
    have := hin i z hz n hn
    rw [hget _ (by omega)]
    exact hr n hn
theorem MapInv.ok {leaves : List Int} {nodes : List Nod} {P : Nat → Prop} {out : List Nod} {to : List Int} (h : MapInv nodes P nodes.length out to) (hc : (checkE leaves nodes).2 = 0) (hP : ∀ (i : Nat) (x : Nod), nodes[i]? = some x → P i → ∀ n ∈ x.args, P n.toNat) : (checkE leaves out).2 = 0 := by
  have hG := checkE_nodes hc
  have hin : InG nodes := fun i x hx => args_in hc hx
  have hle := h.le
  have := checkE_leaves hc
  refine checkE_of hc (by omega) (hom_ok (m := fun i => to.getD i 0) hG fun k y hy => ?_)
  obtain ⟨i, x, hi, hx, hpi, rfl, hr⟩ := h.bwd k y hy
  refine ⟨i, x, hx, rfl, rfl, rfl, rfl, fun n hn => ⟨?_, hr n hn⟩⟩
  have hn' := hin i x hx n hn
  have hxn : nodes[n.toNat]? = some nodes[n.toNat] := List.getElem?_eq_getElem (by omega)
  obtain ⟨j, hj, ho⟩ := h.fwd n.toNat _ (by omega) hxn (hP i x hx hpi n hn)
  have e1 := widOf_get ho
  have e2 := widOf_get hxn
  rw [show ((n.toNat : Nat) : Int) = n by omega] at e2
  rw [hj, e1, e2]
  rfl
theorem MapInv.vals {leaves : List Int} {nodes : List Nod} {P : Nat → Prop} {out : List Nod} {to : List Int} (h : MapInv nodes P nodes.length out to) (hc : (checkE leaves nodes).2 = 0) (hP : ∀ (i : Nat) (x : Nod), nodes[i]? = some x → P i → ∀ n ∈ x.args, P n.toNat) (L : List Int) (i : Nat) (hi : i < nodes.length) (hp : P i) :
    (0 ≤ to.getD i 0 ∧ to.getD i 0 < (out.length : Int)) ∧ (valsN out L out []).getD (to.getD i 0).toNat 0 = (valsN nodes L nodes []).getD i 0 := by
  have hin : InG nodes := fun i x hx => args_in hc hx
  have hco := h.ok hc hP
  have hin2 : InG out := fun i x hx => args_in hco hx
  constructor
  · obtain ⟨j, hj, ho⟩ := h.fwd i _ hi (List.getElem?_eq_getElem hi) hp
    have := (List.getElem?_eq_some_iff.1 ho).1
    rw [hj]; omega
  · refine hom_vals (m := fun i => to.getD i 0) (P := P) hin (vals_sol hin) (vals_sol hin2) (fun i x hx hpi => ?_) i hi hp
    obtain ⟨j, hj, ho⟩ := h.fwd i x (List.getElem?_eq_some_iff.1 hx).1 hx hpi
    refine ⟨by show 0 ≤ to.getD i 0; omega, byN to x, ?_, rfl, rfl, rfl, rfl, hP i x hx hpi⟩
    show out[(to.getD i 0).toNat]? = _
    rw [hj]
    exact ho
end Go.Proofs.YtglelclmlkeheaaGreatDoor.V

/- What is below some nodes is closed under arguments: in plain terms. -/
namespace Go.Proofs.YtglelclmlkeheaaGreatDoor.V
def Cl (nodes : List Nod) (o : List Bool) (i : Nat) : Prop := ∀ x, nodes[i]? = some x → o.getD i false = true → ∀ n ∈ x.args, o.getD n.toNat false = true
theorem belDown_cl (nodes : List Nod) (hin : ∀ (i : Nat) (x : Nod), nodes[i]? = some x → ∀ n ∈ x.args, 0 ≤ n ∧ n < (i : Int)) : ∀ (k : Nat) (o : List Bool), k ≤ nodes.length → o.length = nodes.length → (∀ i, k ≤ i → Cl nodes o i) → ∀ i, Cl nodes (belDown nodes k o) i
  | 0, o, _, _, h, i => h i (Nat.zero_le _)
  | k + 1, o, hk, ho, h, i => by
    rw [belDown]
    have hkl : k < nodes.length := by omega
    have hx : nodes[k]? = some nodes[k] := List.getElem?_eq_getElem hkl
    rw [hx]
    simp only
    split
    · rename_i hb
      refine belDown_cl nodes hin k _ (by omega) (by rw [markAll_len]; exact ho) (fun i hi x hxi hoi n hn => ?_) i
      have hil := (List.getElem?_eq_some_iff.1 hxi).1
      have hni := hin i x hxi n hn
      rw [markAll_get _ _ _ (by omega)]
      by_cases e : i = k
      · subst e
        rw [hx] at hxi
        cases hxi
        simp only [Bool.or_eq_true, List.any_eq_true, decide_eq_true_eq]
        exact .inr ⟨n, hn, rfl⟩
      · rw [markAll_get _ _ _ (by omega)] at hoi
        simp only [Bool.or_eq_true, List.any_eq_true, decide_eq_true_eq] at hoi ⊢
        rcases hoi with hoi | ⟨m, hm, e2⟩
        · exact .inl (h i (by omega) x hxi hoi n hn)
        · have := hin k _ hx m hm
          omega
    · rename_i hb
      refine belDown_cl nodes hin k _ (by omega) ho (fun i hi => ?_) i
      by_cases e : i = k
      · subst e
        exact fun x _ hoi => absurd hoi hb
      · exact h i (by omega)
theorem belN_cl {nodes : List Nod} (hin : ∀ (i : Nat) (x : Nod), nodes[i]? = some x → ∀ n ∈ x.args, 0 ≤ n ∧ n < (i : Int)) (fr : List Int) (i : Nat) : Cl nodes (belN nodes fr) i := by
  unfold belN
  exact belDown_cl nodes hin _ _ (Nat.le_refl _) (by rw [markAll_len]; simp) (fun i hi x hx => by have := (List.getElem?_eq_some_iff.1 hx).1; omega) i
end Go.Proofs.YtglelclmlkeheaaGreatDoor.V

/- Graphs shared, folded, cones, appended and substituted: values and validity, in plain terms. -/
namespace Go.Proofs.YtglelclmlkeheaaGreatDoor.V
open Go (IntKind BinOp UnOp)
theorem findN_some {y : Nod} : ∀ {l : List Nod} {i k : Nat}, findN y i l = some k → i ≤ k ∧ l[k - i]? = some y
  | [], i, k, h => by simp [findN] at h
  | z :: r, i, k, h => by
    unfold findN at h
    split at h
    · rename_i he
      have : i = k := by simpa using h
      subst this
      rw [sameN_iff] at he
      exact ⟨Nat.le_refl _, by simp [he]⟩
    · obtain ⟨h1, h2⟩ := findN_some h
      refine ⟨by omega, ?_⟩
      rw [show k - i = (k - (i + 1)) + 1 by omega]
      simpa using h2
theorem findN_none {y : Nod} : ∀ {l : List Nod} {i : Nat}, findN y i l = none ↔ y ∉ l
  | [], i => by simp [findN]
  | z :: r, i => by
    unfold findN
    split
    · rename_i he
      rw [sameN_iff] at he
      simp [he]
    · rename_i he
      rw [sameN_iff] at he
      rw [findN_none, List.mem_cons]
      constructor
      · rintro h (h1 | h1)
        · exact he h1.symm
        · exact h h1
      · intro h h1
        exact h (.inr h1)
theorem shared_inv {nodes : List Nod} (hin : InG nodes) : ∀ (suf pre out : List Nod) (to : List Int), nodes = pre ++ suf → MapInv nodes (fun _ => True) pre.length out to → out.Nodup →
    MapInv nodes (fun _ => True) nodes.length (sharedN suf out to).1 (sharedN suf out to).2 ∧ (sharedN suf out to).1.Nodup
  | [], pre, out, to, h, hm, hd => by
    have : nodes = pre := by simpa using h
    rw [sharedN, this]
    rw [this] at hm
    exact ⟨hm, hd⟩
  | x :: suf, pre, out, to, h, hm, hd => by
    have hx : nodes[pre.length]? = some x := by rw [h]; simp
    unfold sharedN
    split
    · rename_i k hf
      have h2 := (findN_some hf).2
      rw [Nat.sub_zero] at h2
      exact shared_inv hin suf (pre ++ [x]) _ _ (by simp [h]) (by rw [List.length_append]; exact hm.old hin hx fun _ => h2) hd
    · rename_i hf
      rw [findN_none] at hf
      refine shared_inv hin suf (pre ++ [x]) _ _ (by simp [h]) (by rw [List.length_append]; exact hm.add hin hx trivial fun _ _ => trivial) ?_
      rw [List.nodup_append]
      exact ⟨hd, by simp, fun a ha b hb => by
        have : b = byN to x := by simpa using hb
        subst this
        exact fun e => hf (e ▸ ha)⟩
theorem shared_all {nodes : List Nod} (hin : InG nodes) : MapInv nodes (fun _ => True) nodes.length (sharedN nodes [] []).1 (sharedN nodes [] []).2 ∧ (sharedN nodes [] []).1.Nodup :=
  shared_inv hin nodes [] [] [] rfl (MapInv.zero _ _) (by simp)
theorem fold_get {nodes : List Nod} : ∀ (suf pre out : List Nod), nodes = pre ++ suf → out.length = pre.length → ∀ i x, pre.length ≤ i → nodes[i]? = some x → (foldN nodes suf out)[i]? = some (foldX nodes ((foldN nodes suf out).take i) x)
  | [], pre, out, h, ho, i, x, hi, hx => by
    have e : nodes = pre := by simpa using h
    have h2 := (List.getElem?_eq_some_iff.1 hx).1
    rw [e] at h2
    omega
  | z :: suf, pre, out, h, ho, i, x, hi, hx => by
    have key : ∀ (l o : List Nod), (foldN nodes l o).take o.length = o := by
      intro l
      induction l with
      | nil => intro o; simp [foldN]
      | cons y r ih =>
        intro o
        have := congrArg (List.take o.length) (ih (o ++ [foldX nodes o y]))
        rw [List.take_take, Nat.min_eq_left (by simp)] at this
        rw [foldN, this]
        simp
    by_cases hlt : i = pre.length
    · subst hlt
      have hz : x = z := by rw [h] at hx; simpa using hx.symm
      subst hz
      have h1 := key (x :: suf) out
      have h2 := key suf (out ++ [foldX nodes out x])
      rw [← ho, h1]
      rw [foldN]
      have h3 := congrArg (fun l => l[out.length]?) h2
      simp only [List.getElem?_take, List.length_append, List.length_singleton] at h3
      rw [if_pos (by omega)] at h3
      rw [h3]
      simp
    · rw [foldN]
      exact fold_get suf (pre ++ [z]) _ (by simp [h]) (by simp [ho]) i x (by simp; omega) hx
theorem fold_at {nodes : List Nod} {i : Nat} {x : Nod} (hx : nodes[i]? = some x) : (foldN nodes nodes [])[i]? = some (foldX nodes ((foldN nodes nodes []).take i) x) := fold_get nodes [] [] rfl rfl i x (Nat.zero_le _) hx
theorem closed_take {out : List Nod} {i : Nat} {x : Nod} (h : ∀ n ∈ x.args, 0 ≤ n ∧ n < (i : Int)) : closedB (out.take i) x = closedB out x := by
  unfold closedB
  congr 1
  rw [Bool.eq_iff_iff, List.all_eq_true, List.all_eq_true]
  have e : ∀ n ∈ x.args, isC (out.take i) n = isC out n := fun n hn => by
    have := h n hn
    simp only [isC, outAt, List.getD_eq_getElem?_getD, List.getElem?_take]
    rw [if_pos (by omega)]
  constructor
  · intro h1 n hn; rw [← e n hn]; exact h1 n hn
  · intro h1 n hn; rw [e n hn]; exact h1 n hn
theorem foldX_take {nodes out : List Nod} {i : Nat} {x : Nod} (h : ∀ n ∈ x.args, 0 ≤ n ∧ n < (i : Int)) : foldX nodes (out.take i) x = foldX nodes out x := by
  unfold foldX
  rw [closed_take h]
  have : argsOf (valsOf (out.take i)) x.args = argsOf (valsOf out) x.args := List.map_congr_left fun n hn => by
    have := h n hn
    show (valsOf (out.take i)).getD n.toNat 0 = (valsOf out).getD n.toNat 0
    rw [valsOf_getD, valsOf_getD]
    simp only [List.getD_eq_getElem?_getD, List.getElem?_take]
    rw [if_pos (by omega)]
  rw [this]
theorem fold_at' {nodes : List Nod} (hin : InG nodes) {i : Nat} {x : Nod} (hx : nodes[i]? = some x) : (foldN nodes nodes [])[i]? = some (foldX nodes (foldN nodes nodes []) x) := by
  rw [fold_at hx, foldX_take (hin i x hx)]
theorem cone_inv {nodes : List Nod} (hin : InG nodes) {B0 : List Bool} (hcl : ∀ i, Cl nodes B0 i) (hbl : B0.length = nodes.length) : ∀ (suf pre : List Nod) (B : List Bool) (out : List Nod) (to : List Int), nodes = pre ++ suf → B = B0.drop pre.length → MapInv nodes (fun i => B0.getD i false = true) pre.length out to →
    MapInv nodes (fun i => B0.getD i false = true) nodes.length (coneN B suf out to).1 (coneN B suf out to).2
  | [], pre, B, out, to, h, hB, hm => by
    have : nodes = pre := by simpa using h
    rw [← this] at hm
    have : coneN B [] out to = (out, to) := by cases B <;> rfl
    rw [this]
    exact hm
  | x :: suf, pre, B, out, to, h, hB, hm => by
    have hx : nodes[pre.length]? = some x := by rw [h]; simp
    have hlt : pre.length < B0.length := by rw [hbl, h]; simp
    have hB' : B = B0[pre.length] :: B0.drop (pre.length + 1) := by rw [hB, List.drop_eq_getElem_cons hlt]
    have hg : B0.getD pre.length false = B0[pre.length] := by simp [List.getD, hlt]
    rw [hB']
    unfold coneN
    split
    · rename_i hb
      refine cone_inv hin hcl hbl suf (pre ++ [x]) _ _ _ (by simp [h]) (by simp) ?_
      rw [List.length_append]
      exact hm.add hin hx (by rw [hg]; exact hb) (hcl _ x hx (by rw [hg]; exact hb))
    · rename_i hb
      refine cone_inv hin hcl hbl suf (pre ++ [x]) _ _ _ (by simp [h]) (by simp) ?_
      rw [List.length_append]
      exact hm.old hin hx (c := 0) fun hp => absurd (hg ▸ hp) hb
theorem cone_all {nodes : List Nod} (hin : InG nodes) (fr : List Int) : MapInv nodes (fun i => (belN nodes fr).getD i false = true) nodes.length (coneN (belN nodes fr) nodes [] []).1 (coneN (belN nodes fr) nodes [] []).2 :=
  cone_inv hin (belN_cl hin fr) (belN_len nodes fr) nodes [] _ [] [] rfl (by simp) (MapInv.zero _ _)
end Go.Proofs.YtglelclmlkeheaaGreatDoor.V

/- The arguments of chapter 2's laws. -/
namespace Go.Proofs.YtglelclmlkeheaaGreatDoor.V
open Go (IntKind BinOp UnOp)
variable {π : Id}
theorem dec_listP {α : Type} (f : α → PV) (P : α → Prop) : ∀ l : List PV, (∀ y ∈ l, ∃ a, y = f a ∧ P a) → ∃ k : List α, l = k.map f ∧ ∀ a ∈ k, P a
  | [], _ => ⟨[], rfl, fun a h => by cases h⟩
  | y :: r, h => by
    obtain ⟨a, rfl, ha⟩ := h y List.mem_cons_self
    obtain ⟨k, rfl, hk⟩ := dec_listP f P r fun z hz => h z (List.mem_cons_of_mem _ hz)
    exact ⟨a :: k, rfl, fun b hb => by
      rcases List.mem_cons.1 hb with rfl | hb
      · exact ha
      · exact hk b hb⟩
theorem ok_wf {n : Int} (h : (Go.Lit.int .i64 n).wf = true) : ok64 n := by
  simp only [Go.Lit.wf, Bool.and_eq_true, decide_eq_true_eq] at h
  have h1 : IntKind.i64.min = -9223372036854775808 := by decide
  have h2 : IntKind.i64.max = 9223372036854775807 := by decide
  exact ⟨by omega, by omega⟩
theorem cel_int {x : PV} (h : Cel (.int .i64) x) : ∃ n, x = I n ∧ ok64 n := by
  simp only [Cel] at h
  obtain ⟨n, h, h2⟩ := h
  exact ⟨n, h, ok_wf h2⟩
theorem cel_ints {x : PV} (h : Cel (.sl 1 false [.int .i64]) x) : ∃ k : List Int, x = encInts k ∧ k.length ≤ top63 ∧ ∀ n ∈ k, ok64 n := by
  simp only [Cel, CelL] at h
  obtain ⟨l, rfl, hl, h⟩ := h
  obtain ⟨k, rfl, hk⟩ := dec_listP I ok64 l fun y hy => by
    obtain ⟨⟨x, ys, hc, ⟨n, hx, hn⟩, h0⟩, he⟩ := h y hy
    subst h0
    rw [hc] at he
    exact ⟨n, by rw [he, hx]; rfl, ok_wf hn⟩
  exact ⟨k, rfl, by simpa [Go.maxLen] using hl, hk⟩
abbrev NodOk (x : Nod) : Prop := ok64 x.op ∧ ok64 x.width ∧ ok64 x.value ∧ x.args.length ≤ top63 ∧ ∀ n ∈ x.args, ok64 n
theorem cel_nodes {x : PV} (h : Cel (.sl 4 true [.int .i64, .int .i64, .sl 1 false [.int .i64], .int .i64]) x) : ∃ k : List Nod, x = encNodes k ∧ k.length ≤ top63 ∧ ∀ p ∈ k, NodOk p := by
  rw [Cel] at h
  obtain ⟨l, rfl, hl, h⟩ := h
  obtain ⟨k, rfl, hk⟩ := dec_listP encNode NodOk l fun y hy => by
    obtain ⟨hc, he⟩ := h y hy
    simp only [CelL] at hc
    obtain ⟨a, r1, h1, ca, b, r2, h2, cb, c, r3, h3, cc, d, r4, h4, cd, h5⟩ := hc
    subst h5 h4 h3 h2
    rw [h1] at he
    obtain ⟨n1, rfl, k1⟩ := cel_int ca
    obtain ⟨n2, rfl, k2⟩ := cel_int cb
    obtain ⟨ar, rfl, k3, k4⟩ := cel_ints cc
    obtain ⟨n4, rfl, k5⟩ := cel_int cd
    exact ⟨⟨n1, n2, ar, n4⟩, he, k1, k2, k5, k3, k4⟩
  exact ⟨k, rfl, by simpa [Go.maxLen] using hl, hk⟩
theorem cel_ints1 {x : List PV} (h : CelL [.sl 1 false [.int .i64]] x) : ∃ k : List Int, x = [encInts k] ∧ k.length ≤ top63 ∧ ∀ n ∈ k, ok64 n := by
  simp only [CelL] at h
  obtain ⟨a, r1, h1, ca, h2⟩ := h
  subst h2
  obtain ⟨k, rfl, hk⟩ := cel_ints ca
  exact ⟨k, h1, hk⟩
theorem cel_nodes1 {x : List PV} (h : CelL [.sl 4 true [.int .i64, .int .i64, .sl 1 false [.int .i64], .int .i64]] x) : ∃ k : List Nod, x = [encNodes k] ∧ k.length ≤ top63 ∧ ∀ p ∈ k, NodOk p := by
  simp only [CelL] at h
  obtain ⟨a, r1, h1, ca, h2⟩ := h
  subst h2
  obtain ⟨k, rfl, hk⟩ := cel_nodes ca
  exact ⟨k, h1, hk⟩
theorem few_iff {leaves : List Int} {nodes : List Nod} (h : fewB leaves nodes = true) : leaves.length ≤ 60 ∧ nodes.length ≤ 405 ∧ ∀ x ∈ nodes, x.args.length ≤ 5 := by
  simp only [fewB, Bool.and_eq_true, decide_eq_true_eq, List.all_eq_true] at h
  exact ⟨h.1.1.1, h.1.2, h.2⟩
end Go.Proofs.YtglelclmlkeheaaGreatDoor.V

/- The chapter's examples. -/
namespace Go.Proofs.YtglelclmlkeheaaGreatDoor.V
abbrev AwakeG (π : Id) : Prop := EE π n_ratchetlaw02_awake [] [] = some (.p (.bool true), [])
end Go.Proofs.YtglelclmlkeheaaGreatDoor.V

/- The law GraphSmaller, in the evaluator. -/
namespace Go.Proofs.YtglelclmlkeheaaGreatDoor.V
open Go (IntKind BinOp UnOp)
variable {π : Id}
theorem smaller_few (leaves : List Int) (nodes : List Nod) (fr : List Int) (haw : AwakeG [18]) (h : ¬ (fewB leaves nodes = true ∧ fr.length ≤ 60)) :
    EE [] n_ratchetlaw02_GraphSmaller [.p (encInts leaves), .p (encNodes nodes), .p (encInts fr)] [] = some (.p (.bool true), []) := by
  have hfa := fun π => e_few (π := π) leaves nodes
  have haw : EE [18] n_ratchetlaw02_awake [] [] = some (.p (.bool true), []) := haw
  cases h1 : fewB leaves nodes
  · simp [e_ratchetlaw02_GraphSmaller, run_eq, c_ratchetlaw02_GraphSmaller, haw, hfa, h1, freeze, evRO]
  · have h2 : (60 : Int) < fr.length := by
      have : ¬ fr.length ≤ 60 := fun h3 => h ⟨h1, h3⟩
      omega
    simp [e_ratchetlaw02_GraphSmaller, run_eq, c_ratchetlaw02_GraphSmaller, haw, hfa, h1, h2, freeze, evRO]
theorem shared_args {nodes : List Nod} (hin : InG nodes) (hal : ∀ x ∈ nodes, x.args.length ≤ 1000) : ∀ y ∈ (sharedN nodes [] []).1, y.args.length ≤ 1000 := fun y hy => by
  obtain ⟨k, hk⟩ := List.mem_iff_getElem?.1 hy
  obtain ⟨i, x, _, hx, _, rfl, _⟩ := (shared_all hin).1.bwd k y hk
  show (x.args.map _).length ≤ _
  rw [List.length_map]
  exact hal x (List.mem_of_getElem? hx)
theorem cone_args {nodes : List Nod} (hin : InG nodes) (hal : ∀ x ∈ nodes, x.args.length ≤ 1000) (fr : List Int) : ∀ y ∈ (coneG nodes fr).1, y.args.length ≤ 1000 := fun y hy => by
  obtain ⟨k, hk⟩ := List.mem_iff_getElem?.1 hy
  obtain ⟨i, x, _, hx, _, rfl, _⟩ := (cone_all hin fr).bwd k y hk
  show (x.args.map _).length ≤ _
  rw [List.length_map]
  exact hal x (List.mem_of_getElem? hx)
theorem fold_args {nodes : List Nod} (hin : InG nodes) (hal : ∀ x ∈ nodes, x.args.length ≤ 1000) : ∀ y ∈ foldN nodes nodes [], y.args.length ≤ 1000 := fun y hy => by
  obtain ⟨k, hk⟩ := List.mem_iff_getElem?.1 hy
  have hkl : k < nodes.length := by
    have := (List.getElem?_eq_some_iff.1 hk).1
    rw [foldN_len] at this
    simpa using this
  have hx : nodes[k]? = some nodes[k] := List.getElem?_eq_getElem hkl
  rw [fold_at' hin hx] at hk
  have hy : foldX nodes (foldN nodes nodes []) nodes[k] = y := by simpa using hk
  rw [← hy]
  unfold foldX
  split
  · simp
  · exact hal _ (List.getElem_mem hkl)
set_option maxHeartbeats 2000000 in
theorem smaller_true (leaves : List Int) (nodes : List Nod) (fr : List Int) (hv : ∀ x ∈ nodes, ok64 x.value) (haw : AwakeG [18]) (h : fewB leaves nodes = true ∧ fr.length ≤ 60) :
    EE [] n_ratchetlaw02_GraphSmaller [.p (encInts leaves), .p (encNodes nodes), .p (encInts fr)] [] = some (.p (.bool true), []) := by
  obtain ⟨f1, hfl⟩ := h
  have hfa := fun π => e_few (π := π) leaves nodes
  rw [f1] at hfa
  have haw : EE [18] n_ratchetlaw02_awake [] [] = some (.p (.bool true), []) := haw
  obtain ⟨hl, hnn, hxa'⟩ := few_iff f1
  have hxa : ∀ x ∈ nodes, x.args.length ≤ 1000 := fun x hx => by have := hxa' x hx; omega
  have hfl' : ¬ (60 : Int) < fr.length := by omega
  have hci := fun π => e_CopyInts (π := π) (ints leaves) (by simp only [List.length_map, room]; omega)
  have hcf := fun π => e_CopyInts (π := π) (ints fr) (by simp only [List.length_map, room]; omega)
  have hcn := fun π => e_CopyNodes (π := π) nodes (by omega) hxa
  have hne := fun π => e_NodesErr (π := π) leaves nodes hxa
  have hfe := fun π => e_FromErr (π := π) nodes fr (by omega) (by omega)
  have hsh := fun π => e_SharedOf (π := π) leaves nodes hxa hv
  have hfo := fun π => e_FoldedOf (π := π) leaves nodes hxa
  have hco := fun π => e_ConeOf (π := π) leaves nodes fr (by omega) (by omega) hxa
  by_cases hc : (checkE leaves nodes).2 = 0
  · have hin : InG nodes := fun i x hx => args_in hc hx
    have hnm : namedE leaves nodes fr = fromE nodes fr := by unfold namedE; rw [if_neg (by simp [hc])]
    have hn4 := (checkE_leaves hc).2.1
    have hshr := fun π => e_SharedR (π := π) nodes hn4 hin hxa
    have hfor := fun π => e_FoldedR (π := π) hc hxa
    have hsm := shared_all hin
    have hs1 := fun π => e_SameNodes (π := π) (sharedN nodes [] []).1 (by have := hsm.1.le; omega) (shared_args hin hxa)
    have hs2 := fun π => e_SameNodes (π := π) (foldN nodes nodes []) (by rw [foldN_len]; simp; omega) (fold_args hin hxa)
    have hi1 := fun π => e_Ints (π := π) (sharedN nodes [] []).2 (sharedN nodes [] []).2 (by have := hsm.1.len; simp only [top63]; omega)
    simp only [decide_true] at hi1
    have g1 := fgL_M (sharedN nodes [] []).1
    have g2 := fgL_M (foldN nodes nodes [])
    have g3 := fgL_foldP nodes nodes [] [] rfl
    rw [hnm] at hco
    simp only [hc, if_true] at hsh hfo hne
    by_cases hd : fromE nodes fr = 0
    · have hfin : ∀ n ∈ fr, 0 ≤ n ∧ n < (nodes.length : Int) := fun n hn => by
        have := within_iff.1 (List.all_eq_true.1 ((unlE_z (by decide)).1 hd) n hn)
        omega
      have hcor := fun π => e_ConeR (π := π) hc fr (by omega) hxa hfin
      have hcm := cone_all hin fr
      have hs3 := fun π => e_SameNodes (π := π) (coneG nodes fr).1 (by have : (coneG nodes fr).1.length ≤ nodes.length := hcm.le; omega) (cone_args hin hxa fr)
      have hi3 := fun π => e_Ints (π := π) (endsN (coneG nodes fr).2 fr) (endsN (coneG nodes fr).2 fr) (by rw [List.length_map]; simp only [top63]; omega)
      simp only [decide_true] at hi3
      have g4 := fgL_M (coneG nodes fr).1
      simp only [hd, if_true] at hco hfe
      simp only [encNodes] at hs1 hs2 hs3
      generalize endsN (coneG nodes fr).2 fr = E at *
      generalize coneG nodes fr = CC at *
      generalize foldP nodes nodes [] [] = FP at *
      generalize foldN nodes nodes [] = FN at *
      generalize sharedN nodes [] [] = SN at *
      generalize SN.1.map encM = R1 at *
      generalize FN.map encM = R2 at *
      generalize CC.1.map encM = R4 at *
      generalize SN.1.map encNode = L1 at *
      generalize FN.map encNode = L2 at *
      generalize CC.1.map encNode = L4 at *
      simp [e_ratchetlaw02_GraphSmaller, run_eq, c_ratchetlaw02_GraphSmaller, haw, hfa, hfl', hci, hcf, hcn, hne, hfe, hsh, hfo, hco, hshr, hfor, hcor, hs1, hs2, hs3, hi1, hi3, g1, g2, g3, g4, fgL_nodesC, freeze, evRO]
    · simp only [if_neg hd] at hco
      simp only [encNodes] at hs1 hs2
      generalize fromE nodes fr = d at *
      generalize foldP nodes nodes [] [] = FP at *
      generalize foldN nodes nodes [] = FN at *
      generalize sharedN nodes [] [] = SN at *
      generalize SN.1.map encM = R1 at *
      generalize FN.map encM = R2 at *
      generalize SN.1.map encNode = L1 at *
      generalize FN.map encNode = L2 at *
      simp [e_ratchetlaw02_GraphSmaller, run_eq, c_ratchetlaw02_GraphSmaller, haw, hfa, hfl', hci, hcf, hcn, hne, hfe, hsh, hfo, hco, hshr, hfor, hs1, hs2, hi1, g1, g2, g3, hd, fgL_nodesC, freeze, evRO]
  · have hnm : namedE leaves nodes fr = (checkE leaves nodes).2 := by unfold namedE; rw [if_pos hc]
    simp only [hnm, if_neg hc] at hco
    simp only [if_neg hc] at hsh hfo
    generalize (checkE leaves nodes).2 = c at *
    simp [e_ratchetlaw02_GraphSmaller, run_eq, c_ratchetlaw02_GraphSmaller, haw, hfa, hfl', hci, hcf, hcn, hne, hsh, hfo, hco, hc, fgL_nodesC, freeze, evRO]
end Go.Proofs.YtglelclmlkeheaaGreatDoor.V
