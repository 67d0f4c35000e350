/- Nodes with arguments by a map; a graph in which a leaf is a value. A graph in which a leaf is a value. Two graphs as one. Numbers bit by bit: what the operations of nodes compute. The operations of nodes, in the evaluator. What each operation computes. What a node's operation computes, by its number -/
import Derived.Test.YtglelclmlkeheaaGreatDoorS1

set_option linter.unusedSimpArgs false
set_option linter.unusedVariables false

/- Nodes with arguments by a map; a graph in which a leaf is a value. -/
namespace Go.Proofs.YtglelclmlkeheaaGreatDoor.V
open Go (IntKind BinOp UnOp)
variable {π : Id}

abbrev zBox : Blk := .box false [.p (I 0), .p (I 0), .p (.sl 1 (some true) []), .p (I 0)]
theorem mv_loop (x : Nod) (hal : x.args.length ≤ 1000) {f : Nat} {caps : List PV} {g : Int → Int} (hg : ∀ n ∈ x.args, EE (18 :: π) f (.p (I n) :: caps.map fun v => AV.p v.fg) [] = some (.p (I (g n)), [])) :
    ∀ (suf pre : List Int) (y : Env × Sto), x.args = pre ++ suf →
    mask [1, 2, 4, 5, 9, 10, 11] [] y = some ([(1, .p (.fn f caps)), (2, .ref (2 :: π) 0), (4, .ref (4 :: π) 0), (5, .ap (1005 :: π)), (9, .p (encInts x.args)), (10, .p (I x.args.length)), (11, .p (I pre.length))], [rowI (1005 :: π) (flagE pre) (pre.map g), (4 :: π, zBox), (2 :: π, boxNd x)]) →
    kpO [2, 4, 5] [4] [] (bkO 0 (iter (round EE iter π [] [1, 2, 4, 5, 9, 10, 11] c_graph_moved_L0) y)) = some (.nm, [(2, .ref (2 :: π) 0), (4, .ref (4 :: π) 0), (5, .ap (1005 :: π))], [rowI (1005 :: π) (flagE x.args) (x.args.map g), (4 :: π, zBox), (2 :: π, boxNd x)])
  | [], pre, y, h, hm => by
    rw [loop_eq hm]
    have : x.args = pre := by simpa using h
    simp [u_graph_moved_L0, b_graph_moved_L0, ← this]
  | z :: suf, pre, y, h, hm => by
    rw [loop_eq hm]
    have hlen : pre.length < x.args.length := by rw [h]; simp
    have hz := hg z (by rw [h]; simp)
    have hws := w_succ hlen (show x.args.length ≤ top63 by simp only [top63]; omega)
    have hroom : (pre.map g).length + 1 ≤ room := by rw [List.length_map]; simp only [room]; omega
    have hnext := mv_loop x hal hg suf (pre ++ [z])
    rw [show (pre ++ [z]).length = pre.length + 1 by simp, flagE_snoc, show (pre ++ [z]).map g = pre.map g ++ [g z] by simp] at hnext
    generalize pre.map g = R at *
    generalize x.args.map g = RR at *
    generalize g z = gz at *
    simp [u_graph_moved_L0, b_graph_moved_L0, lt_mid h, get_mid _ h, hz, hroom]
    exact hnext _ (by simp [h]) (by simp [hws])

theorem e_moved (x : Nod) (hal : x.args.length ≤ 1000) {f : Nat} {caps : List PV} {g : Int → Int} (hg : ∀ n ∈ x.args, EE (18 :: π) f (.p (I n) :: caps.map fun v => AV.p v.fg) [] = some (.p (I (g n)), [])) :
    EE π n_graph_moved [.p (encNode x), .p (.fn f caps)] [] = some (.agg [.p (I x.op), .p (I x.width), .ap (1005 :: π), .p (I x.value)], [rowI (1005 :: π) (flagE x.args) (x.args.map g)]) := by
  simp [e_graph_moved, run_eq, c_graph_moved, thaw, thaw1]
  rw [mv_loop x hal hg x.args [] _ rfl (by simp [flagE])]
  generalize x.args.map g = R
  simp [PV.setc]

theorem e_constant (w v : Int) : EE π n_graph_constant [.p (I w), .p (I v)] [] = some (.p (.agg [I 0, I w, .sl 1 (some true) [], I v]), []) := by
  simp [e_graph_constant, run_eq, c_graph_constant]

theorem e_sub1 (n : Int) : EE π n_graph_Substituted_1 [.p (I n)] [] = some (.p (I n), []) := by
  simp [e_graph_Substituted_1, run_eq, c_graph_Substituted_1]
theorem e_app1 (n : Int) : EE π n_graph_Appended_1 [.p (I n)] [] = some (.p (I n), []) := by
  simp [e_graph_Appended_1, run_eq, c_graph_Appended_1]
theorem e_app2 (n : Int) (a : List PV) : EE π n_graph_Appended_2 [.p (I n), .p (.ptr [.sl 4 none a])] [] = some (.p (I (IntKind.i64.wrap (n + a.length))), []) := by
  simp [e_graph_Appended_2, run_eq, c_graph_Appended_2]

end Go.Proofs.YtglelclmlkeheaaGreatDoor.V

/- A graph in which a leaf is a value. -/
namespace Go.Proofs.YtglelclmlkeheaaGreatDoor.V
open Go (IntKind BinOp UnOp)
variable {π : Id}

abbrev encM (x : Nod) : PV := .agg [I x.op, I x.width, .sl 1 (flagE x.args) (ints x.args), I x.value]
def subN (leaf v : Int) (x : Nod) : Nod := if x.op = 1 ∧ x.value = leaf then ⟨0, x.width, [], v⟩ else x
abbrev rowN (i : Id) (nl : Option Bool) (D : List PV) : Id × Blk := (i, .row false t_api_Node 4 nl D)

theorem sub_loop (nodes : List Nod) (hnl : nodes.length ≤ 1000) (hal : ∀ x ∈ nodes, x.args.length ≤ 1000) (leaf v : Int) :
    ∀ (suf pre : List Nod) (y : Env × Sto), nodes = pre ++ suf →
    mask [2, 3, 11, 36, 37, 38] [] y = some ([(2, .p (I leaf)), (3, .p (I v)), (11, .ap (1011 :: π)), (36, .p (encNodes nodes)), (37, .p (I nodes.length)), (38, .p (I pre.length))], [rowN (1011 :: π) (flagE pre) (pre.map fun x => encM (subN leaf v x))]) →
    kpO [11] [8, 9] [] (bkO 0 (iter (round EE iter π [] [2, 3, 11, 36, 37, 38] c_graph_Substituted_L0) y)) = some (.nm, [(11, .ap (1011 :: π))], [rowN (1011 :: π) (flagE nodes) (nodes.map fun x => encM (subN leaf v x))])
  | [], pre, y, h, hm => by
    rw [loop_eq hm]
    have : nodes = pre := by simpa using h
    simp [u_graph_Substituted_L0, b_graph_Substituted_L0, ← this]
  | z :: suf, pre, y, h, hm => by
    rw [loop_eq hm]
    have hlen : pre.length < nodes.length := by rw [h]; simp
    have hz := hal z (by rw [h]; simp)
    have hmv := fun π => e_moved (π := π) z hz (f := n_graph_Substituted_1) (caps := []) (g := id) (fun n _ => by simpa using e_sub1 n)
    simp only [List.map_id] at hmv
    have hws := w_succ hlen (show nodes.length ≤ top63 by simp only [top63]; omega)
    have hroom : (pre.map fun x => encM (subN leaf v x)).length + 1 ≤ room := by rw [List.length_map]; simp only [room]; omega
    have hnext := sub_loop nodes hnl hal leaf v suf (pre ++ [z])
    rw [show (pre ++ [z]).length = pre.length + 1 by simp, flagE_snoc, show ((pre ++ [z]).map fun x => encM (subN leaf v x)) = (pre.map fun x => encM (subN leaf v x)) ++ [encM (subN leaf v z)] by simp] at hnext
    generalize (pre.map fun x => encM (subN leaf v x)) = R at *
    generalize (nodes.map fun x => encM (subN leaf v x)) = RR at *
    unfold subN at hnext
    by_cases h1 : z.op = 1
    · by_cases h2 : z.value = leaf
      · rw [if_pos ⟨h1, h2⟩] at hnext
        simp only [encNode, h1, h2] at hmv
        simp [u_graph_Substituted_L0, b_graph_Substituted_L0, lt_mid h, get_mid _ h, hmv, h1, h2, hroom, e_constant, freeze, evRO]
        exact hnext _ (by simp [h]) (by simp [hws, flagE])
      · rw [if_neg (by simp [h2])] at hnext
        simp only [encNode, h1] at hmv
        simp [u_graph_Substituted_L0, b_graph_Substituted_L0, lt_mid h, get_mid _ h, hmv, h1, h2, hroom, e_constant, freeze, evRO]
        exact hnext _ (by simp [h]) (by simp [hws, flagE, h1])
    · rw [if_neg (by simp [h1])] at hnext
      simp [u_graph_Substituted_L0, b_graph_Substituted_L0, lt_mid h, get_mid _ h, hmv, h1, hroom, e_constant, freeze, evRO]
      exact hnext _ (by simp [h]) (by simp [hws, flagE, h1])

/-- The error of a substitution. -/
def subE (leaves : List Int) (c leaf v : Int) : Int :=
  if c ≠ 0 then c else if within leaf 0 ((leaves.length : Int) - 1) = false then 6 else if fitsB v (leaves.getD leaf.toNat 0) = false then 2 else 0

theorem eachE_all {α : Type} {err : Nat → α → Int} : ∀ {l : List α} {i : Nat}, (eachE err i l).2 = 0 → ∀ k x, l[k]? = some x → err (i + k) x = 0
  | [], i, h, k, x, hk => by simp at hk
  | y :: r, i, h, k, x, hk => by
    simp only [eachE] at h
    split at h
    · rename_i hy
      match k, hk with
      | 0, hk => simp at hk; subst hk; exact hy
      | k + 1, hk => rw [show i + (k + 1) = i + 1 + k by omega]; exact eachE_all h k x (by simpa using hk)
    · rename_i hy; exact absurd h hy
theorem checkE_leaves {leaves : List Int} {nodes : List Nod} (h : (checkE leaves nodes).2 = 0) : leaves.length ≤ 40 ∧ nodes.length ≤ 400 ∧ ∀ n ∈ leaves, 1 ≤ n ∧ n ≤ 16 := by
  unfold checkE at h
  split at h
  · simp at h
  · split at h
    · rename_i h2; exact absurd h h2
    · rename_i h1 h2
      split at h
      · simp at h
      · refine ⟨by omega, by omega, fun n hn => ?_⟩
        obtain ⟨k, hk⟩ := List.mem_iff_getElem?.1 hn
        have := eachE_all (by simpa using h2) k n hk
        exact within_iff.1 ((unlE_z (by decide)).1 this)

theorem e_Substituted (leaves : List Int) (hl : leaves.length ≤ 1000) (nodes : List Nod) (hnl : nodes.length ≤ 1000) (hal : ∀ x ∈ nodes, x.args.length ≤ 1000) (leaf v : Int) :
    EE π n_graph_Substituted [.p (encInts leaves), .p (encNodes nodes), .p (I leaf), .p (I v)] [] = (if subE leaves (checkE leaves nodes).2 leaf v = 0 then some (.tup [.ap (1011 :: π), .p (I 0)], [rowN (1011 :: π) (flagE nodes) (nodes.map fun x => encM (subN leaf v x))]) else some (.p (.tup [.sl 4 (some true) [], I (subE leaves (checkE leaves nodes).2 leaf v)]), [])) := by
  have hge := fun π => e_graphErr (π := π) leaves nodes hal
  have hck := checkE_leaves (leaves := leaves) (nodes := nodes)
  have hws : IntKind.i64.wrap ((leaves.length : Int) - 1) = (leaves.length : Int) - 1 := w64 ⟨by omega, by omega⟩
  have hlp := sub_loop (π := π) nodes hnl hal leaf v nodes []
  unfold subE
  generalize (checkE leaves nodes).2 = c at *
  by_cases hc : c = 0
  · obtain ⟨_, _, hlw⟩ := hck hc
    by_cases hw : within leaf 0 ((leaves.length : Int) - 1) = true
    · have hw' := within_iff.1 hw
      have hlt : leaf.toNat < leaves.length := by omega
      have hlt' : leaf < (leaves.length : Int) := by omega
      have hgd : leaves.getD leaf.toNat 0 = leaves[leaf.toNat] := by simp [List.getD, hlt]
      have hfi := fun π => e_fitsG (π := π) v leaves[leaf.toNat] (hlw _ (List.getElem_mem hlt)).2
      rw [hgd]
      cases hf : fitsB v leaves[leaf.toNat] with
      | false => 
        simp [e_graph_Substituted, run_eq, c_graph_Substituted, hge, hc, hws, e_withinG, hw, hw'.1, hlt, hlt', hfi, hf, e_unlessG, e_first2G, unlE, firstE, freeze, evRO]
      | true =>
        simp [e_graph_Substituted, run_eq, c_graph_Substituted, hge, hc, hws, e_withinG, hw, hw'.1, hlt, hlt', hfi, hf, e_unlessG, e_first2G, unlE, firstE, freeze, evRO, thaw, thaw1]
        rw [hlp _ rfl (by simp [flagE])]
        simp
    · have hw : within leaf 0 ((leaves.length : Int) - 1) = false := by simpa using hw
      simp [e_graph_Substituted, run_eq, c_graph_Substituted, hge, hc, hws, e_withinG, hw, e_unlessG, e_first2G, unlE, firstE, freeze, evRO]
  · simp [e_graph_Substituted, run_eq, c_graph_Substituted, hge, hc, hws, e_withinG, e_unlessG, e_first2G, firstE, freeze, evRO]

end Go.Proofs.YtglelclmlkeheaaGreatDoor.V

/- Two graphs as one. -/
namespace Go.Proofs.YtglelclmlkeheaaGreatDoor.V
open Go (IntKind BinOp UnOp)
variable {π : Id}

def shiftN (m : Nat) (x : Nod) : Nod := { x with args := x.args.map fun n => n + (m : Int) }
def atN (n k : Nat) : List Int := (List.range k).map fun i => ((n + i : Nat) : Int)
theorem atN_succ (n k : Nat) : atN n (k + 1) = atN n k ++ [((n + k : Nat) : Int)] := by simp [atN, List.range_succ]
theorem atN_len (n k : Nat) : (atN n k).length = k := by simp [atN]
theorem flagE_map {α β : Type} (f : α → β) (l : List α) : flagE (l.map f) = flagE l := by cases l <;> rfl

theorem app_loopA (a b : List Nod) (hal : a.length ≤ 1000) (hxa : ∀ x ∈ a, x.args.length ≤ 1000) :
    ∀ (suf pre : List Nod) (y : Env × Sto), a = pre ++ suf →
    mask [2, 4, 10, 11, 34, 35, 36] [] y = some ([(2, .p (encNodes b)), (4, .p (.ptr [encNodes a])), (10, .ap (1010 :: π)), (11, .p (.sl 1 (some true) [])), (34, .p (encNodes a)), (35, .p (I a.length)), (36, .p (I pre.length))], [rowN (1010 :: π) (flagE pre) (pre.map encM)]) →
    kpO [2, 4, 10, 11] [6, 7, 8] [] (bkO 0 (iter (round EE iter π [] [2, 4, 10, 11, 34, 35, 36] c_graph_Appended_L0) y)) = some (.nm, [(2, .p (encNodes b)), (4, .p (.ptr [encNodes a])), (10, .ap (1010 :: π)), (11, .p (.sl 1 (some true) []))], [rowN (1010 :: π) (flagE a) (a.map encM)])
  | [], pre, y, h, hm => by
    rw [loop_eq hm]
    have : a = pre := by simpa using h
    simp [u_graph_Appended_L0, b_graph_Appended_L0, ← this]
  | z :: suf, pre, y, h, hm => by
    rw [loop_eq hm]
    have hlen : pre.length < a.length := by rw [h]; simp
    have hz := hxa z (by rw [h]; simp)
    have hmv := fun π => e_moved (π := π) z hz (f := n_graph_Appended_1) (caps := []) (g := id) (fun n _ => by simpa using e_app1 n)
    simp only [List.map_id] at hmv
    have hws := w_succ hlen (show a.length ≤ top63 by simp only [top63]; omega)
    have hroom : (pre.map encM).length + 1 ≤ room := by rw [List.length_map]; simp only [room]; omega
    have hnext := app_loopA a b hal hxa suf (pre ++ [z])
    rw [show (pre ++ [z]).length = pre.length + 1 by simp, flagE_snoc, show ((pre ++ [z]).map encM) = pre.map encM ++ [encM z] by simp] at hnext
    generalize pre.map encM = R at *
    generalize a.map encM = RR at *
    simp [u_graph_Appended_L0, b_graph_Appended_L0, lt_mid h, get_mid _ h, hmv, hroom, freeze, evRO]
    exact hnext _ (by simp [h]) (by simp [hws])

theorem app_loopB (a b : List Nod) (hal : a.length ≤ 1000) (hbl : b.length ≤ 1000) (hxb : ∀ x ∈ b, x.args.length ≤ 1000) (hin : ∀ x ∈ b, ∀ n ∈ x.args, 0 ≤ n ∧ n ≤ 1000) :
    ∀ (suf pre : List Nod) (y : Env × Sto), b = pre ++ suf →
    mask [4, 10, 11, 46, 47, 48] [] y = some ([(4, .p (.ptr [encNodes a])), (10, .ap (1010 :: π)), (11, .ap (1011 :: π)), (46, .p (encNodes b)), (47, .p (I b.length)), (48, .p (I pre.length))], [rowI (1011 :: π) (flagE pre) (atN a.length pre.length), rowN (1010 :: π) (flagE (a ++ pre)) ((a ++ pre.map (shiftN a.length)).map encM)]) →
    kpO [10, 11] [6, 7, 8] [] (bkO 2 (iter (round EE iter π [] [4, 10, 11, 46, 47, 48] c_graph_Appended_L1) y)) = some (.nm, [(10, .ap (1010 :: π)), (11, .ap (1011 :: π))], [rowI (1011 :: π) (flagE b) (atN a.length b.length), rowN (1010 :: π) (flagE (a ++ b)) ((a ++ b.map (shiftN a.length)).map encM)])
  | [], pre, y, h, hm => by
    rw [loop_eq hm]
    have : b = pre := by simpa using h
    simp [u_graph_Appended_L1, b_graph_Appended_L1, ← this]
  | z :: suf, pre, y, h, hm => by
    rw [loop_eq hm]
    have hlen : pre.length < b.length := by rw [h]; simp
    have hz := hxb z (by rw [h]; simp)
    have hzi := hin z (by rw [h]; simp)
    have hmv := fun π => e_moved (π := π) z hz (f := n_graph_Appended_2) (caps := [.ptr [encNodes a]]) (g := fun n => n + (a.length : Int)) (fun n hn => by
      have := hzi n hn
      have hw : IntKind.i64.wrap (n + (a.length : Int)) = n + (a.length : Int) := w64 ⟨by omega, by omega⟩
      have h2 := e_app2 (π := 18 :: π) n (a.map encNode)
      rw [List.length_map, hw] at h2
      simpa using h2)
    have hws := w_succ hlen (show b.length ≤ top63 by simp only [top63]; omega)
    have hroom : a.length + pre.length + 1 ≤ room := by simp only [room]; omega
    have hRl : ((a ++ pre.map (shiftN a.length)).map encM).length = a.length + pre.length := by simp
    have hroomI : (atN a.length pre.length).length + 1 ≤ room := by rw [atN_len]; simp only [room]; omega
    have hnext := app_loopB a b hal hbl hxb hin suf (pre ++ [z])
    have hfl : flagE (shiftN a.length z).args = flagE z.args := flagE_map _ _
    rw [show (pre ++ [z]).length = pre.length + 1 by simp, ← List.append_assoc, flagE_snoc, flagE_snoc, atN_succ, show ((a ++ (pre ++ [z]).map (shiftN a.length)).map encM) = (a ++ pre.map (shiftN a.length)).map encM ++ [encM (shiftN a.length z)] by simp] at hnext
    rw [show encM (shiftN a.length z) = .agg [I z.op, I z.width, .sl 1 (flagE z.args) (ints (z.args.map fun n => n + (a.length : Int))), I z.value] by unfold encM; rw [hfl]; rfl] at hnext
    generalize (a ++ pre.map (shiftN a.length)).map encM = R at *
    generalize (a ++ b.map (shiftN a.length)).map encM = RR at *
    generalize z.args.map (fun n => n + (a.length : Int)) = ZA at *
    generalize atN a.length pre.length = AT at *
    generalize atN a.length b.length = ATB at *
    simp [u_graph_Appended_L1, b_graph_Appended_L1, lt_mid h, get_mid _ h, hmv, hroom, hroomI, hRl, freeze, evRO]
    exact hnext _ (by simp [h]) (by simp [hws])

theorem checkE_nodes {leaves : List Int} {nodes : List Nod} (h : (checkE leaves nodes).2 = 0) : ∀ i x, nodes[i]? = some x → nodeE leaves nodes i x = 0 := by
  unfold checkE at h
  split at h
  · simp at h
  · split at h
    · rename_i h2; exact absurd h h2
    · split at h
      · simp at h
      · intro i x hx
        have := eachE_all h i x hx
        simpa using this
theorem nodeE_iff {leaves : List Int} {nodes : List Nod} {i : Nat} {x : Nod} (h : nodeE leaves nodes i x = 0) :
    within x.op 0 18 = true ∧ within x.width 1 16 = true ∧ x.args.length = argc x.op.toNat ∧ argsIn i x.args = true ∧ valE leaves x (hasV x.op.toNat) = 0 ∧ fitB x.op.toNat x.width (widsOf nodes x.args) x.value = true := by
  unfold nodeE at h
  simp only [firstE_cons] at h
  obtain ⟨h1, h2, h3, h4, h5, h6, _⟩ := h
  exact ⟨(unlE_z (by decide)).1 h1, (unlE_z (by decide)).1 h2, by simpa using (unlE_z (by decide)).1 h3, (unlE_z (by decide)).1 h4, h5, (unlE_z (by decide)).1 h6⟩
theorem args_in {leaves : List Int} {nodes : List Nod} (h : (checkE leaves nodes).2 = 0) {i : Nat} {x : Nod} (hx : nodes[i]? = some x) : ∀ n ∈ x.args, 0 ≤ n ∧ n < (i : Int) := fun n hn => by
  have := within_iff.1 (List.all_eq_true.1 (nodeE_iff (checkE_nodes h i x hx)).2.2.2.1 n hn)
  omega

/-- The error of two graphs. -/
def appE (a b : Nat) (c d : Int) : Int := firstE [c, d, unlE (decide (a + b ≤ 400)) 8]

theorem e_Appended (leaves : List Int) (a b : List Nod) (hal : a.length ≤ 1000) (hbl : b.length ≤ 1000) (hxa : ∀ x ∈ a, x.args.length ≤ 1000) (hxb : ∀ x ∈ b, x.args.length ≤ 1000) :
    EE π n_graph_Appended [.p (encInts leaves), .p (encNodes a), .p (encNodes b)] [] = (if appE a.length b.length (checkE leaves a).2 (checkE leaves b).2 = 0 then some (.tup [.ap (1010 :: π), .ap (1011 :: π), .p (I 0)], [rowI (1011 :: π) (flagE b) (atN a.length b.length), rowN (1010 :: π) (flagE (a ++ b)) ((a ++ b.map (shiftN a.length)).map encM)]) else some (.p (.tup [.sl 4 (some true) [], .sl 1 (some true) [], I (appE a.length b.length (checkE leaves a).2 (checkE leaves b).2)]), [])) := by
  have hga := fun π => e_graphErr (π := π) leaves a hxa
  have hgb := fun π => e_graphErr (π := π) leaves b hxb
  have hws : IntKind.i64.wrap ((a.length : Int) + (b.length : Int)) = (a.length : Int) + (b.length : Int) := w64 ⟨by omega, by omega⟩
  have hlA := app_loopA (π := π) a b hal hxa a []
  have hlB : (checkE leaves b).2 = 0 → _ := fun hb => app_loopB (π := π) a b hal hbl hxb (fun x hx n hn => by
    obtain ⟨k, hk⟩ := List.mem_iff_getElem?.1 hx
    have := args_in hb hk n hn
    have hkl := (List.getElem?_eq_some_iff.1 hk).1
    omega) b []
  unfold appE
  generalize (checkE leaves a).2 = c at *
  generalize (checkE leaves b).2 = d at *
  by_cases hc : c = 0
  · by_cases hd : d = 0
    · have hlB := hlB hd
      by_cases hl : a.length + b.length ≤ 400
      · have hl' : (a.length : Int) + (b.length : Int) ≤ 400 := by omega
        simp [e_graph_Appended, run_eq, c_graph_Appended, hga, hgb, hc, hd, hws, hl, hl', e_unlessG, e_first3G, unlE, firstE, freeze, evRO, thaw, thaw1]
        rw [hlA _ rfl (by simp [flagE])]
        simp [thaw, thaw1]
        rw [hlB _ rfl (by simp [flagE, atN])]
        simp
      · have hl' : ¬ (a.length : Int) + (b.length : Int) ≤ 400 := by omega
        simp [e_graph_Appended, run_eq, c_graph_Appended, hga, hgb, hc, hd, hws, hl, hl', e_unlessG, e_first3G, unlE, firstE, freeze, evRO]
    · simp [e_graph_Appended, run_eq, c_graph_Appended, hga, hgb, hc, hd, hws, e_unlessG, e_first3G, firstE, freeze, evRO]
  · simp [e_graph_Appended, run_eq, c_graph_Appended, hga, hgb, hc, hws, e_unlessG, e_first3G, firstE, freeze, evRO]

end Go.Proofs.YtglelclmlkeheaaGreatDoor.V

/- Numbers bit by bit: what the operations of nodes compute. -/
namespace Go.Proofs.YtglelclmlkeheaaGreatDoor.V
open Go (IntKind BinOp UnOp)

def band (a b : Int) : Int := IntKind.i64.wrap ((BitVec.ofInt 64 a &&& BitVec.ofInt 64 b).toNat : Int)
def bor (a b : Int) : Int := IntKind.i64.wrap ((BitVec.ofInt 64 a ||| BitVec.ofInt 64 b).toNat : Int)
def bxor (a b : Int) : Int := IntKind.i64.wrap ((BitVec.ofInt 64 a ^^^ BitVec.ofInt 64 b).toNat : Int)

theorem ofInt_nn {a : Int} (h0 : 0 ≤ a) (h1 : a < 18446744073709551616) : (BitVec.ofInt 64 a).toNat = a.toNat := by
  rw [BitVec.toNat_ofInt]
  have : a % ((2 ^ 64 : Nat) : Int) = a := Int.emod_eq_of_lt h0 (by simpa using h1)
  rw [this]
theorem w16 (w : Int) (h : w ≤ 16) : pw w = ((2 ^ w.toNat : Nat) : Int) ∧ 2 ^ w.toNat ≤ 65536 := by
  refine ⟨by unfold pw; simp, ?_⟩
  have h2 : 2 ^ w.toNat ≤ 2 ^ 16 := Nat.pow_le_pow_right (by omega) (by omega)
  simpa using h2
theorem ibnd {a w : Int} (hw : w ≤ 16) (h0 : 0 ≤ a) (h1 : a < pw w) : a.toNat < 2 ^ w.toNat ∧ a < 65536 := by
  obtain ⟨h2, h3⟩ := w16 w hw
  rw [h2] at h1
  omega
theorem wrap_nn {n : Nat} (h : n < 65536 * 65536) : IntKind.i64.wrap (n : Int) = n := w64 ⟨by omega, by omega⟩

theorem band_in {a b w : Int} (hw : w ≤ 16) (ha : 0 ≤ a ∧ a < pw w) (hb : 0 ≤ b ∧ b < pw w) : 0 ≤ band a b ∧ band a b < pw w := by
  obtain ⟨a1, a2⟩ := ibnd hw ha.1 ha.2
  obtain ⟨b1, b2⟩ := ibnd hw hb.1 hb.2
  obtain ⟨h2, h3⟩ := w16 w hw
  unfold band
  rw [BitVec.toNat_and, ofInt_nn ha.1 (by omega), ofInt_nn hb.1 (by omega)]
  have := Nat.and_lt_two_pow a.toNat b1
  rw [wrap_nn (by omega), h2]
  omega
theorem bor_in {a b w : Int} (hw : w ≤ 16) (ha : 0 ≤ a ∧ a < pw w) (hb : 0 ≤ b ∧ b < pw w) : 0 ≤ bor a b ∧ bor a b < pw w := by
  obtain ⟨a1, a2⟩ := ibnd hw ha.1 ha.2
  obtain ⟨b1, b2⟩ := ibnd hw hb.1 hb.2
  obtain ⟨h2, h3⟩ := w16 w hw
  unfold bor
  rw [BitVec.toNat_or, ofInt_nn ha.1 (by omega), ofInt_nn hb.1 (by omega)]
  have := Nat.or_lt_two_pow a1 b1
  rw [wrap_nn (by omega), h2]
  omega
theorem bxor_in {a b w : Int} (hw : w ≤ 16) (ha : 0 ≤ a ∧ a < pw w) (hb : 0 ≤ b ∧ b < pw w) : 0 ≤ bxor a b ∧ bxor a b < pw w := by
  obtain ⟨a1, a2⟩ := ibnd hw ha.1 ha.2
  obtain ⟨b1, b2⟩ := ibnd hw hb.1 hb.2
  obtain ⟨h2, h3⟩ := w16 w hw
  unfold bxor
  rw [BitVec.toNat_xor, ofInt_nn ha.1 (by omega), ofInt_nn hb.1 (by omega)]
  have := Nat.xor_lt_two_pow a1 b1
  rw [wrap_nn (by omega), h2]
  omega

/-- Cutting off is a remainder. -/
theorem band_mask (n w : Int) (hw : w ≤ 16) : band n (pw w - 1) = n % pw w := by
  obtain ⟨h2, h3⟩ := w16 w hw
  have hp : 0 < 2 ^ w.toNat := Nat.pow_pos (by omega)
  unfold band
  rw [BitVec.toNat_and, ofInt_nn (a := pw w - 1) (by omega) (by omega), show (pw w - 1).toNat = 2 ^ w.toNat - 1 by omega, Nat.and_two_pow_sub_one_eq_mod, BitVec.toNat_ofInt]
  have hlt := Nat.mod_lt (n % ((2 ^ 64 : Nat) : Int)).toNat hp
  rw [wrap_nn (by omega), h2]
  have hnn : 0 ≤ n % ((2 ^ 64 : Nat) : Int) := Int.emod_nonneg _ (by simp)
  rw [Int.natCast_emod, Int.toNat_of_nonneg hnn]
  refine Int.emod_emod_of_dvd n ?_
  refine Int.natCast_dvd_natCast.2 (Nat.pow_dvd_pow 2 (by omega))

theorem bnot_eq (a : Int) (h0 : 0 ≤ a) (h1 : a < 65536) : bxor (-1) a = -1 - a := by
  unfold bxor
  have : BitVec.ofInt 64 (-1) = BitVec.allOnes 64 := by decide
  rw [this, BitVec.allOnes_xor, BitVec.toNat_not, ofInt_nn h0 (by omega)]
  have h2 : ((2 ^ 64 - 1 - a.toNat : Nat) : Int) = 18446744073709551615 - a := by
    have : (2 : Nat) ^ 64 - 1 = 18446744073709551615 := by decide
    rw [this]; omega
  rw [h2]
  have e : IntKind.i64.wrap (18446744073709551615 - a) = if (9223372036854775808 : Int) ≤ (18446744073709551615 - a) % 18446744073709551616 then (18446744073709551615 - a) % 18446744073709551616 - 18446744073709551616 else (18446744073709551615 - a) % 18446744073709551616 := by
    simp [IntKind.wrap, IntKind.bits, IntKind.signed]
  rw [e]
  split <;> omega

theorem join_eq {a b w : Int} (h0 : 0 ≤ a) (h1 : a < 65536) (hw0 : 0 ≤ w) (hw : w ≤ 16) (hb : 0 ≤ b ∧ b < pw w) : bor (a * pw w) b = a * pw w + b := by
  obtain ⟨b1, b2⟩ := ibnd hw hb.1 hb.2
  obtain ⟨h2, h3⟩ := w16 w hw
  unfold bor
  have hm : a.toNat * 2 ^ w.toNat ≤ 65535 * 65536 := Nat.mul_le_mul (by omega) h3
  have e : a * pw w = ((a.toNat * 2 ^ w.toNat : Nat) : Int) := by rw [h2, Int.natCast_mul, Int.toNat_of_nonneg h0]
  rw [BitVec.toNat_or, ofInt_nn (a := a * pw w) (by rw [e]; omega) (by rw [e]; omega), ofInt_nn hb.1 (by omega), e, Int.toNat_natCast]
  have h := Nat.shiftLeft_add_eq_or_of_lt b1 a.toNat
  rw [Nat.shiftLeft_eq] at h
  rw [← h, wrap_nn (by omega)]
  omega

end Go.Proofs.YtglelclmlkeheaaGreatDoor.V

/- The operations of nodes, in the evaluator. -/
namespace Go.Proofs.YtglelclmlkeheaaGreatDoor.V
open Go (IntKind BinOp UnOp)
variable {π : Id}

theorem shl1 {w : Int} (h0 : 0 ≤ w) (h : w ≤ 16) : IntKind.i64.wrap (2 ^ (min w.toNat 64)) = pw w := by
  have hm : min w.toNat 64 = w.toNat := by omega
  rw [hm]
  have h1 := pw_pos w
  have h2 := pw_le h
  exact w64 (n := pw w) ⟨by omega, by omega⟩

theorem e_mask (n w : Int) (h0 : 0 ≤ w) (h : w ≤ 16) : EE π n_graph_mask [.p (I n), .p (I w)] [] = some (.p (I (n % pw w)), []) := by
  have hb : ibits .and .i64 n (pw w - 1) = some (n % pw w) := by rw [← band_mask n w h]; rfl
  have hneg : ¬ w < 0 := by omega
  have h1 := pw_pos w
  have h2 := pw_le h
  have hs := shl1 h0 h
  have hw : IntKind.i64.wrap (pw w - 1) = pw w - 1 := w64 ⟨by omega, by omega⟩
  generalize pw w = P at *
  simp [e_graph_mask, run_eq, c_graph_mask, hneg, IntKind.bits, hs, hw, hb]

def sgnV (n w : Int) : Int := if pw (w - 1) ≤ n then n - pw w else n
theorem pw_succ {w : Int} (h : 1 ≤ w) : pw w = 2 * pw (w - 1) := by
  unfold pw
  have : w.toNat = (w - 1).toNat + 1 := by omega
  rw [this, Int.pow_succ]; omega

theorem band_one {q : Int} (h0 : 0 ≤ q) (h : q < 2) : band q 1 = q := by
  rcases (show q = 0 ∨ q = 1 by omega) with rfl | rfl <;> decide

theorem e_signedG (n w : Int) (h1 : 1 ≤ w) (h : w ≤ 16) (hn : 0 ≤ n ∧ n < pw w) : EE π n_graph_signed [.p (I n), .p (I w)] [] = some (.p (I (sgnV n w)), []) := by
  have hp1 := pw_pos (w - 1)
  have hp2 := pw_le h
  have hps := pw_succ h1
  have hneg : ¬ w < 0 := by omega
  have hneg1 : ¬ w - 1 < 0 := by omega
  have hw1 : IntKind.i64.wrap (w - 1) = w - 1 := w64 ⟨by omega, by omega⟩
  have hm : min (w.toNat - 1) 64 = w.toNat - 1 := by omega
  have hs := shl1 (by omega : 0 ≤ w) h
  have hd : n.fdiv (2 ^ (w.toNat - 1)) = n / pw (w - 1) := by
    rw [show w.toNat - 1 = (w - 1).toNat by omega, Int.fdiv_eq_ediv_of_nonneg _ (by exact Int.le_of_lt (pw_pos (w - 1)))]; rfl
  have hsub : IntKind.i64.wrap (n - pw w) = n - pw w := w64 ⟨by omega, by omega⟩
  unfold sgnV
  by_cases hc : pw (w - 1) ≤ n
  · have hq : n / pw (w - 1) = 1 := by
      refine Int.le_antisymm ?_ ?_
      · exact Int.lt_add_one_iff.1 (Int.ediv_lt_of_lt_mul hp1 (by omega))
      · exact Int.le_ediv_of_mul_le hp1 (by omega)
    have hb : ibits .and .i64 1 1 = some 1 := by decide
    rw [hq] at hd
    generalize pw w = P at *
    generalize pw (w - 1) = P1 at *
    simp [e_graph_signed, run_eq, c_graph_signed, hneg, hneg1, hw1, hm, IntKind.bits, hs, hd, hb, hsub, hc]
  · have hq : n / pw (w - 1) = 0 := Int.ediv_eq_zero_of_lt hn.1 (by omega)
    have hb : ibits .and .i64 0 1 = some 0 := by decide
    rw [hq] at hd
    generalize pw w = P at *
    generalize pw (w - 1) = P1 at *
    simp [e_graph_signed, run_eq, c_graph_signed, hneg, hneg1, hw1, hm, IntKind.bits, hs, hd, hb, hsub, hc]

theorem e_truth (b : Bool) : EE π n_graph_truth [.p (.bool b)] [] = some (.p (I (if b then 1 else 0)), []) := by
  cases b <;> simp [e_graph_truth, run_eq, c_graph_truth]

end Go.Proofs.YtglelclmlkeheaaGreatDoor.V

/- What each operation computes. -/
namespace Go.Proofs.YtglelclmlkeheaaGreatDoor.V
open Go (IntKind BinOp UnOp)
variable {π : Id}

abbrev Okv (v w : Int) : Prop := 0 ≤ v ∧ v < pw w

theorem e_binary1 (x : Nod) (h1 : 1 ≤ x.width) (h2 : x.width ≤ 16) (w : AV) (a0 a1 r : Int) {f : Nat} (hf : ∀ π, EE π f [.p (I a0), .p (I a1)] [] = some (.p (I r), [])) :
    EE π n_graph_binary_1 [.p (encNode x), w, .p (encInts [a0, a1]), .p (.ptr [.fn f []])] [] = some (.p (I (r % pw x.width)), []) := by
  have hm := fun π => e_mask (π := π) r x.width (by omega) h2
  generalize r % pw x.width = R at *
  simp [e_graph_binary_1, run_eq, c_graph_binary_1, hf, hm, evRO]
theorem e_relation1 (x : Nod) (w0 : Int) (ws : List Int) (a0 a1 : Int) (r : Bool) {f : Nat} (hf : ∀ π, EE π f [.p (I a0), .p (I a1), .p (I w0)] [] = some (.p (.bool r), [])) :
    EE π n_graph_relation_1 [.p (encNode x), .p (encInts (w0 :: ws)), .p (encInts [a0, a1]), .p (.ptr [.fn f []])] [] = some (.p (I (if r then 1 else 0)), []) := by
  simp [e_graph_relation_1, run_eq, c_graph_relation_1, hf, e_truth, evRO]

theorem e_op3 (a b : Int) : EE π n_graph_operations_3 [.p (I a), .p (I b)] [] = some (.p (I (band a b)), []) := by
  have hb : ibits .and .i64 a b = some (band a b) := rfl
  simp [e_graph_operations_3, run_eq, c_graph_operations_3, hb]
theorem e_op4 (a b : Int) : EE π n_graph_operations_4 [.p (I a), .p (I b)] [] = some (.p (I (bor a b)), []) := by
  have hb : ibits .or .i64 a b = some (bor a b) := rfl
  simp [e_graph_operations_4, run_eq, c_graph_operations_4, hb]
theorem e_op5 (a b : Int) : EE π n_graph_operations_5 [.p (I a), .p (I b)] [] = some (.p (I (bxor a b)), []) := by
  have hb : ibits .xor .i64 a b = some (bxor a b) := rfl
  simp [e_graph_operations_5, run_eq, c_graph_operations_5, hb]
theorem e_op6 (a b : Int) (h : ok64 (a + b)) : EE π n_graph_operations_6 [.p (I a), .p (I b)] [] = some (.p (I (a + b)), []) := by
  simp [e_graph_operations_6, run_eq, c_graph_operations_6, w64 h]
theorem e_op7 (a b : Int) (h : ok64 (a - b)) : EE π n_graph_operations_7 [.p (I a), .p (I b)] [] = some (.p (I (a - b)), []) := by
  simp [e_graph_operations_7, run_eq, c_graph_operations_7, w64 h]
theorem e_op8 (a b : Int) (h : ok64 (a * b)) : EE π n_graph_operations_8 [.p (I a), .p (I b)] [] = some (.p (I (a * b)), []) := by
  simp [e_graph_operations_8, run_eq, c_graph_operations_8, w64 h]
theorem e_op9 (a b : Int) (w : AV) : EE π n_graph_operations_9 [.p (I a), .p (I b), w] [] = some (.p (.bool (decide (a = b))), []) := by
  by_cases h : a = b <;> simp [e_graph_operations_9, run_eq, c_graph_operations_9, h]
theorem e_op10 (a b : Int) (w : AV) : EE π n_graph_operations_10 [.p (I a), .p (I b), w] [] = some (.p (.bool (decide (a < b))), []) := by
  simp [e_graph_operations_10, run_eq, c_graph_operations_10]
theorem e_op11 (a b w : Int) (h1 : 1 ≤ w) (h2 : w ≤ 16) (ha : Okv a w) (hb : Okv b w) : EE π n_graph_operations_11 [.p (I a), .p (I b), .p (I w)] [] = some (.p (.bool (decide (sgnV a w < sgnV b w))), []) := by
  have hsa := fun π => e_signedG (π := π) a w h1 h2 ha
  have hsb := fun π => e_signedG (π := π) b w h1 h2 hb
  generalize sgnV a w = A at *
  generalize sgnV b w = B at *
  simp [e_graph_operations_11, run_eq, c_graph_operations_11, hsa, hsb]

theorem emod_add {n P : Int} (h0 : 0 ≤ n + P) (h1 : n + P < P) : n % P = n + P := by
  rw [← Int.emod_eq_of_lt h0 h1]
  simp
theorem e_op1 (x : Nod) (w a : AV) : EE π n_graph_operations_1 [.p (encNode x), w, a] [] = some (.p (I x.value), []) := by
  simp [e_graph_operations_1, run_eq, c_graph_operations_1]
theorem e_op2 (x : Nod) (h1 : 1 ≤ x.width) (h2 : x.width ≤ 16) (w : AV) (a0 : Int) (ha : Okv a0 x.width) :
    EE π n_graph_operations_2 [.p (encNode x), w, .p (encInts [a0])] [] = some (.p (I (pw x.width - 1 - a0)), []) := by
  have hp := pw_le h2
  have hm := fun π => e_mask (π := π) (-1 - a0) x.width (by omega) h2
  rw [emod_add (by omega) (by omega), show -1 - a0 + pw x.width = pw x.width - 1 - a0 by omega] at hm
  have hx : ibits .xor .i64 (-1) a0 = some (-1 - a0) := by rw [← bnot_eq a0 (by omega) (by omega)]; rfl
  generalize pw x.width - 1 - a0 = R at *
  simp [e_graph_operations_2, run_eq, c_graph_operations_2, IntKind.signed, hx, hm, evRO]
theorem e_op13 (x : Nod) (w : AV) (a0 a1 a2 : Int) : EE π n_graph_operations_13 [.p (encNode x), w, .p (encInts [a0, a1, a2])] [] = some (.p (I (if a0 = 1 then a1 else a2)), []) := by
  by_cases h : a0 = 1 <;> simp [e_graph_operations_13, run_eq, c_graph_operations_13, h, evRO]
theorem e_op15 (x : Nod) (w0 w1 a0 a1 : Int) (h0 : 0 ≤ a0 ∧ a0 < 65536) (hw : 0 ≤ w1 ∧ w1 ≤ 16) (h1 : Okv a1 w1) : EE π n_graph_operations_15 [.p (encNode x), .p (encInts [w0, w1]), .p (encInts [a0, a1])] [] = some (.p (I (a0 * pw w1 + a1)), []) := by
  have hneg : ¬ w1 < 0 := by omega
  have hm : min w1.toNat 64 = w1.toNat := by omega
  have hp1 := pw_pos w1
  have hp2 := pw_le hw.2
  have hmul : a0 * pw w1 ≤ 65535 * 65536 := by
    have := Int.mul_le_mul (show a0 ≤ 65535 by omega) hp2 (by omega) (by omega)
    omega
  have hmul0 : 0 ≤ a0 * pw w1 := Int.mul_nonneg h0.1 (by omega)
  have hp : a0 * 2 ^ w1.toNat = a0 * pw w1 := rfl
  have hb : ibits .or .i64 (a0 * pw w1) a1 = some (a0 * pw w1 + a1) := by rw [← join_eq h0.1 h0.2 hw.1 hw.2 h1]; rfl
  have hws : IntKind.i64.wrap (a0 * pw w1) = a0 * pw w1 := w64 ⟨by omega, by omega⟩
  generalize a0 * pw w1 = R at *
  simp [e_graph_operations_15, run_eq, c_graph_operations_15, hneg, hm, IntKind.bits, hp, hws, hb, evRO]
theorem fdiv_pw (a v : Int) : a.fdiv (2 ^ v.toNat) = a / pw v := by
  rw [Int.fdiv_eq_ediv_of_nonneg _ (by exact Int.le_of_lt (pw_pos v))]; rfl
theorem e_op17 (x : Nod) (h1 : 1 ≤ x.width) (h2 : x.width ≤ 16) (hv : 0 ≤ x.value ∧ x.value ≤ 15) (w : AV) (a0 : Int) : EE π n_graph_operations_17 [.p (encNode x), w, .p (encInts [a0])] [] = some (.p (I (a0 / pw x.value % pw x.width)), []) := by
  have hneg : ¬ x.value < 0 := by omega
  have hm : min x.value.toNat 64 = x.value.toNat := by omega
  have hd := fdiv_pw a0 x.value
  have hmk := fun π => e_mask (π := π) (a0 / pw x.value) x.width (by omega) h2
  generalize a0 / pw x.value = Q at *
  generalize Q % pw x.width = R at *
  simp [e_graph_operations_17, run_eq, c_graph_operations_17, hneg, hm, IntKind.bits, hd, hmk, evRO]
theorem e_op18 (x : Nod) (w : AV) (a0 : Int) : EE π n_graph_operations_18 [.p (encNode x), w, .p (encInts [a0])] [] = some (.p (I a0), []) := by
  simp [e_graph_operations_18, run_eq, c_graph_operations_18]
theorem e_op19 (x : Nod) (h1 : 1 ≤ x.width) (h2 : x.width ≤ 16) (w0 a0 : Int) (hw : 1 ≤ w0 ∧ w0 ≤ 16) (ha : Okv a0 w0) : EE π n_graph_operations_19 [.p (encNode x), .p (encInts [w0]), .p (encInts [a0])] [] = some (.p (I (sgnV a0 w0 % pw x.width)), []) := by
  have hs := fun π => e_signedG (π := π) a0 w0 hw.1 hw.2 ha
  have hmk := fun π => e_mask (π := π) (sgnV a0 w0) x.width (by omega) h2
  generalize sgnV a0 w0 = S at *
  generalize S % pw x.width = R at *
  simp [e_graph_operations_19, run_eq, c_graph_operations_19, hs, hmk, evRO]

def shlV (a0 a1 w : Int) : Int := if w ≤ a1 then 0 else a0 * pw a1 % pw w
def shrV (a0 a1 w : Int) : Int := if w ≤ a1 then 0 else a0 / pw a1
theorem mul_le {a m : Int} (ha : 0 ≤ a ∧ a < 65536) (hm : 0 ≤ m ∧ m ≤ 65536) : 0 ≤ a * m ∧ a * m ≤ 65535 * 65536 := by
  refine ⟨Int.mul_nonneg ha.1 hm.1, ?_⟩
  have := Int.mul_le_mul (show a ≤ 65535 by omega) hm.2 hm.1 (by omega)
  omega
theorem e_op20 (x : Nod) (h1 : 1 ≤ x.width) (h2 : x.width ≤ 16) (w : AV) (a0 a1 : Int) (ha : Okv a0 x.width) (hb : 0 ≤ a1) : EE π n_graph_operations_20 [.p (encNode x), w, .p (encInts [a0, a1])] [] = some (.p (I (shlV a0 a1 x.width)), []) := by
  have hp2 := pw_le h2
  unfold shlV
  by_cases hc : x.width ≤ a1
  · have hneg : ¬ x.width < 0 := by omega
    have hm : min x.width.toNat 64 = x.width.toNat := by omega
    have hmi : (if x.width < a1 then x.width else a1) = x.width := by split <;> omega
    have hp : a0 * 2 ^ x.width.toNat = a0 * pw x.width := rfl
    have hml := mul_le (a := a0) (m := pw x.width) ⟨ha.1, by omega⟩ ⟨by omega, hp2⟩
    have hw : IntKind.i64.wrap (a0 * pw x.width) = a0 * pw x.width := w64 ⟨by omega, by omega⟩
    have hmk := fun π => e_mask (π := π) (a0 * pw x.width) x.width (by omega) h2
    rw [Int.mul_emod_left] at hmk
    generalize a0 * pw x.width = R at *
    simp [e_graph_operations_20, run_eq, c_graph_operations_20, hneg, hm, hmi, hc, IntKind.bits, hp, hw, hmk, evRO]
  · have hneg : ¬ a1 < 0 := by omega
    have hm : min a1.toNat 64 = a1.toNat := by omega
    have hmi : (if x.width < a1 then x.width else a1) = a1 := by split <;> omega
    have hp : a0 * 2 ^ a1.toNat = a0 * pw a1 := rfl
    have hml := mul_le (a := a0) (m := pw a1) ⟨ha.1, by omega⟩ ⟨Int.le_of_lt (pw_pos a1), pw_le (by omega)⟩
    have hw : IntKind.i64.wrap (a0 * pw a1) = a0 * pw a1 := w64 ⟨by omega, by omega⟩
    have hmk := fun π => e_mask (π := π) (a0 * pw a1) x.width (by omega) h2
    generalize a0 * pw a1 = R at *
    generalize R % pw x.width = S at *
    simp [e_graph_operations_20, run_eq, c_graph_operations_20, hneg, hm, hmi, hc, IntKind.bits, hp, hw, hmk, evRO]
theorem e_op21 (x : Nod) (h1 : 1 ≤ x.width) (h2 : x.width ≤ 16) (w : AV) (a0 a1 : Int) (ha : Okv a0 x.width) (hb : 0 ≤ a1) : EE π n_graph_operations_21 [.p (encNode x), w, .p (encInts [a0, a1])] [] = some (.p (I (shrV a0 a1 x.width)), []) := by
  unfold shrV
  by_cases hc : x.width ≤ a1
  · have hneg : ¬ x.width < 0 := by omega
    have hm : min x.width.toNat 64 = x.width.toNat := by omega
    have hmi : (if x.width < a1 then x.width else a1) = x.width := by split <;> omega
    have hd := fdiv_pw a0 x.width
    rw [Int.ediv_eq_zero_of_lt ha.1 ha.2] at hd
    simp [e_graph_operations_21, run_eq, c_graph_operations_21, hneg, hm, hmi, hc, IntKind.bits, hd, evRO]
  · have hneg : ¬ a1 < 0 := by omega
    have hm : min a1.toNat 64 = a1.toNat := by omega
    have hmi : (if x.width < a1 then x.width else a1) = a1 := by split <;> omega
    have hd := fdiv_pw a0 a1
    generalize a0 / pw a1 = Q at *
    simp [e_graph_operations_21, run_eq, c_graph_operations_21, hneg, hm, hmi, hc, IntKind.bits, hd, evRO]

end Go.Proofs.YtglelclmlkeheaaGreatDoor.V

/- What a node's operation computes, by its number. -/
namespace Go.Proofs.YtglelclmlkeheaaGreatDoor.V
open Go (IntKind BinOp UnOp)
variable {π : Id}

def bitV (b : Bool) : Int := if b then 1 else 0
def appK : Nat → Nod → List Int → List Int → Int
  | 2, x, _, a => pw x.width - 1 - a.getD 0 0
  | 3, _, _, a => band (a.getD 0 0) (a.getD 1 0)
  | 4, _, _, a => bor (a.getD 0 0) (a.getD 1 0)
  | 5, _, _, a => bxor (a.getD 0 0) (a.getD 1 0)
  | 6, x, _, a => (a.getD 0 0 + a.getD 1 0) % pw x.width
  | 7, x, _, a => (a.getD 0 0 - a.getD 1 0) % pw x.width
  | 8, x, _, a => a.getD 0 0 * a.getD 1 0 % pw x.width
  | 9, _, _, a => bitV (decide (a.getD 0 0 = a.getD 1 0))
  | 10, _, _, a => bitV (decide (a.getD 0 0 < a.getD 1 0))
  | 11, _, w, a => bitV (decide (sgnV (a.getD 0 0) (w.getD 0 0) < sgnV (a.getD 1 0) (w.getD 1 0)))
  | 12, _, _, a => if a.getD 0 0 = 1 then a.getD 1 0 else a.getD 2 0
  | 13, _, w, a => a.getD 0 0 * pw (w.getD 1 0) + a.getD 1 0
  | 14, x, _, a => a.getD 0 0 / pw x.value % pw x.width
  | 15, _, _, a => a.getD 0 0
  | 16, x, w, a => sgnV (a.getD 0 0) (w.getD 0 0) % pw x.width
  | 17, x, _, a => shlV (a.getD 0 0) (a.getD 1 0) x.width
  | 18, x, _, a => shrV (a.getD 0 0) (a.getD 1 0) x.width
  | _, x, _, _ => x.value

structure AppOk (k : Nat) (x : Nod) (w a : List Int) : Prop where
  wd : 1 ≤ x.width ∧ x.width ≤ 16
  al : a.length = argc k
  wl : w.length = argc k
  ok : ∀ i, i < argc k → (1 ≤ w.getD i 0 ∧ w.getD i 0 ≤ 16) ∧ Okv (a.getD i 0) (w.getD i 0)
  fit : fitB k x.width w x.value = true
  val : k = 14 → 0 ≤ x.value ∧ x.value ≤ 15

theorem one_of (l : List Int) (h : l.length = 1) : ∃ a, l = [a] := by match l, h with | [a], _ => exact ⟨a, rfl⟩
theorem two_of (l : List Int) (h : l.length = 2) : ∃ a b, l = [a, b] := by match l, h with | [a, b], _ => exact ⟨a, b, rfl⟩
theorem three_of (l : List Int) (h : l.length = 3) : ∃ a b c, l = [a, b, c] := by match l, h with | [a, b, c], _ => exact ⟨a, b, c, rfl⟩

/-- What the arguments of an operation of two arguments of the result's width are. -/
theorem ok_same2 {k : Nat} (hk : 3 ≤ k ∧ k ≤ 8) {x : Nod} {w a : List Int} (h : AppOk k x w a) : ∃ a0 a1, a = [a0, a1] ∧ w = [x.width, x.width] ∧ Okv a0 x.width ∧ Okv a1 x.width := by
  have hc : argc k = 2 := by
    rcases (show k = 3 ∨ k = 4 ∨ k = 5 ∨ k = 6 ∨ k = 7 ∨ k = 8 by omega) with rfl | rfl | rfl | rfl | rfl | rfl <;> rfl
  obtain ⟨a0, a1, rfl⟩ := two_of a (h.al.trans hc)
  obtain ⟨w0, w1, rfl⟩ := two_of w (h.wl.trans hc)
  have h0 := h.ok 0 (by omega)
  have h1 := h.ok 1 (by omega)
  have hf := h.fit
  unfold fitB at hf
  rw [if_neg (by omega), if_pos (by omega)] at hf
  simp at hf
  obtain ⟨rfl, rfl⟩ := hf
  exact ⟨a0, a1, rfl, rfl, by simpa using h0.2, by simpa using h1.2⟩
theorem ok_rel {k : Nat} (hk : 9 ≤ k ∧ k ≤ 11) {x : Nod} {w a : List Int} (h : AppOk k x w a) : ∃ a0 a1 w0, a = [a0, a1] ∧ w = [w0, w0] ∧ x.width = 1 ∧ (1 ≤ w0 ∧ w0 ≤ 16) ∧ Okv a0 w0 ∧ Okv a1 w0 := by
  have hc : argc k = 2 := by
    rcases (show k = 9 ∨ k = 10 ∨ k = 11 by omega) with rfl | rfl | rfl <;> rfl
  obtain ⟨a0, a1, rfl⟩ := two_of a (h.al.trans hc)
  obtain ⟨w0, w1, rfl⟩ := two_of w (h.wl.trans hc)
  have h0 := h.ok 0 (by omega)
  have h1 := h.ok 1 (by omega)
  have hf := h.fit
  unfold fitB at hf
  rw [if_neg (by omega), if_neg (by omega), if_pos (by omega)] at hf
  simp at hf
  obtain ⟨hw, rfl⟩ := hf
  exact ⟨a0, a1, w0, rfl, rfl, hw, by simpa using h0.1, by simpa using h0.2, by simpa using h1.2⟩
theorem ok_not {x : Nod} {w a : List Int} (h : AppOk 2 x w a) : ∃ a0, a = [a0] ∧ w = [x.width] ∧ Okv a0 x.width := by
  obtain ⟨a0, rfl⟩ := one_of a h.al
  obtain ⟨w0, rfl⟩ := one_of w h.wl
  have h0 := h.ok 0 (by decide)
  have hf : w0 = x.width := by simpa [fitB] using h.fit
  subst hf
  exact ⟨a0, rfl, rfl, by simpa using h0.2⟩
theorem ok_mux {x : Nod} {w a : List Int} (h : AppOk 12 x w a) : ∃ a0 a1 a2, a = [a0, a1, a2] ∧ w = [1, x.width, x.width] ∧ Okv a1 x.width ∧ Okv a2 x.width := by
  obtain ⟨a0, a1, a2, rfl⟩ := three_of a h.al
  obtain ⟨w0, w1, w2, rfl⟩ := three_of w h.wl
  have h1 := h.ok 1 (by decide)
  have h2 := h.ok 2 (by decide)
  have hf := h.fit
  simp [fitB] at hf
  obtain ⟨rfl, rfl, rfl⟩ := hf
  exact ⟨a0, a1, a2, rfl, rfl, by simpa using h1.2, by simpa using h2.2⟩
theorem ok_join {x : Nod} {w a : List Int} (h : AppOk 13 x w a) : ∃ a0 a1 w0 w1, a = [a0, a1] ∧ w = [w0, w1] ∧ w0 + w1 = x.width ∧ 1 ≤ w0 ∧ 1 ≤ w1 ∧ Okv a0 w0 ∧ Okv a1 w1 := by
  obtain ⟨a0, a1, rfl⟩ := two_of a h.al
  obtain ⟨w0, w1, rfl⟩ := two_of w h.wl
  have h0 := h.ok 0 (by decide)
  have h1 := h.ok 1 (by decide)
  simp only [List.getD_cons_zero, List.getD_cons_succ] at h0 h1
  have hf : wrapS w0 w1 = x.width := by simpa [fitB] using h.fit
  unfold wrapS at hf
  rw [w64 ⟨by omega, by omega⟩] at hf
  exact ⟨a0, a1, w0, w1, rfl, rfl, hf, h0.1.1, h1.1.1, h0.2, h1.2⟩
theorem ok_slice {x : Nod} {w a : List Int} (h : AppOk 14 x w a) : ∃ a0 w0, a = [a0] ∧ w = [w0] ∧ (1 ≤ w0 ∧ w0 ≤ 16) ∧ Okv a0 w0 := by
  obtain ⟨a0, rfl⟩ := one_of a h.al
  obtain ⟨w0, rfl⟩ := one_of w h.wl
  have h0 := h.ok 0 (by decide)
  exact ⟨a0, w0, rfl, rfl, by simpa using h0.1, by simpa using h0.2⟩
theorem ok_extN {k : Nat} (hk : 15 ≤ k ∧ k ≤ 16) {x : Nod} {w a : List Int} (h : AppOk k x w a) : ∃ a0 w0, a = [a0] ∧ w = [w0] ∧ (1 ≤ w0 ∧ w0 ≤ 16) ∧ w0 ≤ x.width ∧ Okv a0 w0 := by
  have hc : argc k = 1 := by
    rcases (show k = 15 ∨ k = 16 by omega) with rfl | rfl <;> rfl
  obtain ⟨a0, rfl⟩ := one_of a (h.al.trans hc)
  obtain ⟨w0, rfl⟩ := one_of w (h.wl.trans hc)
  have h0 := h.ok 0 (by omega)
  have hf : w0 ≤ x.width := by
    have := h.fit
    rcases (show k = 15 ∨ k = 16 by omega) with rfl | rfl <;> simpa [fitB] using this
  exact ⟨a0, w0, rfl, rfl, by simpa using h0.1, hf, by simpa using h0.2⟩
theorem ok_shift {k : Nat} (hk : 17 ≤ k ∧ k ≤ 18) {x : Nod} {w a : List Int} (h : AppOk k x w a) : ∃ a0 a1 w1, a = [a0, a1] ∧ w = [x.width, w1] ∧ (1 ≤ w1 ∧ w1 ≤ 16) ∧ Okv a0 x.width ∧ Okv a1 w1 := by
  have hc : argc k = 2 := by
    rcases (show k = 17 ∨ k = 18 by omega) with rfl | rfl <;> rfl
  obtain ⟨a0, a1, rfl⟩ := two_of a (h.al.trans hc)
  obtain ⟨w0, w1, rfl⟩ := two_of w (h.wl.trans hc)
  have h0 := h.ok 0 (by omega)
  have h1 := h.ok 1 (by omega)
  have hf : w0 = x.width := by
    have := h.fit
    rcases (show k = 17 ∨ k = 18 by omega) with rfl | rfl <;> simpa [fitB] using this
  subst hf
  exact ⟨a0, a1, w1, rfl, rfl, by simpa using h1.1, by simpa using h0.2, by simpa using h1.2⟩

theorem pw_mono {a b : Int} (h : a ≤ b) : pw a ≤ pw b := by
  unfold pw
  have h1 : (2 : Int) ^ a.toNat = ((2 ^ a.toNat : Nat) : Int) := by simp
  have h2 : (2 : Int) ^ b.toNat = ((2 ^ b.toNat : Nat) : Int) := by simp
  rw [h1, h2]
  have := Nat.pow_le_pow_right (show 0 < 2 by omega) (show a.toNat ≤ b.toNat by omega)
  omega
theorem pw_add {a b : Int} (ha : 0 ≤ a) (hb : 0 ≤ b) : pw (a + b) = pw a * pw b := by
  unfold pw
  rw [show (a + b).toNat = a.toNat + b.toNat by omega, Int.pow_add]
theorem pw_two {w : Int} (h : 1 ≤ w) : 2 ≤ pw w := by
  have := pw_succ h
  have := pw_pos (w - 1)
  omega
theorem bitV_in {b : Bool} {w : Int} (h : 1 ≤ w) : Okv (bitV b) w := by
  have := pw_two h
  cases b <;> simp [bitV, Okv] <;> omega

/-- An operation's result has its width. -/
theorem appK_in {k : Nat} (hk : 2 ≤ k ∧ k < 19) {x : Nod} {w a : List Int} (h : AppOk k x w a) : Okv (appK k x w a) x.width := by
  have hp := pw_pos x.width
  have hmod : ∀ n : Int, Okv (n % pw x.width) x.width := fun n => ⟨Int.emod_nonneg _ (by omega), Int.emod_lt_of_pos _ hp⟩
  have hwd := h.wd
  match k, hk with
  | 2, _ =>
    obtain ⟨a0, rfl, rfl, h0⟩ := ok_not h
    simp only [appK, List.getD_cons_zero]
    exact ⟨by omega, by omega⟩
  | 3, _ => obtain ⟨a0, a1, rfl, rfl, h0, h1⟩ := ok_same2 (by omega) h; exact band_in hwd.2 h0 h1
  | 4, _ => obtain ⟨a0, a1, rfl, rfl, h0, h1⟩ := ok_same2 (by omega) h; exact bor_in hwd.2 h0 h1
  | 5, _ => obtain ⟨a0, a1, rfl, rfl, h0, h1⟩ := ok_same2 (by omega) h; exact bxor_in hwd.2 h0 h1
  | 6, _ => exact hmod _
  | 7, _ => exact hmod _
  | 8, _ => exact hmod _
  | 9, _ => exact bitV_in hwd.1
  | 10, _ => exact bitV_in hwd.1
  | 11, _ => exact bitV_in hwd.1
  | 12, _ =>
    obtain ⟨a0, a1, a2, rfl, rfl, h1, h2⟩ := ok_mux h
    simp only [appK, List.getD_cons_zero, List.getD_cons_succ]
    split
    · exact h1
    · exact h2
  | 13, _ =>
    obtain ⟨a0, a1, w0, w1, rfl, rfl, hw, hw0, hw1, h0, h1⟩ := ok_join h
    simp only [appK, List.getD_cons_zero, List.getD_cons_succ]
    have hpp := pw_pos w1
    rw [← hw, Okv, pw_add (by omega) (by omega)]
    have hm : a0 * pw w1 ≤ (pw w0 - 1) * pw w1 := Int.mul_le_mul_of_nonneg_right (by omega) (by omega)
    rw [Int.sub_mul] at hm
    have hm0 : 0 ≤ a0 * pw w1 := Int.mul_nonneg h0.1 (by omega)
    exact ⟨by omega, by omega⟩
  | 14, _ => exact hmod _
  | 15, _ =>
    obtain ⟨a0, w0, rfl, rfl, hw, hle, h0⟩ := ok_extN (by omega) h
    have := pw_mono hle
    simp only [appK, List.getD_cons_zero]
    exact ⟨by omega, by omega⟩
  | 16, _ => exact hmod _
  | 17, _ =>
    simp only [appK, shlV]
    split
    · exact ⟨by omega, by omega⟩
    · exact hmod _
  | 18, _ =>
    obtain ⟨a0, a1, w1, rfl, rfl, hw, h0, h1⟩ := ok_shift (by omega) h
    simp only [appK, shrV, List.getD_cons_zero, List.getD_cons_succ]
    split
    · exact ⟨by omega, by omega⟩
    · have h2 := Int.ediv_nonneg h0.1 (show 0 ≤ pw a1 from Int.le_of_lt (pw_pos a1))
      have h3 := Int.ediv_le_self (pw a1) h0.1
      exact ⟨h2, by omega⟩
  | k + 19, hk => exact absurd hk.2 (by omega)

end Go.Proofs.YtglelclmlkeheaaGreatDoor.V

/- The operations, by the program and by the reference. -/
namespace Go.Proofs.YtglelclmlkeheaaGreatDoor.V
open Go (IntKind BinOp UnOp)
variable {π : Id}

theorem e_run {k : Nat} (hk : k < 19) (h1k : k ≠ 1) {x : Nod} {w a : List Int} (h : k ≠ 0 → AppOk k x w a) :
    EE π (runN k) (.p (encNode x) :: .p (encInts w) :: .p (encInts a) :: (runC k).map fun v => AV.p v.fg) [] = some (.p (I (appK k x w a)), []) := by
  match k, hk with
  | 0, _ => exact e_op1 x _ _
  | 1, _ => exact absurd rfl h1k
  | 2, _ =>
    have h := h (by decide)
    obtain ⟨a0, rfl, rfl, h0⟩ := ok_not h
    exact e_op2 x h.wd.1 h.wd.2 _ a0 h0
  | 3, _ =>
    have h := h (by decide)
    obtain ⟨a0, a1, rfl, rfl, h0, h1⟩ := ok_same2 (by omega) h
    have := e_binary1 (π := π) x h.wd.1 h.wd.2 (.p (encInts [x.width, x.width])) a0 a1 _ (fun π => e_op3 (π := π) a0 a1)
    rw [Int.emod_eq_of_lt (band_in h.wd.2 h0 h1).1 (band_in h.wd.2 h0 h1).2] at this
    exact this
  | 4, _ =>
    have h := h (by decide)
    obtain ⟨a0, a1, rfl, rfl, h0, h1⟩ := ok_same2 (by omega) h
    have := e_binary1 (π := π) x h.wd.1 h.wd.2 (.p (encInts [x.width, x.width])) a0 a1 _ (fun π => e_op4 (π := π) a0 a1)
    rw [Int.emod_eq_of_lt (bor_in h.wd.2 h0 h1).1 (bor_in h.wd.2 h0 h1).2] at this
    exact this
  | 5, _ =>
    have h := h (by decide)
    obtain ⟨a0, a1, rfl, rfl, h0, h1⟩ := ok_same2 (by omega) h
    have := e_binary1 (π := π) x h.wd.1 h.wd.2 (.p (encInts [x.width, x.width])) a0 a1 _ (fun π => e_op5 (π := π) a0 a1)
    rw [Int.emod_eq_of_lt (bxor_in h.wd.2 h0 h1).1 (bxor_in h.wd.2 h0 h1).2] at this
    exact this
  | 6, _ =>
    have h := h (by decide)
    obtain ⟨a0, a1, rfl, rfl, h0, h1⟩ := ok_same2 (by omega) h
    have := pw_le h.wd.2
    exact e_binary1 x h.wd.1 h.wd.2 _ a0 a1 _ (fun π => e_op6 (π := π) a0 a1 ⟨by omega, by omega⟩)
  | 7, _ =>
    have h := h (by decide)
    obtain ⟨a0, a1, rfl, rfl, h0, h1⟩ := ok_same2 (by omega) h
    have := pw_le h.wd.2
    exact e_binary1 x h.wd.1 h.wd.2 _ a0 a1 _ (fun π => e_op7 (π := π) a0 a1 ⟨by omega, by omega⟩)
  | 8, _ =>
    have h := h (by decide)
    obtain ⟨a0, a1, rfl, rfl, h0, h1⟩ := ok_same2 (by omega) h
    have := pw_le h.wd.2
    have hm := mul_le (a := a0) (m := a1) ⟨h0.1, by omega⟩ ⟨h1.1, by omega⟩
    exact e_binary1 x h.wd.1 h.wd.2 _ a0 a1 _ (fun π => e_op8 (π := π) a0 a1 ⟨by omega, by omega⟩)
  | 9, _ =>
    have h := h (by decide)
    obtain ⟨a0, a1, w0, rfl, rfl, hw, hww, h0, h1⟩ := ok_rel (by omega) h
    exact e_relation1 x w0 [w0] a0 a1 _ (fun π => e_op9 (π := π) a0 a1 _)
  | 10, _ =>
    have h := h (by decide)
    obtain ⟨a0, a1, w0, rfl, rfl, hw, hww, h0, h1⟩ := ok_rel (by omega) h
    exact e_relation1 x w0 [w0] a0 a1 _ (fun π => e_op10 (π := π) a0 a1 _)
  | 11, _ =>
    have h := h (by decide)
    obtain ⟨a0, a1, w0, rfl, rfl, hw, hww, h0, h1⟩ := ok_rel (by omega) h
    exact e_relation1 x w0 [w0] a0 a1 _ (fun π => e_op11 (π := π) a0 a1 w0 hww.1 hww.2 h0 h1)
  | 12, _ =>
    have h := h (by decide)
    obtain ⟨a0, a1, a2, rfl, rfl, h1, h2⟩ := ok_mux h
    exact e_op13 x _ a0 a1 a2
  | 13, _ =>
    have h := h (by decide)
    obtain ⟨a0, a1, w0, w1, rfl, rfl, hw, hw0, hw1, h0, h1⟩ := ok_join h
    have hwd := h.wd
    have := pw_le (show w0 ≤ 16 by omega)
    exact e_op15 x w0 w1 a0 a1 ⟨h0.1, by omega⟩ ⟨by omega, by omega⟩ h1
  | 14, _ =>
    have h := h (by decide)
    obtain ⟨a0, w0, rfl, rfl, hw, h0⟩ := ok_slice h
    exact e_op17 x h.wd.1 h.wd.2 (h.val rfl) _ a0
  | 15, _ =>
    have h := h (by decide)
    obtain ⟨a0, w0, rfl, rfl, hw, hle, h0⟩ := ok_extN (by omega) h
    exact e_op18 x _ a0
  | 16, _ =>
    have h := h (by decide)
    obtain ⟨a0, w0, rfl, rfl, hw, hle, h0⟩ := ok_extN (by omega) h
    exact e_op19 x h.wd.1 h.wd.2 w0 a0 hw h0
  | 17, _ =>
    have h := h (by decide)
    obtain ⟨a0, a1, w1, rfl, rfl, hw, h0, h1⟩ := ok_shift (by omega) h
    exact e_op20 x h.wd.1 h.wd.2 _ a0 a1 h0 h1.1
  | 18, _ =>
    have h := h (by decide)
    obtain ⟨a0, a1, w1, rfl, rfl, hw, h0, h1⟩ := ok_shift (by omega) h
    exact e_op21 x h.wd.1 h.wd.2 _ a0 a1 h0 h1.1
  | k + 19, hk => exact absurd hk (by omega)

/-! ### The reference -/
theorem e_PowerW (w : Int) (h : 0 ≤ w ∧ w ≤ 16) : EE π n_ratchetbase_Power [.p (I w)] [] = some (.p (I (pw w)), []) := by
  rw [e_Power w h.1, shl1 h.1 h.2]
theorem e_SignedR (n w : Int) (hw : 1 ≤ w ∧ w ≤ 16) (hn : Okv n w) : EE π n_ratchetbase_Signed [.p (I n), .p (I w)] [] = some (.p (I (sgnV n w)), []) := by
  have hp := fun π => e_PowerW (π := π) w ⟨by omega, hw.2⟩
  have hp1 := fun π => e_PowerW (π := π) (w - 1) ⟨by omega, by omega⟩
  have hw1 : IntKind.i64.wrap (w - 1) = w - 1 := w64 ⟨by omega, by omega⟩
  have h2 := pw_le hw.2
  have hsub : IntKind.i64.wrap (n - pw w) = n - pw w := w64 ⟨by omega, by omega⟩
  unfold sgnV
  generalize pw w = P at *
  generalize pw (w - 1) = P1 at *
  by_cases hc : P1 ≤ n <;> simp [e_ratchetbase_Signed, run_eq, c_ratchetbase_Signed, hp, hp1, hw1, hsub, hc]

end Go.Proofs.YtglelclmlkeheaaGreatDoor.V

/- What a node's operation computes, by the reference. -/
namespace Go.Proofs.YtglelclmlkeheaaGreatDoor.V
open Go (IntKind BinOp UnOp)
variable {π : Id}

theorem e_Apply0 (x : Nod) (hw : 0 ≤ x.width ∧ x.width ≤ 16) (w a L : AV) (ho : x.op = 0) :
    EE π n_ratchetbase_Apply [.p (encNode x), a, w, L] [] = some (.p (I x.value), []) := by
  have hp := fun π => e_PowerW (π := π) x.width hw
  obtain ⟨op, wd, ar, v⟩ := x
  simp only at hp ho hw ⊢
  generalize pw wd = P at *
  simp [e_ratchetbase_Apply, run_eq, c_ratchetbase_Apply, hp, ho, evRO]
theorem e_Apply1 (x : Nod) (hw : 0 ≤ x.width ∧ x.width ≤ 16) (w a : AV) (L : List Int) (ho : x.op = 1) (hv : 0 ≤ x.value ∧ x.value < L.length) :
    EE π n_ratchetbase_Apply [.p (encNode x), a, w, .p (encInts L)] [] = some (.p (I (L.getD x.value.toNat 0)), []) := by
  have hp := fun π => e_PowerW (π := π) x.width hw
  obtain ⟨op, wd, ar, v⟩ := x
  simp only at hp ho hw hv ⊢
  have hlt : v.toNat < L.length := by omega
  generalize pw wd = P at *
  simp [e_ratchetbase_Apply, run_eq, c_ratchetbase_Apply, hp, ho, hv.1, hv.2, hlt, evRO]

theorem e_Apply_2 {x : Nod} (ho : x.op = 2) {w a : List Int} (h : AppOk 2 x w a) (L : AV) :
    EE π n_ratchetbase_Apply [.p (encNode x), .p (encInts a), .p (encInts w), L] [] = some (.p (I (appK 2 x w a)), []) := by
  have hwd := h.wd
  have n0 : ¬ x.op = 0 := by omega
  have n1 : ¬ x.op = 1 := by omega
  have hp := fun π => e_PowerW (π := π) x.width ⟨by omega, by omega⟩
  have hP1 := pw_pos x.width
  have hP2 := pw_le hwd.2
  obtain ⟨a0, rfl, rfl, h0⟩ := ok_not h
  simp only [Okv, appK, List.getD_cons_zero] at h0 ⊢
  generalize pw x.width = P at *
  have hw1 : IntKind.i64.wrap (P - 1) = P - 1 := w64 ⟨by omega, by omega⟩
  have hw2 : IntKind.i64.wrap (P - 1 - a0) = P - 1 - a0 := w64 ⟨by omega, by omega⟩
  simp [e_ratchetbase_Apply, run_eq, c_ratchetbase_Apply, hp, evRO]
  simp [n0]
  simp [n1]
  simp [ho, hw1, hw2, evRO]
theorem e_Apply_3 {x : Nod} (ho : x.op = 3) {w a : List Int} (h : AppOk 3 x w a) (L : AV) :
    EE π n_ratchetbase_Apply [.p (encNode x), .p (encInts a), .p (encInts w), L] [] = some (.p (I (appK 3 x w a)), []) := by
  have hwd := h.wd
  have n0 : ¬ x.op = 0 := by omega
  have n1 : ¬ x.op = 1 := by omega
  have n2 : ¬ x.op = 2 := by omega
  have hp := fun π => e_PowerW (π := π) x.width ⟨by omega, by omega⟩
  have hP1 := pw_pos x.width
  have hP2 := pw_le hwd.2
  obtain ⟨a0, a1, rfl, rfl, h0, h1⟩ := ok_same2 (by omega) h
  have hb : ibits .and .i64 a0 a1 = some (band a0 a1) := rfl
  simp only [appK, List.getD_cons_zero, List.getD_cons_succ]
  generalize pw x.width = P at *
  simp [e_ratchetbase_Apply, run_eq, c_ratchetbase_Apply, hp, evRO]
  simp [n0]
  simp [n1]
  simp [n2]
  simp [ho, hb, evRO]
theorem e_Apply_4 {x : Nod} (ho : x.op = 4) {w a : List Int} (h : AppOk 4 x w a) (L : AV) :
    EE π n_ratchetbase_Apply [.p (encNode x), .p (encInts a), .p (encInts w), L] [] = some (.p (I (appK 4 x w a)), []) := by
  have hwd := h.wd
  have n0 : ¬ x.op = 0 := by omega
  have n1 : ¬ x.op = 1 := by omega
  have n2 : ¬ x.op = 2 := by omega
  have n3 : ¬ x.op = 3 := by omega
  have hp := fun π => e_PowerW (π := π) x.width ⟨by omega, by omega⟩
  have hP1 := pw_pos x.width
  have hP2 := pw_le hwd.2
  obtain ⟨a0, a1, rfl, rfl, h0, h1⟩ := ok_same2 (by omega) h
  have hb : ibits .or .i64 a0 a1 = some (bor a0 a1) := rfl
  simp only [appK, List.getD_cons_zero, List.getD_cons_succ]
  generalize pw x.width = P at *
  simp [e_ratchetbase_Apply, run_eq, c_ratchetbase_Apply, hp, evRO]
  simp [n0]
  simp [n1]
  simp [n2]
  simp [n3]
  simp [ho, hb, evRO]
theorem e_Apply_5 {x : Nod} (ho : x.op = 5) {w a : List Int} (h : AppOk 5 x w a) (L : AV) :
    EE π n_ratchetbase_Apply [.p (encNode x), .p (encInts a), .p (encInts w), L] [] = some (.p (I (appK 5 x w a)), []) := by
  have hwd := h.wd
  have n0 : ¬ x.op = 0 := by omega
  have n1 : ¬ x.op = 1 := by omega
  have n2 : ¬ x.op = 2 := by omega
  have n3 : ¬ x.op = 3 := by omega
  have n4 : ¬ x.op = 4 := by omega
  have hp := fun π => e_PowerW (π := π) x.width ⟨by omega, by omega⟩
  have hP1 := pw_pos x.width
  have hP2 := pw_le hwd.2
  obtain ⟨a0, a1, rfl, rfl, h0, h1⟩ := ok_same2 (by omega) h
  have hb : ibits .xor .i64 a0 a1 = some (bxor a0 a1) := rfl
  simp only [appK, List.getD_cons_zero, List.getD_cons_succ]
  generalize pw x.width = P at *
  simp [e_ratchetbase_Apply, run_eq, c_ratchetbase_Apply, hp, evRO]
  simp [n0]
  simp [n1]
  simp [n2]
  simp [n3]
  simp [n4]
  simp [ho, hb, evRO]
theorem e_Apply_6 {x : Nod} (ho : x.op = 6) {w a : List Int} (h : AppOk 6 x w a) (L : AV) :
    EE π n_ratchetbase_Apply [.p (encNode x), .p (encInts a), .p (encInts w), L] [] = some (.p (I (appK 6 x w a)), []) := by
  have hwd := h.wd
  have n0 : ¬ x.op = 0 := by omega
  have n1 : ¬ x.op = 1 := by omega
  have n2 : ¬ x.op = 2 := by omega
  have n3 : ¬ x.op = 3 := by omega
  have n4 : ¬ x.op = 4 := by omega
  have n5 : ¬ x.op = 5 := by omega
  have hp := fun π => e_PowerW (π := π) x.width ⟨by omega, by omega⟩
  have hP1 := pw_pos x.width
  have hP2 := pw_le hwd.2
  obtain ⟨a0, a1, rfl, rfl, h0, h1⟩ := ok_same2 (by omega) h
  simp only [Okv, appK, List.getD_cons_zero, List.getD_cons_succ] at h0 h1 ⊢
  generalize pw x.width = P at *
  have hw1 : IntKind.i64.wrap (a0 + a1) = a0 + a1 := w64 ⟨by omega, by omega⟩
  have hm : (a0 + a1).tmod P = (a0 + a1) % P := Int.tmod_eq_emod_of_nonneg (by omega)
  have hP0 : ¬ P = 0 := by omega
  simp [e_ratchetbase_Apply, run_eq, c_ratchetbase_Apply, hp, evRO]
  simp [n0]
  simp [n1]
  simp [n2]
  simp [n3]
  simp [n4]
  simp [n5]
  simp [ho, hw1, hm, hP0, evRO]
theorem e_Apply_7 {x : Nod} (ho : x.op = 7) {w a : List Int} (h : AppOk 7 x w a) (L : AV) :
    EE π n_ratchetbase_Apply [.p (encNode x), .p (encInts a), .p (encInts w), L] [] = some (.p (I (appK 7 x w a)), []) := by
  have hwd := h.wd
  have n0 : ¬ x.op = 0 := by omega
  have n1 : ¬ x.op = 1 := by omega
  have n2 : ¬ x.op = 2 := by omega
  have n3 : ¬ x.op = 3 := by omega
  have n4 : ¬ x.op = 4 := by omega
  have n5 : ¬ x.op = 5 := by omega
  have n6 : ¬ x.op = 6 := by omega
  have hp := fun π => e_PowerW (π := π) x.width ⟨by omega, by omega⟩
  have hP1 := pw_pos x.width
  have hP2 := pw_le hwd.2
  obtain ⟨a0, a1, rfl, rfl, h0, h1⟩ := ok_same2 (by omega) h
  simp only [Okv, appK, List.getD_cons_zero, List.getD_cons_succ] at h0 h1 ⊢
  generalize pw x.width = P at *
  have hw1 : IntKind.i64.wrap (a0 - a1) = a0 - a1 := w64 ⟨by omega, by omega⟩
  have hw2 : IntKind.i64.wrap (a0 - a1 + P) = a0 - a1 + P := w64 ⟨by omega, by omega⟩
  have hm : (a0 - a1 + P).tmod P = (a0 - a1) % P := by rw [Int.tmod_eq_emod_of_nonneg (by omega)]; simp
  have hP0 : ¬ P = 0 := by omega
  simp [e_ratchetbase_Apply, run_eq, c_ratchetbase_Apply, hp, evRO]
  simp [n0]
  simp [n1]
  simp [n2]
  simp [n3]
  simp [n4]
  simp [n5]
  simp [n6]
  simp [ho, hw1, hw2, hm, hP0, evRO]
theorem e_Apply_8 {x : Nod} (ho : x.op = 8) {w a : List Int} (h : AppOk 8 x w a) (L : AV) :
    EE π n_ratchetbase_Apply [.p (encNode x), .p (encInts a), .p (encInts w), L] [] = some (.p (I (appK 8 x w a)), []) := by
  have hwd := h.wd
  have n0 : ¬ x.op = 0 := by omega
  have n1 : ¬ x.op = 1 := by omega
  have n2 : ¬ x.op = 2 := by omega
  have n3 : ¬ x.op = 3 := by omega
  have n4 : ¬ x.op = 4 := by omega
  have n5 : ¬ x.op = 5 := by omega
  have n6 : ¬ x.op = 6 := by omega
  have n7 : ¬ x.op = 7 := by omega
  have hp := fun π => e_PowerW (π := π) x.width ⟨by omega, by omega⟩
  have hP1 := pw_pos x.width
  have hP2 := pw_le hwd.2
  obtain ⟨a0, a1, rfl, rfl, h0, h1⟩ := ok_same2 (by omega) h
  simp only [Okv, appK, List.getD_cons_zero, List.getD_cons_succ] at h0 h1 ⊢
  generalize pw x.width = P at *
  have hml := mul_le (a := a0) (m := a1) ⟨h0.1, by omega⟩ ⟨h1.1, by omega⟩
  have hw1 : IntKind.i64.wrap (a0 * a1) = a0 * a1 := w64 ⟨by omega, by omega⟩
  have hm : (a0 * a1).tmod P = a0 * a1 % P := Int.tmod_eq_emod_of_nonneg hml.1
  have hP0 : ¬ P = 0 := by omega
  simp [e_ratchetbase_Apply, run_eq, c_ratchetbase_Apply, hp, evRO]
  simp [n0]
  simp [n1]
  simp [n2]
  simp [n3]
  simp [n4]
  simp [n5]
  simp [n6]
  simp [n7]
  simp [ho, hw1, hm, hP0, evRO]
theorem e_Apply_9 {x : Nod} (ho : x.op = 9) {w a : List Int} (h : AppOk 9 x w a) (L : AV) :
    EE π n_ratchetbase_Apply [.p (encNode x), .p (encInts a), .p (encInts w), L] [] = some (.p (I (appK 9 x w a)), []) := by
  have hwd := h.wd
  have n0 : ¬ x.op = 0 := by omega
  have n1 : ¬ x.op = 1 := by omega
  have n2 : ¬ x.op = 2 := by omega
  have n3 : ¬ x.op = 3 := by omega
  have n4 : ¬ x.op = 4 := by omega
  have n5 : ¬ x.op = 5 := by omega
  have n6 : ¬ x.op = 6 := by omega
  have n7 : ¬ x.op = 7 := by omega
  have n8 : ¬ x.op = 8 := by omega
  have hp := fun π => e_PowerW (π := π) x.width ⟨by omega, by omega⟩
  have hP1 := pw_pos x.width
  have hP2 := pw_le hwd.2
  obtain ⟨a0, a1, w0, rfl, rfl, hw, hww, h0, h1⟩ := ok_rel (by omega) h
  simp only [appK, bitV, List.getD_cons_zero, List.getD_cons_succ]
  generalize pw x.width = P at *
  simp [e_ratchetbase_Apply, run_eq, c_ratchetbase_Apply, hp, evRO]
  simp [n0]
  simp [n1]
  simp [n2]
  simp [n3]
  simp [n4]
  simp [n5]
  simp [n6]
  simp [n7]
  simp [n8]
  by_cases hc : a0 = a1 <;> simp [ho, hc, e_Bit, evRO]
theorem e_Apply_10 {x : Nod} (ho : x.op = 10) {w a : List Int} (h : AppOk 10 x w a) (L : AV) :
    EE π n_ratchetbase_Apply [.p (encNode x), .p (encInts a), .p (encInts w), L] [] = some (.p (I (appK 10 x w a)), []) := by
  have hwd := h.wd
  have n0 : ¬ x.op = 0 := by omega
  have n1 : ¬ x.op = 1 := by omega
  have n2 : ¬ x.op = 2 := by omega
  have n3 : ¬ x.op = 3 := by omega
  have n4 : ¬ x.op = 4 := by omega
  have n5 : ¬ x.op = 5 := by omega
  have n6 : ¬ x.op = 6 := by omega
  have n7 : ¬ x.op = 7 := by omega
  have n8 : ¬ x.op = 8 := by omega
  have n9 : ¬ x.op = 9 := by omega
  have hp := fun π => e_PowerW (π := π) x.width ⟨by omega, by omega⟩
  have hP1 := pw_pos x.width
  have hP2 := pw_le hwd.2
  obtain ⟨a0, a1, w0, rfl, rfl, hw, hww, h0, h1⟩ := ok_rel (by omega) h
  simp only [appK, bitV, List.getD_cons_zero, List.getD_cons_succ]
  generalize pw x.width = P at *
  simp [e_ratchetbase_Apply, run_eq, c_ratchetbase_Apply, hp, evRO]
  simp [n0]
  simp [n1]
  simp [n2]
  simp [n3]
  simp [n4]
  simp [n5]
  simp [n6]
  simp [n7]
  simp [n8]
  simp [n9]
  by_cases hc : a0 < a1 <;> simp [ho, hc, e_Bit, evRO]
theorem e_Apply_11 {x : Nod} (ho : x.op = 11) {w a : List Int} (h : AppOk 11 x w a) (L : AV) :
    EE π n_ratchetbase_Apply [.p (encNode x), .p (encInts a), .p (encInts w), L] [] = some (.p (I (appK 11 x w a)), []) := by
  have hwd := h.wd
  have n0 : ¬ x.op = 0 := by omega
  have n1 : ¬ x.op = 1 := by omega
  have n2 : ¬ x.op = 2 := by omega
  have n3 : ¬ x.op = 3 := by omega
  have n4 : ¬ x.op = 4 := by omega
  have n5 : ¬ x.op = 5 := by omega
  have n6 : ¬ x.op = 6 := by omega
  have n7 : ¬ x.op = 7 := by omega
  have n8 : ¬ x.op = 8 := by omega
  have n9 : ¬ x.op = 9 := by omega
  have n10 : ¬ x.op = 10 := by omega
  have hp := fun π => e_PowerW (π := π) x.width ⟨by omega, by omega⟩
  have hP1 := pw_pos x.width
  have hP2 := pw_le hwd.2
  obtain ⟨a0, a1, w0, rfl, rfl, hw, hww, h0, h1⟩ := ok_rel (by omega) h
  simp only [appK, bitV, List.getD_cons_zero, List.getD_cons_succ]
  have hs0 := fun π => e_SignedR (π := π) a0 w0 hww h0
  have hs1 := fun π => e_SignedR (π := π) a1 w0 hww h1
  generalize pw x.width = P at *
  generalize sgnV a0 w0 = S0 at *
  generalize sgnV a1 w0 = S1 at *
  simp [e_ratchetbase_Apply, run_eq, c_ratchetbase_Apply, hp, evRO]
  simp [n0]
  simp [n1]
  simp [n2]
  simp [n3]
  simp [n4]
  simp [n5]
  simp [n6]
  simp [n7]
  simp [n8]
  simp [n9]
  simp [n10]
  by_cases hc : S0 < S1 <;> simp [ho, hs0, hs1, hc, e_Bit, evRO]
theorem e_Apply_12 {x : Nod} (ho : x.op = 12) {w a : List Int} (h : AppOk 12 x w a) (L : AV) :
    EE π n_ratchetbase_Apply [.p (encNode x), .p (encInts a), .p (encInts w), L] [] = some (.p (I (appK 12 x w a)), []) := by
  have hwd := h.wd
  have n0 : ¬ x.op = 0 := by omega
  have n1 : ¬ x.op = 1 := by omega
  have n2 : ¬ x.op = 2 := by omega
  have n3 : ¬ x.op = 3 := by omega
  have n4 : ¬ x.op = 4 := by omega
  have n5 : ¬ x.op = 5 := by omega
  have n6 : ¬ x.op = 6 := by omega
  have n7 : ¬ x.op = 7 := by omega
  have n8 : ¬ x.op = 8 := by omega
  have n9 : ¬ x.op = 9 := by omega
  have n10 : ¬ x.op = 10 := by omega
  have n11 : ¬ x.op = 11 := by omega
  have hp := fun π => e_PowerW (π := π) x.width ⟨by omega, by omega⟩
  have hP1 := pw_pos x.width
  have hP2 := pw_le hwd.2
  obtain ⟨a0, a1, a2, rfl, rfl, h1, h2⟩ := ok_mux h
  simp only [appK, List.getD_cons_zero, List.getD_cons_succ]
  generalize pw x.width = P at *
  simp [e_ratchetbase_Apply, run_eq, c_ratchetbase_Apply, hp, evRO]
  simp [n0]
  simp [n1]
  simp [n2]
  simp [n3]
  simp [n4]
  simp [n5]
  simp [n6]
  simp [n7]
  simp [n8]
  simp [n9]
  simp [n10]
  simp [n11]
  by_cases hc : a0 = 1 <;> simp [ho, hc, evRO]
theorem e_Apply_13 {x : Nod} (ho : x.op = 13) {w a : List Int} (h : AppOk 13 x w a) (L : AV) :
    EE π n_ratchetbase_Apply [.p (encNode x), .p (encInts a), .p (encInts w), L] [] = some (.p (I (appK 13 x w a)), []) := by
  have hwd := h.wd
  have n0 : ¬ x.op = 0 := by omega
  have n1 : ¬ x.op = 1 := by omega
  have n2 : ¬ x.op = 2 := by omega
  have n3 : ¬ x.op = 3 := by omega
  have n4 : ¬ x.op = 4 := by omega
  have n5 : ¬ x.op = 5 := by omega
  have n6 : ¬ x.op = 6 := by omega
  have n7 : ¬ x.op = 7 := by omega
  have n8 : ¬ x.op = 8 := by omega
  have n9 : ¬ x.op = 9 := by omega
  have n10 : ¬ x.op = 10 := by omega
  have n11 : ¬ x.op = 11 := by omega
  have n12 : ¬ x.op = 12 := by omega
  have hp := fun π => e_PowerW (π := π) x.width ⟨by omega, by omega⟩
  have hP1 := pw_pos x.width
  have hP2 := pw_le hwd.2
  obtain ⟨a0, a1, w0, w1, rfl, rfl, hw, hw0, hw1, h0, h1⟩ := ok_join h
  simp only [appK, List.getD_cons_zero, List.getD_cons_succ]
  have hpw := fun π => e_PowerW (π := π) w1 ⟨by omega, by omega⟩
  have hpl := pw_le (show w0 ≤ 16 by omega)
  have hpl1 := pw_le (show w1 ≤ 16 by omega)
  have hml := mul_le (a := a0) (m := pw w1) ⟨h0.1, by omega⟩ ⟨Int.le_of_lt (pw_pos w1), hpl1⟩
  have hwa : IntKind.i64.wrap (a0 * pw w1) = a0 * pw w1 := w64 ⟨by omega, by omega⟩
  have hwb : IntKind.i64.wrap (a0 * pw w1 + a1) = a0 * pw w1 + a1 := w64 ⟨by omega, by omega⟩
  generalize pw x.width = P at *
  generalize pw w1 = P1 at *
  simp [e_ratchetbase_Apply, run_eq, c_ratchetbase_Apply, hp, evRO]
  simp [n0]
  simp [n1]
  simp [n2]
  simp [n3]
  simp [n4]
  simp [n5]
  simp [n6]
  simp [n7]
  simp [n8]
  simp [n9]
  simp [n10]
  simp [n11]
  simp [n12]
  simp [ho, hpw, hwa, hwb, evRO]
theorem e_Apply_14 {x : Nod} (ho : x.op = 14) {w a : List Int} (h : AppOk 14 x w a) (L : AV) :
    EE π n_ratchetbase_Apply [.p (encNode x), .p (encInts a), .p (encInts w), L] [] = some (.p (I (appK 14 x w a)), []) := by
  have hwd := h.wd
  have n0 : ¬ x.op = 0 := by omega
  have n1 : ¬ x.op = 1 := by omega
  have n2 : ¬ x.op = 2 := by omega
  have n3 : ¬ x.op = 3 := by omega
  have n4 : ¬ x.op = 4 := by omega
  have n5 : ¬ x.op = 5 := by omega
  have n6 : ¬ x.op = 6 := by omega
  have n7 : ¬ x.op = 7 := by omega
  have n8 : ¬ x.op = 8 := by omega
  have n9 : ¬ x.op = 9 := by omega
  have n10 : ¬ x.op = 10 := by omega
  have n11 : ¬ x.op = 11 := by omega
  have n12 : ¬ x.op = 12 := by omega
  have n13 : ¬ x.op = 13 := by omega
  have hp := fun π => e_PowerW (π := π) x.width ⟨by omega, by omega⟩
  have hP1 := pw_pos x.width
  have hP2 := pw_le hwd.2
  obtain ⟨a0, w0, rfl, rfl, hw, h0⟩ := ok_slice h
  have hv := h.val rfl
  simp only [appK, List.getD_cons_zero, List.getD_cons_succ]
  have hpw := fun π => e_PowerW (π := π) x.value ⟨by omega, by omega⟩
  have hpv := pw_pos x.value
  have hpl := pw_le hw.2
  have hd : a0.tdiv (pw x.value) = a0 / pw x.value := Int.tdiv_eq_ediv_of_nonneg h0.1
  have hd0 := Int.ediv_nonneg h0.1 (Int.le_of_lt hpv)
  have hd1 := Int.ediv_le_self (pw x.value) h0.1
  have hwq : IntKind.i64.wrap (a0 / pw x.value) = a0 / pw x.value := w64 ⟨by omega, by omega⟩
  have hm : (a0 / pw x.value).tmod (pw x.width) = a0 / pw x.value % pw x.width := Int.tmod_eq_emod_of_nonneg hd0
  have hP0 : ¬ pw x.width = 0 := by omega
  have hV0 : ¬ pw x.value = 0 := by omega
  generalize pw x.width = P at *
  generalize pw x.value = V at *
  simp [e_ratchetbase_Apply, run_eq, c_ratchetbase_Apply, hp, evRO]
  simp [n0]
  simp [n1]
  simp [n2]
  simp [n3]
  simp [n4]
  simp [n5]
  simp [n6]
  simp [n7]
  simp [n8]
  simp [n9]
  simp [n10]
  simp [n11]
  simp [n12]
  simp [n13]
  simp [ho, hpw, hd, hwq, hm, hP0, hV0, evRO]
theorem e_Apply_15 {x : Nod} (ho : x.op = 15) {w a : List Int} (h : AppOk 15 x w a) (L : AV) :
    EE π n_ratchetbase_Apply [.p (encNode x), .p (encInts a), .p (encInts w), L] [] = some (.p (I (appK 15 x w a)), []) := by
  have hwd := h.wd
  have n0 : ¬ x.op = 0 := by omega
  have n1 : ¬ x.op = 1 := by omega
  have n2 : ¬ x.op = 2 := by omega
  have n3 : ¬ x.op = 3 := by omega
  have n4 : ¬ x.op = 4 := by omega
  have n5 : ¬ x.op = 5 := by omega
  have n6 : ¬ x.op = 6 := by omega
  have n7 : ¬ x.op = 7 := by omega
  have n8 : ¬ x.op = 8 := by omega
  have n9 : ¬ x.op = 9 := by omega
  have n10 : ¬ x.op = 10 := by omega
  have n11 : ¬ x.op = 11 := by omega
  have n12 : ¬ x.op = 12 := by omega
  have n13 : ¬ x.op = 13 := by omega
  have n14 : ¬ x.op = 14 := by omega
  have hp := fun π => e_PowerW (π := π) x.width ⟨by omega, by omega⟩
  have hP1 := pw_pos x.width
  have hP2 := pw_le hwd.2
  obtain ⟨a0, w0, rfl, rfl, hw, hle, h0⟩ := ok_extN (by omega) h
  simp only [appK, List.getD_cons_zero]
  generalize pw x.width = P at *
  simp [e_ratchetbase_Apply, run_eq, c_ratchetbase_Apply, hp, evRO]
  simp [n0]
  simp [n1]
  simp [n2]
  simp [n3]
  simp [n4]
  simp [n5]
  simp [n6]
  simp [n7]
  simp [n8]
  simp [n9]
  simp [n10]
  simp [n11]
  simp [n12]
  simp [n13]
  simp [n14]
  simp [ho, evRO]
theorem e_Apply_16 {x : Nod} (ho : x.op = 16) {w a : List Int} (h : AppOk 16 x w a) (L : AV) :
    EE π n_ratchetbase_Apply [.p (encNode x), .p (encInts a), .p (encInts w), L] [] = some (.p (I (appK 16 x w a)), []) := by
  have hwd := h.wd
  have n0 : ¬ x.op = 0 := by omega
  have n1 : ¬ x.op = 1 := by omega
  have n2 : ¬ x.op = 2 := by omega
  have n3 : ¬ x.op = 3 := by omega
  have n4 : ¬ x.op = 4 := by omega
  have n5 : ¬ x.op = 5 := by omega
  have n6 : ¬ x.op = 6 := by omega
  have n7 : ¬ x.op = 7 := by omega
  have n8 : ¬ x.op = 8 := by omega
  have n9 : ¬ x.op = 9 := by omega
  have n10 : ¬ x.op = 10 := by omega
  have n11 : ¬ x.op = 11 := by omega
  have n12 : ¬ x.op = 12 := by omega
  have n13 : ¬ x.op = 13 := by omega
  have n14 : ¬ x.op = 14 := by omega
  have n15 : ¬ x.op = 15 := by omega
  have hp := fun π => e_PowerW (π := π) x.width ⟨by omega, by omega⟩
  have hP1 := pw_pos x.width
  have hP2 := pw_le hwd.2
  obtain ⟨a0, w0, rfl, rfl, hw, hle, h0⟩ := ok_extN (by omega) h
  simp only [appK, List.getD_cons_zero]
  have hs0 := fun π => e_SignedR (π := π) a0 w0 hw h0
  have hmo := pw_mono hle
  have hsg : - pw w0 ≤ sgnV a0 w0 ∧ sgnV a0 w0 < pw w0 := by
    have := h0.1
    have := h0.2
    have := pw_pos w0
    unfold sgnV; split <;> omega
  generalize sgnV a0 w0 = S0 at *
  generalize pw x.width = P at *
  have hw2 : IntKind.i64.wrap (S0 + P) = S0 + P := w64 ⟨by omega, by omega⟩
  have hm : (S0 + P).tmod P = S0 % P := by rw [Int.tmod_eq_emod_of_nonneg (by omega)]; simp
  have hP0 : ¬ P = 0 := by omega
  simp [e_ratchetbase_Apply, run_eq, c_ratchetbase_Apply, hp, evRO]
  simp [n0]
  simp [n1]
  simp [n2]
  simp [n3]
  simp [n4]
  simp [n5]
  simp [n6]
  simp [n7]
  simp [n8]
  simp [n9]
  simp [n10]
  simp [n11]
  simp [n12]
  simp [n13]
  simp [n14]
  simp [n15]
  simp [ho, hs0, hw2, hm, hP0, evRO]
theorem e_Apply_17 {x : Nod} (ho : x.op = 17) {w a : List Int} (h : AppOk 17 x w a) (L : AV) :
    EE π n_ratchetbase_Apply [.p (encNode x), .p (encInts a), .p (encInts w), L] [] = some (.p (I (appK 17 x w a)), []) := by
  have hwd := h.wd
  have n0 : ¬ x.op = 0 := by omega
  have n1 : ¬ x.op = 1 := by omega
  have n2 : ¬ x.op = 2 := by omega
  have n3 : ¬ x.op = 3 := by omega
  have n4 : ¬ x.op = 4 := by omega
  have n5 : ¬ x.op = 5 := by omega
  have n6 : ¬ x.op = 6 := by omega
  have n7 : ¬ x.op = 7 := by omega
  have n8 : ¬ x.op = 8 := by omega
  have n9 : ¬ x.op = 9 := by omega
  have n10 : ¬ x.op = 10 := by omega
  have n11 : ¬ x.op = 11 := by omega
  have n12 : ¬ x.op = 12 := by omega
  have n13 : ¬ x.op = 13 := by omega
  have n14 : ¬ x.op = 14 := by omega
  have n15 : ¬ x.op = 15 := by omega
  have n16 : ¬ x.op = 16 := by omega
  have hp := fun π => e_PowerW (π := π) x.width ⟨by omega, by omega⟩
  have hP1 := pw_pos x.width
  have hP2 := pw_le hwd.2
  obtain ⟨a0, a1, w1, rfl, rfl, hw, h0, h1⟩ := ok_shift (by omega) h
  simp only [appK, shlV, List.getD_cons_zero, List.getD_cons_succ]
  by_cases hc : x.width ≤ a1
  · generalize pw x.width = P at *
    simp [e_ratchetbase_Apply, run_eq, c_ratchetbase_Apply, hp, evRO]
    simp [n0]
    simp [n1]
    simp [n2]
    simp [n3]
    simp [n4]
    simp [n5]
    simp [n6]
    simp [n7]
    simp [n8]
    simp [n9]
    simp [n10]
    simp [n11]
    simp [n12]
    simp [n13]
    simp [n14]
    simp [n15]
    simp [n16]
    simp [ho, hc, evRO]
  · have hpw := fun π => e_PowerW (π := π) a1 ⟨h1.1, by omega⟩
    have hml := mul_le (a := a0) (m := pw a1) ⟨h0.1, by have := h0.2; omega⟩ ⟨Int.le_of_lt (pw_pos a1), pw_le (by omega)⟩
    have hwa : IntKind.i64.wrap (a0 * pw a1) = a0 * pw a1 := w64 ⟨by omega, by omega⟩
    have hm : (a0 * pw a1).tmod (pw x.width) = a0 * pw a1 % pw x.width := Int.tmod_eq_emod_of_nonneg hml.1
    have hP0 : ¬ pw x.width = 0 := by omega
    generalize pw x.width = P at *
    generalize pw a1 = P1 at *
    simp [e_ratchetbase_Apply, run_eq, c_ratchetbase_Apply, hp, evRO]
    simp [n0]
    simp [n1]
    simp [n2]
    simp [n3]
    simp [n4]
    simp [n5]
    simp [n6]
    simp [n7]
    simp [n8]
    simp [n9]
    simp [n10]
    simp [n11]
    simp [n12]
    simp [n13]
    simp [n14]
    simp [n15]
    simp [n16]
    simp [ho, hc, hpw, hwa, hm, hP0, evRO]
theorem e_Apply_18 {x : Nod} (ho : x.op = 18) {w a : List Int} (h : AppOk 18 x w a) (L : AV) :
    EE π n_ratchetbase_Apply [.p (encNode x), .p (encInts a), .p (encInts w), L] [] = some (.p (I (appK 18 x w a)), []) := by
  have hwd := h.wd
  have n0 : ¬ x.op = 0 := by omega
  have n1 : ¬ x.op = 1 := by omega
  have n2 : ¬ x.op = 2 := by omega
  have n3 : ¬ x.op = 3 := by omega
  have n4 : ¬ x.op = 4 := by omega
  have n5 : ¬ x.op = 5 := by omega
  have n6 : ¬ x.op = 6 := by omega
  have n7 : ¬ x.op = 7 := by omega
  have n8 : ¬ x.op = 8 := by omega
  have n9 : ¬ x.op = 9 := by omega
  have n10 : ¬ x.op = 10 := by omega
  have n11 : ¬ x.op = 11 := by omega
  have n12 : ¬ x.op = 12 := by omega
  have n13 : ¬ x.op = 13 := by omega
  have n14 : ¬ x.op = 14 := by omega
  have n15 : ¬ x.op = 15 := by omega
  have n16 : ¬ x.op = 16 := by omega
  have n17 : ¬ x.op = 17 := by omega
  have hp := fun π => e_PowerW (π := π) x.width ⟨by omega, by omega⟩
  have hP1 := pw_pos x.width
  have hP2 := pw_le hwd.2
  obtain ⟨a0, a1, w1, rfl, rfl, hw, h0, h1⟩ := ok_shift (by omega) h
  simp only [appK, shrV, List.getD_cons_zero, List.getD_cons_succ]
  by_cases hc : x.width ≤ a1
  · generalize pw x.width = P at *
    simp [e_ratchetbase_Apply, run_eq, c_ratchetbase_Apply, hp, evRO]
    simp [n0]
    simp [n1]
    simp [n2]
    simp [n3]
    simp [n4]
    simp [n5]
    simp [n6]
    simp [n7]
    simp [n8]
    simp [n9]
    simp [n10]
    simp [n11]
    simp [n12]
    simp [n13]
    simp [n14]
    simp [n15]
    simp [n16]
    simp [n17]
    simp [ho, hc, evRO]
  · have hpw := fun π => e_PowerW (π := π) a1 ⟨h1.1, by omega⟩
    have hpv := pw_pos a1
    have hd : a0.tdiv (pw a1) = a0 / pw a1 := Int.tdiv_eq_ediv_of_nonneg h0.1
    have hd0 := Int.ediv_nonneg h0.1 (Int.le_of_lt hpv)
    have hd1 := Int.ediv_le_self (pw a1) h0.1
    have hwq : IntKind.i64.wrap (a0 / pw a1) = a0 / pw a1 := w64 ⟨by omega, by have := h0.2; omega⟩
    have hV0 : ¬ pw a1 = 0 := by omega
    generalize pw x.width = P at *
    generalize pw a1 = V at *
    simp [e_ratchetbase_Apply, run_eq, c_ratchetbase_Apply, hp, evRO]
    simp [n0]
    simp [n1]
    simp [n2]
    simp [n3]
    simp [n4]
    simp [n5]
    simp [n6]
    simp [n7]
    simp [n8]
    simp [n9]
    simp [n10]
    simp [n11]
    simp [n12]
    simp [n13]
    simp [n14]
    simp [n15]
    simp [n16]
    simp [n17]
    simp [ho, hc, hpw, hd, hwq, hV0, evRO]
theorem e_ApplyK {k : Nat} (hk : 2 ≤ k ∧ k < 19) {x : Nod} (ho : x.op = (k : Int)) {w a : List Int} (h : AppOk k x w a) (L : AV) :
    EE π n_ratchetbase_Apply [.p (encNode x), .p (encInts a), .p (encInts w), L] [] = some (.p (I (appK k x w a)), []) := by
  match k, hk with
  | 2, _ => exact e_Apply_2 ho h L
  | 3, _ => exact e_Apply_3 ho h L
  | 4, _ => exact e_Apply_4 ho h L
  | 5, _ => exact e_Apply_5 ho h L
  | 6, _ => exact e_Apply_6 ho h L
  | 7, _ => exact e_Apply_7 ho h L
  | 8, _ => exact e_Apply_8 ho h L
  | 9, _ => exact e_Apply_9 ho h L
  | 10, _ => exact e_Apply_10 ho h L
  | 11, _ => exact e_Apply_11 ho h L
  | 12, _ => exact e_Apply_12 ho h L
  | 13, _ => exact e_Apply_13 ho h L
  | 14, _ => exact e_Apply_14 ho h L
  | 15, _ => exact e_Apply_15 ho h L
  | 16, _ => exact e_Apply_16 ho h L
  | 17, _ => exact e_Apply_17 ho h L
  | 18, _ => exact e_Apply_18 ho h L
  | k + 19, hk => exact absurd hk.2 (by omega)

end Go.Proofs.YtglelclmlkeheaaGreatDoor.V
