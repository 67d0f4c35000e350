/- Nodes with arguments by a map; a graph in which a leaf is a value. A graph in which a leaf is a value. Two graphs as one. Larger graphs, by the reference. Two graphs as one, by the reference. The law GraphLarger, in the evaluator. -/
import Derived.Test.YtglelclmlkeheaaGreatDoorS1

set_option linter.unusedSimpArgs false
set_option linter.unusedVariables false

/- Nodes with arguments by a map; a graph in which a leaf is a value. -/
namespace Go.Proofs.YtglelclmlkeheaaGreatDoor.V
open Go (IntKind BinOp UnOp)
variable {π : Id}

abbrev zBox : Blk := .box false [.p (I 0), .p (I 0), .p (.sl 1 (some true) []), .p (I 0)]
theorem mv_loop (x : Nod) (hal : x.args.length ≤ 1000) {f : Nat} {caps : List PV} {g : Int → Int} (hg : ∀ n ∈ x.args, EE (18 :: π) f (.p (I n) :: caps.map fun v => AV.p v.fg) [] = some (.p (I (g n)), [])) :
    ∀ (suf pre : List Int) (y : Env × Sto), x.args = pre ++ suf →
    mask [1, 2, 4, 5, 9, 10, 11] [] y = some ([(1, .p (.fn f caps)), (2, .ref (2 :: π) 0), (4, .ref (4 :: π) 0), (5, .ap (1005 :: π)), (9, .p (encInts x.args)), (10, .p (I x.args.length)), (11, .p (I pre.length))], [rowI (1005 :: π) (flagE pre) (pre.map g), (4 :: π, zBox), (2 :: π, boxNd x)]) →
    kpO [2, 4, 5] [4] [] (bkO 0 (iter (round EE iter π [] [1, 2, 4, 5, 9, 10, 11] c_graph_moved_L0) y)) = some (.nm, [(2, .ref (2 :: π) 0), (4, .ref (4 :: π) 0), (5, .ap (1005 :: π))], [rowI (1005 :: π) (flagE x.args) (x.args.map g), (4 :: π, zBox), (2 :: π, boxNd x)])
  | [], pre, y, h, hm => by
    rw [loop_eq hm]
    have : x.args = pre := by simpa using h
    simp [u_graph_moved_L0, b_graph_moved_L0, ← this]
  | z :: suf, pre, y, h, hm => by
    rw [loop_eq hm]
    have hlen : pre.length < x.args.length := by rw [h]; simp
    have hz := hg z (by rw [h]; simp)
    have hws := w_succ hlen (show x.args.length ≤ top63 by simp only [top63]; omega)
    have hroom : (pre.map g).length + 1 ≤ room := by rw [List.length_map]; simp only [room]; omega
    have hnext := mv_loop x hal hg suf (pre ++ [z])
    rw [show (pre ++ [z]).length = pre.length + 1 by simp, flagE_snoc, show (pre ++ [z]).map g = pre.map g ++ [g z] by simp] at hnext
    generalize pre.map g = R at *
    generalize x.args.map g = RR at *
    generalize g z = gz at *
    simp [u_graph_moved_L0, b_graph_moved_L0, lt_mid h, get_mid _ h, hz, hroom]
    exact hnext _ (by simp [h]) (by simp [hws])

theorem e_moved (x : Nod) (hal : x.args.length ≤ 1000) {f : Nat} {caps : List PV} {g : Int → Int} (hg : ∀ n ∈ x.args, EE (18 :: π) f (.p (I n) :: caps.map fun v => AV.p v.fg) [] = some (.p (I (g n)), [])) :
    EE π n_graph_moved [.p (encNode x), .p (.fn f caps)] [] = some (.agg [.p (I x.op), .p (I x.width), .ap (1005 :: π), .p (I x.value)], [rowI (1005 :: π) (flagE x.args) (x.args.map g)]) := by
  simp [e_graph_moved, run_eq, c_graph_moved, thaw, thaw1]
  rw [mv_loop x hal hg x.args [] _ rfl (by simp [flagE])]
  generalize x.args.map g = R
  simp [PV.setc]

theorem e_constant (w v : Int) : EE π n_graph_constant [.p (I w), .p (I v)] [] = some (.p (.agg [I 0, I w, .sl 1 (some true) [], I v]), []) := by
  simp [e_graph_constant, run_eq, c_graph_constant]

theorem e_sub1 (n : Int) : EE π n_graph_Substituted_1 [.p (I n)] [] = some (.p (I n), []) := by
  simp [e_graph_Substituted_1, run_eq, c_graph_Substituted_1]
theorem e_app1 (n : Int) : EE π n_graph_Appended_1 [.p (I n)] [] = some (.p (I n), []) := by
  simp [e_graph_Appended_1, run_eq, c_graph_Appended_1]
theorem e_app2 (n : Int) (a : List PV) : EE π n_graph_Appended_2 [.p (I n), .p (.ptr [.sl 4 none a])] [] = some (.p (I (IntKind.i64.wrap (n + a.length))), []) := by
  simp [e_graph_Appended_2, run_eq, c_graph_Appended_2]

end Go.Proofs.YtglelclmlkeheaaGreatDoor.V

/- A graph in which a leaf is a value. -/
namespace Go.Proofs.YtglelclmlkeheaaGreatDoor.V
open Go (IntKind BinOp UnOp)
variable {π : Id}

abbrev encM (x : Nod) : PV := .agg [I x.op, I x.width, .sl 1 (flagE x.args) (ints x.args), I x.value]
def subN (leaf v : Int) (x : Nod) : Nod := if x.op = 1 ∧ x.value = leaf then ⟨0, x.width, [], v⟩ else x
abbrev rowN (i : Id) (nl : Option Bool) (D : List PV) : Id × Blk := (i, .row false t_api_Node 4 nl D)

theorem sub_loop (nodes : List Nod) (hnl : nodes.length ≤ 1000) (hal : ∀ x ∈ nodes, x.args.length ≤ 1000) (leaf v : Int) :
    ∀ (suf pre : List Nod) (y : Env × Sto), nodes = pre ++ suf →
    mask [2, 3, 11, 36, 37, 38] [] y = some ([(2, .p (I leaf)), (3, .p (I v)), (11, .ap (1011 :: π)), (36, .p (encNodes nodes)), (37, .p (I nodes.length)), (38, .p (I pre.length))], [rowN (1011 :: π) (flagE pre) (pre.map fun x => encM (subN leaf v x))]) →
    kpO [11] [8, 9] [] (bkO 0 (iter (round EE iter π [] [2, 3, 11, 36, 37, 38] c_graph_Substituted_L0) y)) = some (.nm, [(11, .ap (1011 :: π))], [rowN (1011 :: π) (flagE nodes) (nodes.map fun x => encM (subN leaf v x))])
  | [], pre, y, h, hm => by
    rw [loop_eq hm]
    have : nodes = pre := by simpa using h
    simp [u_graph_Substituted_L0, b_graph_Substituted_L0, ← this]
  | z :: suf, pre, y, h, hm => by
    rw [loop_eq hm]
    have hlen : pre.length < nodes.length := by rw [h]; simp
    have hz := hal z (by rw [h]; simp)
    have hmv := fun π => e_moved (π := π) z hz (f := n_graph_Substituted_1) (caps := []) (g := id) (fun n _ => by simpa using e_sub1 n)
    simp only [List.map_id] at hmv
    have hws := w_succ hlen (show nodes.length ≤ top63 by simp only [top63]; omega)
    have hroom : (pre.map fun x => encM (subN leaf v x)).length + 1 ≤ room := by rw [List.length_map]; simp only [room]; omega
    have hnext := sub_loop nodes hnl hal leaf v suf (pre ++ [z])
    rw [show (pre ++ [z]).length = pre.length + 1 by simp, flagE_snoc, show ((pre ++ [z]).map fun x => encM (subN leaf v x)) = (pre.map fun x => encM (subN leaf v x)) ++ [encM (subN leaf v z)] by simp] at hnext
    generalize (pre.map fun x => encM (subN leaf v x)) = R at *
    generalize (nodes.map fun x => encM (subN leaf v x)) = RR at *
    unfold subN at hnext
    by_cases h1 : z.op = 1
    · by_cases h2 : z.value = leaf
      · rw [if_pos ⟨h1, h2⟩] at hnext
        simp only [encNode, h1, h2] at hmv
        simp [u_graph_Substituted_L0, b_graph_Substituted_L0, lt_mid h, get_mid _ h, hmv, h1, h2, hroom, e_constant, freeze, evRO]
        exact hnext _ (by simp [h]) (by simp [hws, flagE])
      · rw [if_neg (by simp [h2])] at hnext
        simp only [encNode, h1] at hmv
        simp [u_graph_Substituted_L0, b_graph_Substituted_L0, lt_mid h, get_mid _ h, hmv, h1, h2, hroom, e_constant, freeze, evRO]
        exact hnext _ (by simp [h]) (by simp [hws, flagE, h1])
    · rw [if_neg (by simp [h1])] at hnext
      simp [u_graph_Substituted_L0, b_graph_Substituted_L0, lt_mid h, get_mid _ h, hmv, h1, hroom, e_constant, freeze, evRO]
      exact hnext _ (by simp [h]) (by simp [hws, flagE, h1])

/-- The error of a substitution. -/
def subE (leaves : List Int) (c leaf v : Int) : Int :=
  if c ≠ 0 then c else if within leaf 0 ((leaves.length : Int) - 1) = false then 6 else if fitsB v (leaves.getD leaf.toNat 0) = false then 2 else 0

theorem eachE_all {α : Type} {err : Nat → α → Int} : ∀ {l : List α} {i : Nat}, (eachE err i l).2 = 0 → ∀ k x, l[k]? = some x → err (i + k) x = 0
  | [], i, h, k, x, hk => by simp at hk
  | y :: r, i, h, k, x, hk => by
    simp only [eachE] at h
    split at h
    · rename_i hy
      match k, hk with
      | 0, hk => simp at hk; subst hk; exact hy
      | k + 1, hk => rw [show i + (k + 1) = i + 1 + k by omega]; exact eachE_all h k x (by simpa using hk)
    · rename_i hy; exact absurd h hy
theorem checkE_leaves {leaves : List Int} {nodes : List Nod} (h : (checkE leaves nodes).2 = 0) : leaves.length ≤ 40 ∧ nodes.length ≤ 400 ∧ ∀ n ∈ leaves, 1 ≤ n ∧ n ≤ 16 := by
  unfold checkE at h
  split at h
  · simp at h
  · split at h
    · rename_i h2; exact absurd h h2
    · rename_i h1 h2
      split at h
      · simp at h
      · refine ⟨by omega, by omega, fun n hn => ?_⟩
        obtain ⟨k, hk⟩ := List.mem_iff_getElem?.1 hn
        have := eachE_all (by simpa using h2) k n hk
        exact within_iff.1 ((unlE_z (by decide)).1 this)

theorem e_Substituted (leaves : List Int) (hl : leaves.length ≤ 1000) (nodes : List Nod) (hnl : nodes.length ≤ 1000) (hal : ∀ x ∈ nodes, x.args.length ≤ 1000) (leaf v : Int) :
    EE π n_graph_Substituted [.p (encInts leaves), .p (encNodes nodes), .p (I leaf), .p (I v)] [] = (if subE leaves (checkE leaves nodes).2 leaf v = 0 then some (.tup [.ap (1011 :: π), .p (I 0)], [rowN (1011 :: π) (flagE nodes) (nodes.map fun x => encM (subN leaf v x))]) else some (.p (.tup [.sl 4 (some true) [], I (subE leaves (checkE leaves nodes).2 leaf v)]), [])) := by
  have hge := fun π => e_graphErr (π := π) leaves nodes hal
  have hck := checkE_leaves (leaves := leaves) (nodes := nodes)
  have hws : IntKind.i64.wrap ((leaves.length : Int) - 1) = (leaves.length : Int) - 1 := w64 ⟨by omega, by omega⟩
  have hlp := sub_loop (π := π) nodes hnl hal leaf v nodes []
  unfold subE
  generalize (checkE leaves nodes).2 = c at *
  by_cases hc : c = 0
  · obtain ⟨_, _, hlw⟩ := hck hc
    by_cases hw : within leaf 0 ((leaves.length : Int) - 1) = true
    · have hw' := within_iff.1 hw
      have hlt : leaf.toNat < leaves.length := by omega
      have hlt' : leaf < (leaves.length : Int) := by omega
      have hgd : leaves.getD leaf.toNat 0 = leaves[leaf.toNat] := by simp [List.getD, hlt]
      have hfi := fun π => e_fitsG (π := π) v leaves[leaf.toNat] (hlw _ (List.getElem_mem hlt)).2
      rw [hgd]
      cases hf : fitsB v leaves[leaf.toNat] with
      | false => 
        simp [e_graph_Substituted, run_eq, c_graph_Substituted, hge, hc, hws, e_withinG, hw, hw'.1, hlt, hlt', hfi, hf, e_unlessG, e_first2G, unlE, firstE, freeze, evRO]
      | true =>
        simp [e_graph_Substituted, run_eq, c_graph_Substituted, hge, hc, hws, e_withinG, hw, hw'.1, hlt, hlt', hfi, hf, e_unlessG, e_first2G, unlE, firstE, freeze, evRO, thaw, thaw1]
        rw [hlp _ rfl (by simp [flagE])]
        simp
    · have hw : within leaf 0 ((leaves.length : Int) - 1) = false := by simpa using hw
      simp [e_graph_Substituted, run_eq, c_graph_Substituted, hge, hc, hws, e_withinG, hw, e_unlessG, e_first2G, unlE, firstE, freeze, evRO]
  · simp [e_graph_Substituted, run_eq, c_graph_Substituted, hge, hc, hws, e_withinG, e_unlessG, e_first2G, firstE, freeze, evRO]

end Go.Proofs.YtglelclmlkeheaaGreatDoor.V

/- Two graphs as one. -/
namespace Go.Proofs.YtglelclmlkeheaaGreatDoor.V
open Go (IntKind BinOp UnOp)
variable {π : Id}

def shiftN (m : Nat) (x : Nod) : Nod := { x with args := x.args.map fun n => n + (m : Int) }
def atN (n k : Nat) : List Int := (List.range k).map fun i => ((n + i : Nat) : Int)
theorem atN_succ (n k : Nat) : atN n (k + 1) = atN n k ++ [((n + k : Nat) : Int)] := by simp [atN, List.range_succ]
theorem atN_len (n k : Nat) : (atN n k).length = k := by simp [atN]
theorem flagE_map {α β : Type} (f : α → β) (l : List α) : flagE (l.map f) = flagE l := by cases l <;> rfl

theorem app_loopA (a b : List Nod) (hal : a.length ≤ 1000) (hxa : ∀ x ∈ a, x.args.length ≤ 1000) :
    ∀ (suf pre : List Nod) (y : Env × Sto), a = pre ++ suf →
    mask [2, 4, 10, 11, 34, 35, 36] [] y = some ([(2, .p (encNodes b)), (4, .p (.ptr [encNodes a])), (10, .ap (1010 :: π)), (11, .p (.sl 1 (some true) [])), (34, .p (encNodes a)), (35, .p (I a.length)), (36, .p (I pre.length))], [rowN (1010 :: π) (flagE pre) (pre.map encM)]) →
    kpO [2, 4, 10, 11] [6, 7, 8] [] (bkO 0 (iter (round EE iter π [] [2, 4, 10, 11, 34, 35, 36] c_graph_Appended_L0) y)) = some (.nm, [(2, .p (encNodes b)), (4, .p (.ptr [encNodes a])), (10, .ap (1010 :: π)), (11, .p (.sl 1 (some true) []))], [rowN (1010 :: π) (flagE a) (a.map encM)])
  | [], pre, y, h, hm => by
    rw [loop_eq hm]
    have : a = pre := by simpa using h
    simp [u_graph_Appended_L0, b_graph_Appended_L0, ← this]
  | z :: suf, pre, y, h, hm => by
    rw [loop_eq hm]
    have hlen : pre.length < a.length := by rw [h]; simp
    have hz := hxa z (by rw [h]; simp)
    have hmv := fun π => e_moved (π := π) z hz (f := n_graph_Appended_1) (caps := []) (g := id) (fun n _ => by simpa using e_app1 n)
    simp only [List.map_id] at hmv
    have hws := w_succ hlen (show a.length ≤ top63 by simp only [top63]; omega)
    have hroom : (pre.map encM).length + 1 ≤ room := by rw [List.length_map]; simp only [room]; omega
    have hnext := app_loopA a b hal hxa suf (pre ++ [z])
    rw [show (pre ++ [z]).length = pre.length + 1 by simp, flagE_snoc, show ((pre ++ [z]).map encM) = pre.map encM ++ [encM z] by simp] at hnext
    generalize pre.map encM = R at *
    generalize a.map encM = RR at *
    simp [u_graph_Appended_L0, b_graph_Appended_L0, lt_mid h, get_mid _ h, hmv, hroom, freeze, evRO]
    exact hnext _ (by simp [h]) (by simp [hws])

theorem app_loopB (a b : List Nod) (hal : a.length ≤ 1000) (hbl : b.length ≤ 1000) (hxb : ∀ x ∈ b, x.args.length ≤ 1000) (hin : ∀ x ∈ b, ∀ n ∈ x.args, 0 ≤ n ∧ n ≤ 1000) :
    ∀ (suf pre : List Nod) (y : Env × Sto), b = pre ++ suf →
    mask [4, 10, 11, 46, 47, 48] [] y = some ([(4, .p (.ptr [encNodes a])), (10, .ap (1010 :: π)), (11, .ap (1011 :: π)), (46, .p (encNodes b)), (47, .p (I b.length)), (48, .p (I pre.length))], [rowI (1011 :: π) (flagE pre) (atN a.length pre.length), rowN (1010 :: π) (flagE (a ++ pre)) ((a ++ pre.map (shiftN a.length)).map encM)]) →
    kpO [10, 11] [6, 7, 8] [] (bkO 2 (iter (round EE iter π [] [4, 10, 11, 46, 47, 48] c_graph_Appended_L1) y)) = some (.nm, [(10, .ap (1010 :: π)), (11, .ap (1011 :: π))], [rowI (1011 :: π) (flagE b) (atN a.length b.length), rowN (1010 :: π) (flagE (a ++ b)) ((a ++ b.map (shiftN a.length)).map encM)])
  | [], pre, y, h, hm => by
    rw [loop_eq hm]
    have : b = pre := by simpa using h
    simp [u_graph_Appended_L1, b_graph_Appended_L1, ← this]
  | z :: suf, pre, y, h, hm => by
    rw [loop_eq hm]
    have hlen : pre.length < b.length := by rw [h]; simp
    have hz := hxb z (by rw [h]; simp)
    have hzi := hin z (by rw [h]; simp)
    have hmv := fun π => e_moved (π := π) z hz (f := n_graph_Appended_2) (caps := [.ptr [encNodes a]]) (g := fun n => n + (a.length : Int)) (fun n hn => by
      have := hzi n hn
      have hw : IntKind.i64.wrap (n + (a.length : Int)) = n + (a.length : Int) := w64 ⟨by omega, by omega⟩
      have h2 := e_app2 (π := 18 :: π) n (a.map encNode)
      rw [List.length_map, hw] at h2
      simpa using h2)
    have hws := w_succ hlen (show b.length ≤ top63 by simp only [top63]; omega)
    have hroom : a.length + pre.length + 1 ≤ room := by simp only [room]; omega
    have hRl : ((a ++ pre.map (shiftN a.length)).map encM).length = a.length + pre.length := by simp
    have hroomI : (atN a.length pre.length).length + 1 ≤ room := by rw [atN_len]; simp only [room]; omega
    have hnext := app_loopB a b hal hbl hxb hin suf (pre ++ [z])
    have hfl : flagE (shiftN a.length z).args = flagE z.args := flagE_map _ _
    rw [show (pre ++ [z]).length = pre.length + 1 by simp, ← List.append_assoc, flagE_snoc, flagE_snoc, atN_succ, show ((a ++ (pre ++ [z]).map (shiftN a.length)).map encM) = (a ++ pre.map (shiftN a.length)).map encM ++ [encM (shiftN a.length z)] by simp] at hnext
    rw [show encM (shiftN a.length z) = .agg [I z.op, I z.width, .sl 1 (flagE z.args) (ints (z.args.map fun n => n + (a.length : Int))), I z.value] by unfold encM; rw [hfl]; rfl] at hnext
    generalize (a ++ pre.map (shiftN a.length)).map encM = R at *
    generalize (a ++ b.map (shiftN a.length)).map encM = RR at *
    generalize z.args.map (fun n => n + (a.length : Int)) = ZA at *
    generalize atN a.length pre.length = AT at *
    generalize atN a.length b.length = ATB at *
    simp [u_graph_Appended_L1, b_graph_Appended_L1, lt_mid h, get_mid _ h, hmv, hroom, hroomI, hRl, freeze, evRO]
    exact hnext _ (by simp [h]) (by simp [hws])

theorem checkE_nodes {leaves : List Int} {nodes : List Nod} (h : (checkE leaves nodes).2 = 0) : ∀ i x, nodes[i]? = some x → nodeE leaves nodes i x = 0 := by
  unfold checkE at h
  split at h
  · simp at h
  · split at h
    · rename_i h2; exact absurd h h2
    · split at h
      · simp at h
      · intro i x hx
        have := eachE_all h i x hx
        simpa using this
theorem nodeE_iff {leaves : List Int} {nodes : List Nod} {i : Nat} {x : Nod} (h : nodeE leaves nodes i x = 0) :
    within x.op 0 18 = true ∧ within x.width 1 16 = true ∧ x.args.length = argc x.op.toNat ∧ argsIn i x.args = true ∧ valE leaves x (hasV x.op.toNat) = 0 ∧ fitB x.op.toNat x.width (widsOf nodes x.args) x.value = true := by
  unfold nodeE at h
  simp only [firstE_cons] at h
  obtain ⟨h1, h2, h3, h4, h5, h6, _⟩ := h
  exact ⟨(unlE_z (by decide)).1 h1, (unlE_z (by decide)).1 h2, by simpa using (unlE_z (by decide)).1 h3, (unlE_z (by decide)).1 h4, h5, (unlE_z (by decide)).1 h6⟩
theorem args_in {leaves : List Int} {nodes : List Nod} (h : (checkE leaves nodes).2 = 0) {i : Nat} {x : Nod} (hx : nodes[i]? = some x) : ∀ n ∈ x.args, 0 ≤ n ∧ n < (i : Int) := fun n hn => by
  have := within_iff.1 (List.all_eq_true.1 (nodeE_iff (checkE_nodes h i x hx)).2.2.2.1 n hn)
  omega

/-- The error of two graphs. -/
def appE (a b : Nat) (c d : Int) : Int := firstE [c, d, unlE (decide (a + b ≤ 400)) 8]

theorem e_Appended (leaves : List Int) (a b : List Nod) (hal : a.length ≤ 1000) (hbl : b.length ≤ 1000) (hxa : ∀ x ∈ a, x.args.length ≤ 1000) (hxb : ∀ x ∈ b, x.args.length ≤ 1000) :
    EE π n_graph_Appended [.p (encInts leaves), .p (encNodes a), .p (encNodes b)] [] = (if appE a.length b.length (checkE leaves a).2 (checkE leaves b).2 = 0 then some (.tup [.ap (1010 :: π), .ap (1011 :: π), .p (I 0)], [rowI (1011 :: π) (flagE b) (atN a.length b.length), rowN (1010 :: π) (flagE (a ++ b)) ((a ++ b.map (shiftN a.length)).map encM)]) else some (.p (.tup [.sl 4 (some true) [], .sl 1 (some true) [], I (appE a.length b.length (checkE leaves a).2 (checkE leaves b).2)]), [])) := by
  have hga := fun π => e_graphErr (π := π) leaves a hxa
  have hgb := fun π => e_graphErr (π := π) leaves b hxb
  have hws : IntKind.i64.wrap ((a.length : Int) + (b.length : Int)) = (a.length : Int) + (b.length : Int) := w64 ⟨by omega, by omega⟩
  have hlA := app_loopA (π := π) a b hal hxa a []
  have hlB : (checkE leaves b).2 = 0 → _ := fun hb => app_loopB (π := π) a b hal hbl hxb (fun x hx n hn => by
    obtain ⟨k, hk⟩ := List.mem_iff_getElem?.1 hx
    have := args_in hb hk n hn
    have hkl := (List.getElem?_eq_some_iff.1 hk).1
    omega) b []
  unfold appE
  generalize (checkE leaves a).2 = c at *
  generalize (checkE leaves b).2 = d at *
  by_cases hc : c = 0
  · by_cases hd : d = 0
    · have hlB := hlB hd
      by_cases hl : a.length + b.length ≤ 400
      · have hl' : (a.length : Int) + (b.length : Int) ≤ 400 := by omega
        simp [e_graph_Appended, run_eq, c_graph_Appended, hga, hgb, hc, hd, hws, hl, hl', e_unlessG, e_first3G, unlE, firstE, freeze, evRO, thaw, thaw1]
        rw [hlA _ rfl (by simp [flagE])]
        simp [thaw, thaw1]
        rw [hlB _ rfl (by simp [flagE, atN])]
        simp
      · have hl' : ¬ (a.length : Int) + (b.length : Int) ≤ 400 := by omega
        simp [e_graph_Appended, run_eq, c_graph_Appended, hga, hgb, hc, hd, hws, hl, hl', e_unlessG, e_first3G, unlE, firstE, freeze, evRO]
    · simp [e_graph_Appended, run_eq, c_graph_Appended, hga, hgb, hc, hd, hws, e_unlessG, e_first3G, firstE, freeze, evRO]
  · simp [e_graph_Appended, run_eq, c_graph_Appended, hga, hgb, hc, hws, e_unlessG, e_first3G, firstE, freeze, evRO]

end Go.Proofs.YtglelclmlkeheaaGreatDoor.V

/- Larger graphs, by the reference. -/
namespace Go.Proofs.YtglelclmlkeheaaGreatDoor.V
open Go (IntKind BinOp UnOp)
variable {π : Id}

theorem e_both (a b : Int) : EE π n_ratchetlaw02_both [.p (I a), .p (I b)] [] = some (.p (I (if a = 0 then b else a)), []) := by
  by_cases h : a = 0 <;> simp [e_ratchetlaw02_both, run_eq, c_ratchetlaw02_both, h]

/-! ### The same nodes -/
theorem same_loopN (a : List Nod) (hal : a.length ≤ 1000) (hxa : ∀ x ∈ a, x.args.length ≤ 1000) : ∀ (suf pre : List Nod) (y : Env × Sto), a = pre ++ suf →
    mask [0, 1, 5] [] y = some ([(0, .p (encNodes a)), (1, .p (encNodes a)), (5, .p (I pre.length))], []) →
    kpO [] [4] [] (bkO 0 (iter (round EE iter π [] [0, 1, 5] c_ratchetbase_SameNodes_L0) y)) = some (.nm, [], [])
  | [], pre, y, h, hm => by
    rw [loop_eq hm]
    have : a = pre := by simpa using h
    simp [u_ratchetbase_SameNodes_L0, b_ratchetbase_SameNodes_L0, ← this]
  | z :: suf, pre, y, h, hm => by
    rw [loop_eq hm]
    have hlen : pre.length < a.length := by rw [h]; simp
    have hz := hxa z (by rw [h]; simp)
    have hin := fun π => e_Ints (π := π) z.args z.args (by simp only [top63]; omega)
    simp only [decide_true] at hin
    have hws := w_succ hlen (show a.length ≤ top63 by simp only [top63]; omega)
    have hnext := same_loopN a hal hxa suf (pre ++ [z])
    simp [u_ratchetbase_SameNodes_L0, b_ratchetbase_SameNodes_L0, lt_mid h, get_mid _ h, hin]
    exact hnext _ (by simp [h]) (by simp [hws])
theorem e_SameNodes (a : List Nod) (hal : a.length ≤ 1000) (hxa : ∀ x ∈ a, x.args.length ≤ 1000) : EE π n_ratchetbase_SameNodes [.p (encNodes a), .p (encNodes a)] [] = some (.p (.bool true), []) := by
  simp [e_ratchetbase_SameNodes, run_eq, c_ratchetbase_SameNodes]
  rw [same_loopN a hal hxa a [] _ rfl (by simp)]
  simp

/-! ### A leaf that is a value -/
def encS (leaf v : Int) (x : Nod) : PV := if x.op = 1 ∧ x.value = leaf then .agg [I 0, I x.width, .sl 1 (some true) [], I v] else encNodeC x
theorem encS_fg (leaf v : Int) (x : Nod) : (encS leaf v x).fg = encNode (subN leaf v x) := by
  unfold encS subN
  split <;> simp
theorem rsub_loop (nodes : List Nod) (hnl : nodes.length ≤ 1000) (leaf v : Int) : ∀ (suf pre : List Nod) (y : Env × Sto), nodes = pre ++ suf →
    mask [1, 2, 7, 8] [] y = some ([(1, .p (I leaf)), (2, .p (I v)), (7, .ap (7 :: 10 :: π)), (8, .p (I pre.length))], [rowN (7 :: 10 :: π) (some false) (pre.map (encS leaf v) ++ suf.map encNodeC)]) →
    kpO [7] [6] [] (bkO 0 (iter (round EE iter π [] [1, 2, 7, 8] c_ratchetref02_Substituted_L0) y)) = some (.nm, [(7, .ap (7 :: 10 :: π))], [rowN (7 :: 10 :: π) (some false) (nodes.map (encS leaf v))])
  | [], pre, y, h, hm => by
    rw [loop_eq hm]
    have : nodes = pre := by simpa using h
    simp [u_ratchetref02_Substituted_L0, b_ratchetref02_Substituted_L0, ← this]
  | z :: suf, pre, y, h, hm => by
    rw [loop_eq hm]
    have hlen : pre.length < nodes.length := by rw [h]; simp
    have hws := w_succ hlen (show nodes.length ≤ top63 by simp only [top63]; omega)
    have hnext := rsub_loop nodes hnl leaf v suf (pre ++ [z])
    have hl2 : (pre.map (encS leaf v)).length = pre.length := by simp
    rw [show (pre ++ [z]).length = pre.length + 1 by simp, show (pre ++ [z]).map (encS leaf v) = pre.map (encS leaf v) ++ [encS leaf v z] by simp] at hnext
    generalize pre.map (encS leaf v) = R at *
    generalize nodes.map (encS leaf v) = RR at *
    unfold encS at hnext
    have hlt : (R.length : Int) < R.length + (suf.length + 1) := by omega
    by_cases h1 : z.op = 1
    · by_cases h2 : z.value = leaf
      · rw [if_pos ⟨h1, h2⟩] at hnext
        simp [u_ratchetref02_Substituted_L0, b_ratchetref02_Substituted_L0, ← hl2, hlt, h1, h2, PV.setc]
        exact hnext _ (by simp [h]) (by simp [hws, hl2])
      · rw [if_neg (by simp [h2])] at hnext
        simp [u_ratchetref02_Substituted_L0, b_ratchetref02_Substituted_L0, ← hl2, hlt, h1, h2, PV.setc]
        exact hnext _ (by simp [h]) (by simp [hws, hl2, h1])
    · rw [if_neg (by simp [h1])] at hnext
      simp [u_ratchetref02_Substituted_L0, b_ratchetref02_Substituted_L0, ← hl2, hlt, h1, PV.setc]
      exact hnext _ (by simp [h]) (by simp [hws, hl2, h1])

theorem e_SubstitutedR (nodes : List Nod) (hnl : nodes.length ≤ 1000) (hal : ∀ x ∈ nodes, x.args.length ≤ 1000) (leaf v : Int) :
    EE π n_ratchetref02_Substituted [.p (encNodes nodes), .p (I leaf), .p (I v)] [] = some (.ap (7 :: 10 :: π), [rowN (7 :: 10 :: π) (some false) (nodes.map (encS leaf v))]) := by
  have hcn := fun π => e_CopyNodes (π := π) nodes hnl hal
  simp [e_ratchetref02_Substituted, run_eq, c_ratchetref02_Substituted, hcn, thaw, thaw1]
  rw [rsub_loop nodes hnl leaf v nodes [] _ rfl (by simp)]
  simp

/-! ### Arguments by a list -/
def byN (D : List Int) (x : Nod) : Nod := { x with args := x.args.map fun n => D.getD n.toNat 0 }
theorem rmv_loop (x : Nod) (hal : x.args.length ≤ 1000) (D : List Int) (hin : ∀ n ∈ x.args, 0 ≤ n ∧ n < D.length) :
    ∀ (suf pre : List Int) (y : Env × Sto), x.args = pre ++ suf →
    mask [1, 2, 4, 5, 6] [] y = some ([(1, .p (encInts D)), (2, .ref (2 :: π) 0), (4, .ref (4 :: π) 0), (5, .ap (1005 :: π)), (6, .p (I pre.length))], [rowI (1005 :: π) (flagE pre) (pre.map fun n => D.getD n.toNat 0), (4 :: π, zBox), (2 :: π, boxNd x)]) →
    kpO [2, 4, 5] [4] [] (bkO 0 (iter (round EE iter π [] [1, 2, 4, 5, 6] c_ratchetref02_moved_L0) y)) = some (.nm, [(2, .ref (2 :: π) 0), (4, .ref (4 :: π) 0), (5, .ap (1005 :: π))], [rowI (1005 :: π) (flagE x.args) (x.args.map fun n => D.getD n.toNat 0), (4 :: π, zBox), (2 :: π, boxNd x)])
  | [], pre, y, h, hm => by
    rw [loop_eq hm]
    have : x.args = pre := by simpa using h
    simp [u_ratchetref02_moved_L0, b_ratchetref02_moved_L0, ← this]
  | z :: suf, pre, y, h, hm => by
    rw [loop_eq hm]
    have hlen : pre.length < x.args.length := by rw [h]; simp
    obtain ⟨hz0, hz1⟩ := hin z (by rw [h]; simp)
    have hlt : z.toNat < D.length := by omega
    have hgd : D.getD z.toNat 0 = D[z.toNat] := by simp [List.getD, hlt]
    have hws := w_succ hlen (show x.args.length ≤ top63 by simp only [top63]; omega)
    have hroom : (pre.map fun n => D.getD n.toNat 0).length + 1 ≤ room := by rw [List.length_map]; simp only [room]; omega
    have hnext := rmv_loop x hal D hin suf (pre ++ [z])
    rw [show (pre ++ [z]).length = pre.length + 1 by simp, flagE_snoc, show (pre ++ [z]).map (fun n => D.getD n.toNat 0) = pre.map (fun n => D.getD n.toNat 0) ++ [D.getD z.toNat 0] by simp, hgd] at hnext
    generalize (pre.map fun n => D.getD n.toNat 0) = R at *
    generalize (x.args.map fun n => D.getD n.toNat 0) = RR at *
    simp [u_ratchetref02_moved_L0, b_ratchetref02_moved_L0, lt_mid h, get_mid _ h, hz0, hz1, hlt, hroom]
    exact hnext _ (by simp [h]) (by simp [hws])

theorem e_movedR (x : Nod) (hal : x.args.length ≤ 1000) (D : List Int) (hin : ∀ n ∈ x.args, 0 ≤ n ∧ n < D.length) :
    EE π n_ratchetref02_moved [.p (encNode x), .p (encInts D)] [] = some (.agg [.p (I x.op), .p (I x.width), .ap (1005 :: π), .p (I x.value)], [rowI (1005 :: π) (flagE x.args) (x.args.map fun n => D.getD n.toNat 0)]) := by
  have hlp := rmv_loop (π := π) x hal D hin x.args []
  generalize (x.args.map fun n => D.getD n.toNat 0) = R at *
  simp [e_ratchetref02_moved, run_eq, c_ratchetref02_moved, thaw, thaw1]
  rw [hlp _ rfl (by simp [flagE])]
  simp [PV.setc]

end Go.Proofs.YtglelclmlkeheaaGreatDoor.V

/- Two graphs as one, by the reference. -/
namespace Go.Proofs.YtglelclmlkeheaaGreatDoor.V
open Go (IntKind BinOp UnOp)
variable {π : Id}

theorem fgL_app : ∀ a b : List PV, PV.fg.PV.fgL (a ++ b) = PV.fg.PV.fgL a ++ PV.fg.PV.fgL b
  | [], b => rfl
  | x :: r, b => by rw [List.cons_append]; simp only [PV.fg.PV.fgL]; rw [fgL_app r b, List.cons_append]
def ldE {α : Type} : List α → Bool
  | [] => false
  | _ :: _ => true
theorem ldE_snoc {α : Type} (l : List α) (x : α) : ldE (l ++ [x]) = true := by cases l <;> rfl
theorem atN_get (n k j : Nat) (h : j < k) : (atN n k).getD j 0 = (n : Int) + j := by simp [atN, List.getD, h]
abbrev rowL (i : Id) (lt : Bool) (nl : Option Bool) (D : List Int) : Id × Blk := (i, .row lt t_int 1 nl (ints D))

theorem rapp_loop (a b : List Nod) (hal : a.length ≤ 1000) (hbl : b.length ≤ 1000) (hxb : ∀ x ∈ b, x.args.length ≤ 1000) (hin : ∀ (i : Nat) (x : Nod), b[i]? = some x → ∀ n ∈ x.args, 0 ≤ n ∧ n < (i : Int)) :
    ∀ (suf pre : List Nod) (y : Env × Sto), b = pre ++ suf →
    mask [0, 1, 6, 7, 8] [] y = some ([(0, .p (encNodes a)), (1, .p (encNodes b)), (6, .ap (7 :: 10 :: π)), (7, .ap (1007 :: π)), (8, .p (I pre.length))], [rowL (1007 :: π) (ldE pre) (flagE pre) (atN a.length pre.length), rowN (7 :: 10 :: π) (some false) (a.map encNodeC ++ (pre.map (shiftN a.length)).map encM)]) →
    kpO [6, 7] [4, 5] [] (bkO 0 (iter (round EE iter π [] [0, 1, 6, 7, 8] c_ratchetref02_Appended_L0) y)) = some (.nm, [(6, .ap (7 :: 10 :: π)), (7, .ap (1007 :: π))], [rowL (1007 :: π) (ldE b) (flagE b) (atN a.length b.length), rowN (7 :: 10 :: π) (some false) (a.map encNodeC ++ (b.map (shiftN a.length)).map encM)])
  | [], pre, y, h, hm => by
    rw [loop_eq hm]
    have : b = pre := by simpa using h
    simp [u_ratchetref02_Appended_L0, b_ratchetref02_Appended_L0, ← this]
  | z :: suf, pre, y, h, hm => by
    rw [loop_eq hm]
    have hlen : pre.length < b.length := by rw [h]; simp
    have hz := hxb z (by rw [h]; simp)
    have hzi := hin pre.length z (by rw [h]; simp)
    have hws := w_succ hlen (show b.length ≤ top63 by simp only [top63]; omega)
    have hwa : IntKind.i64.wrap ((a.length : Int) + (pre.length : Int)) = (a.length : Int) + (pre.length : Int) := w64 ⟨by omega, by omega⟩
    have hmv : ∀ π, EE π n_ratchetref02_moved [.p (encNode z), .p (.sl 1 none (ints (atN a.length pre.length) ++ [I ((a.length : Int) + (pre.length : Int))]))] [] = some (.agg [.p (I z.op), .p (I z.width), .ap (1005 :: π), .p (I z.value)], [rowI (1005 :: π) (flagE z.args) (z.args.map fun n => n + (a.length : Int))]) := fun π => by
      have h1 := e_movedR (π := π) z hz (atN a.length (pre.length + 1)) (fun n hn => by have := hzi n hn; rw [atN_len]; omega)
      rw [show (z.args.map fun n => (atN a.length (pre.length + 1)).getD n.toNat 0) = z.args.map fun n => n + (a.length : Int) from List.map_congr_left fun n hn => by
        have := hzi n hn
        rw [atN_get _ _ _ (by omega)]; omega] at h1
      rw [show encInts (atN a.length (pre.length + 1)) = .sl 1 none (ints (atN a.length pre.length) ++ [I ((a.length : Int) + (pre.length : Int))]) by rw [atN_succ]; simp] at h1
      exact h1
    have hRl : (a.map encNodeC ++ (pre.map (shiftN a.length)).map encM).length = a.length + pre.length := by simp
    have hroom : a.length + pre.length + 1 ≤ room := by simp only [room]; omega
    have hroomI : (atN a.length pre.length).length + 1 ≤ room := by rw [atN_len]; simp only [room]; omega
    have hnext := rapp_loop a b hal hbl hxb hin suf (pre ++ [z])
    have hfl : flagE (shiftN a.length z).args = flagE z.args := flagE_map _ _
    rw [show (pre ++ [z]).length = pre.length + 1 by simp, flagE_snoc, ldE_snoc, atN_succ, show (a.map encNodeC ++ ((pre ++ [z]).map (shiftN a.length)).map encM) = (a.map encNodeC ++ (pre.map (shiftN a.length)).map encM) ++ [encM (shiftN a.length z)] by simp] at hnext
    rw [show encM (shiftN a.length z) = .agg [I z.op, I z.width, .sl 1 (flagE z.args) (ints (z.args.map fun n => n + (a.length : Int))), I z.value] by unfold encM; rw [hfl]; rfl] at hnext
    generalize (a.map encNodeC ++ (pre.map (shiftN a.length)).map encM) = R at *
    generalize (a.map encNodeC ++ (b.map (shiftN a.length)).map encM) = RR at *
    generalize z.args.map (fun n => n + (a.length : Int)) = ZA at *
    generalize atN a.length pre.length = AT at *
    generalize atN a.length b.length = ATB at *
    simp [u_ratchetref02_Appended_L0, b_ratchetref02_Appended_L0, lt_mid h, get_mid _ h, hwa, hmv, fgL_app, hroom, hroomI, hRl, freeze, evRO]
    exact hnext _ (by simp [h]) (by simp [hws])

theorem e_AppendedR (a b : List Nod) (hal : a.length ≤ 1000) (hbl : b.length ≤ 1000) (hxa : ∀ x ∈ a, x.args.length ≤ 1000) (hxb : ∀ x ∈ b, x.args.length ≤ 1000) (hin : ∀ (i : Nat) (x : Nod), b[i]? = some x → ∀ n ∈ x.args, 0 ≤ n ∧ n < (i : Int)) :
    EE π n_ratchetref02_Appended [.p (encNodes a), .p (encNodes b)] [] = some (.tup [.ap (7 :: 10 :: π), .ap (1007 :: π)], [rowL (1007 :: π) (ldE b) (flagE b) (atN a.length b.length), rowN (7 :: 10 :: π) (some false) (a.map encNodeC ++ (b.map (shiftN a.length)).map encM)]) := by
  have hcn := fun π => e_CopyNodes (π := π) a hal hxa
  have hlp := rapp_loop (π := π) a b hal hbl hxb hin b []
  generalize (a.map encNodeC ++ (b.map (shiftN a.length)).map encM) = RR at *
  simp [e_ratchetref02_Appended, run_eq, c_ratchetref02_Appended, hcn, thaw, thaw1]
  rw [hlp _ rfl (by simp [flagE, ldE, atN])]
  simp

end Go.Proofs.YtglelclmlkeheaaGreatDoor.V

/- The law GraphLarger, in the evaluator. -/
namespace Go.Proofs.YtglelclmlkeheaaGreatDoor.V
open Go (IntKind BinOp UnOp)
variable {π : Id}

theorem fgL_encM (l : List Nod) : PV.fg.PV.fgL (l.map encM) = l.map encNode := by
  induction l with
  | nil => rfl
  | cons x r ih => simp only [List.map_cons, PV.fg.PV.fgL, ih]; simp
theorem fgL_sub1 (leaf v : Int) (l : List Nod) : PV.fg.PV.fgL (l.map fun x => encM (subN leaf v x)) = (l.map (subN leaf v)).map encNode := by
  rw [← fgL_encM, List.map_map]; rfl
theorem fgL_sub2 (leaf v : Int) (l : List Nod) : PV.fg.PV.fgL (l.map (encS leaf v)) = (l.map (subN leaf v)).map encNode := by
  induction l with
  | nil => rfl
  | cons x r ih => simp only [List.map_cons, PV.fg.PV.fgL, ih, encS_fg]
theorem fgL_app1 (a b : List Nod) : PV.fg.PV.fgL ((a ++ b).map encM) = (a ++ b).map encNode := fgL_encM _
theorem fgL_app2 (a b : List Nod) : PV.fg.PV.fgL (a.map encNodeC ++ b.map encM) = (a ++ b).map encNode := by
  rw [fgL_app, fgL_nodesC, fgL_encM, List.map_append]

theorem larger_few (leaves : List Int) (a b : List Nod) (p q : Int) (haw : AwakeG [22]) (h : ¬ (fewB leaves a = true ∧ fewB leaves b = true)) :
    EE [] n_ratchetlaw02_GraphLarger [.p (encInts leaves), .p (.agg [encNodes a, encNodes b]), .p (.agg [I p, I q])] [] = some (.p (.bool true), []) := by
  have hfa := fun π => e_few (π := π) leaves a
  have hfb := fun π => e_few (π := π) leaves b
  have haw : EE [22] n_ratchetlaw02_awake [] [] = some (.p (.bool true), []) := haw
  cases h1 : fewB leaves a
  · simp [e_ratchetlaw02_GraphLarger, run_eq, c_ratchetlaw02_GraphLarger, haw, hfa, h1, freeze, evRO]
  · cases h2 : fewB leaves b
    · simp [e_ratchetlaw02_GraphLarger, run_eq, c_ratchetlaw02_GraphLarger, haw, hfa, hfb, h1, h2, freeze, evRO]
    · exact absurd ⟨h1, h2⟩ h

set_option maxHeartbeats 2000000 in
theorem larger_true (leaves : List Int) (a b : List Nod) (p q : Int) (haw : AwakeG [22]) (h : fewB leaves a = true ∧ fewB leaves b = true) :
    EE [] n_ratchetlaw02_GraphLarger [.p (encInts leaves), .p (.agg [encNodes a, encNodes b]), .p (.agg [I p, I q])] [] = some (.p (.bool true), []) := by
  obtain ⟨f1, f2⟩ := h
  have hfa := fun π => e_few (π := π) leaves a
  have hfb := fun π => e_few (π := π) leaves b
  rw [f1] at hfa
  rw [f2] at hfb
  have haw : EE [22] n_ratchetlaw02_awake [] [] = some (.p (.bool true), []) := haw
  obtain ⟨hl, hna, hxa'⟩ := few_iff f1
  obtain ⟨_, hnb, hxb'⟩ := few_iff f2
  have hxa : ∀ x ∈ a, x.args.length ≤ 1000 := fun x hx => by have := hxa' x hx; omega
  have hxb : ∀ x ∈ b, x.args.length ≤ 1000 := fun x hx => by have := hxb' x hx; omega
  have hci := fun π => e_CopyInts (π := π) (ints leaves) (by simp only [List.length_map, room]; omega)
  have hca := fun π => e_CopyNodes (π := π) a (by omega) hxa
  have hcb := fun π => e_CopyNodes (π := π) b (by omega) hxb
  have hea := fun π => e_NodesErr (π := π) leaves a hxa
  have heb := fun π => e_NodesErr (π := π) leaves b hxb
  have hsu := fun π => e_Substituted (π := π) leaves (by omega) a (by omega) hxa p q
  have hap := fun π => e_Appended (π := π) leaves a b (by omega) (by omega) hxa hxb
  have hrs := fun π => e_SubstitutedR (π := π) a (by omega) hxa p q
  have hra : (checkE leaves b).2 = 0 → ∀ π, _ := fun hb π => e_AppendedR (π := π) a b (by omega) (by omega) hxa hxb (fun i x hx => args_in hb hx)
  have hck := checkE_leaves (leaves := leaves) (nodes := a)
  have hws : IntKind.i64.wrap ((leaves.length : Int) - 1) = (leaves.length : Int) - 1 := w64 ⟨by omega, by omega⟩
  have hwl : IntKind.i64.wrap ((a.length : Int) + (b.length : Int)) = (a.length : Int) + (b.length : Int) := w64 ⟨by omega, by omega⟩
  have hs1 := fun π => e_SameNodes (π := π) (a.map (subN p q)) (by rw [List.length_map]; omega) (fun x hx => by
    obtain ⟨z, hz, rfl⟩ := List.mem_map.1 hx
    unfold subN; split
    · simp
    · exact hxa z hz)
  have hs2 := fun π => e_SameNodes (π := π) (a ++ b.map (shiftN a.length)) (by rw [List.length_append, List.length_map]; omega) (fun x hx => by
    rcases List.mem_append.1 hx with hx | hx
    · exact hxa x hx
    · obtain ⟨z, hz, rfl⟩ := List.mem_map.1 hx
      unfold shiftN; rw [List.length_map]; exact hxb z hz)
  have hii := fun π => e_Ints (π := π) (atN a.length b.length) (atN a.length b.length) (by rw [atN_len]; simp only [top63]; omega)
  simp only [decide_true] at hii
  have g1 := fgL_sub1 p q a
  have g2 := fgL_sub2 p q a
  have g3 := fgL_app1 a (b.map (shiftN a.length))
  have g4 := fgL_app2 a (b.map (shiftN a.length))
  simp only [encNodes] at hs1 hs2
  generalize (a.map (subN p q)).map encNode = L1 at *
  generalize (a ++ b.map (shiftN a.length)).map encNode = L2 at *
  generalize (a.map fun x => encM (subN p q x)) = R1 at *
  generalize a.map (encS p q) = R2 at *
  generalize (a ++ b.map (shiftN a.length)).map encM = R3 at *
  generalize a.map encNodeC ++ (b.map (shiftN a.length)).map encM = R4 at *
  generalize atN a.length b.length = AT at *
  unfold appE at hap
  unfold subE at hsu
  generalize (checkE leaves a).2 = c at *
  generalize (checkE leaves b).2 = d at *
  by_cases hc : c = 0
  · obtain ⟨_, _, hlw⟩ := hck hc
    by_cases hw : within p 0 ((leaves.length : Int) - 1) = true
    · have hw' := within_iff.1 hw
      have hlt : p.toNat < leaves.length := by omega
      have hlt' : p < (leaves.length : Int) := by omega
      have hgd : leaves.getD p.toNat 0 = leaves[p.toNat] := by simp [List.getD, hlt]
      have hfi := fun π => e_Fits (π := π) q leaves[p.toNat] (by have := hlw _ (List.getElem_mem hlt); omega)
      rw [hgd] at hsu
      cases hf : fitsB q leaves[p.toNat] with
      | false =>
        simp [hc, hw, hf] at hsu
        by_cases hd : d = 0
        · have hra := hra hd
          by_cases hlen : a.length + b.length ≤ 400
          · have hlen' : ¬ (400 : Int) < (a.length : Int) + (b.length : Int) := by omega
            simp [hc, hd, hlen, firstE, unlE] at hap
            simp [e_ratchetlaw02_GraphLarger, run_eq, c_ratchetlaw02_GraphLarger, haw, hfa, hfb, hci, hca, hcb, hea, heb, fgL_nodesC, e_both, e_Within, hws, hwl, freeze, evRO, hap, hc, hd, hlen', hra, g3, g4, hs2, hii, hsu, hw, hw'.1, hlt, hlt', hfi, hf]
          · have hlen' : (400 : Int) < (a.length : Int) + (b.length : Int) := by omega
            simp [hc, hd, hlen, firstE, unlE] at hap
            simp [e_ratchetlaw02_GraphLarger, run_eq, c_ratchetlaw02_GraphLarger, haw, hfa, hfb, hci, hca, hcb, hea, heb, fgL_nodesC, e_both, e_Within, hws, hwl, freeze, evRO, hap, hc, hd, hlen', hsu, hw, hw'.1, hlt, hlt', hfi, hf]
        · simp [hc, hd, firstE] at hap
          simp [e_ratchetlaw02_GraphLarger, run_eq, c_ratchetlaw02_GraphLarger, haw, hfa, hfb, hci, hca, hcb, hea, heb, fgL_nodesC, e_both, e_Within, hws, hwl, freeze, evRO, hap, hc, hd, hsu, hw, hw'.1, hlt, hlt', hfi, hf]
      | true =>
        simp [hc, hw, hf] at hsu
        by_cases hd : d = 0
        · have hra := hra hd
          by_cases hlen : a.length + b.length ≤ 400
          · have hlen' : ¬ (400 : Int) < (a.length : Int) + (b.length : Int) := by omega
            simp [hc, hd, hlen, firstE, unlE] at hap
            simp [e_ratchetlaw02_GraphLarger, run_eq, c_ratchetlaw02_GraphLarger, haw, hfa, hfb, hci, hca, hcb, hea, heb, fgL_nodesC, e_both, e_Within, hws, hwl, freeze, evRO, hap, hc, hd, hlen', hra, g3, g4, hs2, hii, hsu, hw, hw'.1, hlt, hlt', hfi, hf, hrs, g1, g2, hs1]
          · have hlen' : (400 : Int) < (a.length : Int) + (b.length : Int) := by omega
            simp [hc, hd, hlen, firstE, unlE] at hap
            simp [e_ratchetlaw02_GraphLarger, run_eq, c_ratchetlaw02_GraphLarger, haw, hfa, hfb, hci, hca, hcb, hea, heb, fgL_nodesC, e_both, e_Within, hws, hwl, freeze, evRO, hap, hc, hd, hlen', hsu, hw, hw'.1, hlt, hlt', hfi, hf, hrs, g1, g2, hs1]
        · simp [hc, hd, firstE] at hap
          simp [e_ratchetlaw02_GraphLarger, run_eq, c_ratchetlaw02_GraphLarger, haw, hfa, hfb, hci, hca, hcb, hea, heb, fgL_nodesC, e_both, e_Within, hws, hwl, freeze, evRO, hap, hc, hd, hsu, hw, hw'.1, hlt, hlt', hfi, hf, hrs, g1, g2, hs1]
    · have hw : within p 0 ((leaves.length : Int) - 1) = false := by simpa using hw
      simp [hc, hw] at hsu
      by_cases hd : d = 0
      · have hra := hra hd
        by_cases hlen : a.length + b.length ≤ 400
        · have hlen' : ¬ (400 : Int) < (a.length : Int) + (b.length : Int) := by omega
          simp [hc, hd, hlen, firstE, unlE] at hap
          simp [e_ratchetlaw02_GraphLarger, run_eq, c_ratchetlaw02_GraphLarger, haw, hfa, hfb, hci, hca, hcb, hea, heb, fgL_nodesC, e_both, e_Within, hws, hwl, freeze, evRO, hap, hc, hd, hlen', hra, g3, g4, hs2, hii, hsu, hw]
        · have hlen' : (400 : Int) < (a.length : Int) + (b.length : Int) := by omega
          simp [hc, hd, hlen, firstE, unlE] at hap
          simp [e_ratchetlaw02_GraphLarger, run_eq, c_ratchetlaw02_GraphLarger, haw, hfa, hfb, hci, hca, hcb, hea, heb, fgL_nodesC, e_both, e_Within, hws, hwl, freeze, evRO, hap, hc, hd, hlen', hsu, hw]
      · simp [hc, hd, firstE] at hap
        simp [e_ratchetlaw02_GraphLarger, run_eq, c_ratchetlaw02_GraphLarger, haw, hfa, hfb, hci, hca, hcb, hea, heb, fgL_nodesC, e_both, e_Within, hws, hwl, freeze, evRO, hap, hc, hd, hsu, hw]
  · simp [hc] at hsu
    simp [hc, firstE] at hap
    simp [e_ratchetlaw02_GraphLarger, run_eq, c_ratchetlaw02_GraphLarger, haw, hfa, hfb, hci, hca, hcb, hea, heb, fgL_nodesC, e_both, e_Within, hws, hwl, freeze, evRO, hap, hsu, hc]

end Go.Proofs.YtglelclmlkeheaaGreatDoor.V
