/- The value of a node by those before it, in the program. The error of a node, and of nodes, by the reference. The errors of a graph, by the reference. Nodes with arguments by a map; a graph in which a leaf is a value. A graph in which a leaf is a value. Two graphs as one. The values of all nodes, in  -/
import Derived.Test.YtglelclmlkeheaaGreatDoorS1

set_option linter.unusedSimpArgs false
set_option linter.unusedVariables false

/- The value of a node by those before it, in the program. -/
namespace Go.Proofs.YtglelclmlkeheaaGreatDoor.V
open Go (IntKind BinOp UnOp)
variable {π : Id}
abbrev argsOf (vs : List Int) (args : List Int) : List Int := args.map fun n => vs.getD n.toNat 0
theorem applied_loop (nodes : List Nod) (vs : List Int) (x : Nod) (hal : x.args.length ≤ 1000) (hin : ∀ n ∈ x.args, 0 ≤ n ∧ n < nodes.length ∧ n < vs.length) :
    ∀ (suf pre : List Int) (y : Env × Sto), x.args = pre ++ suf →
    mask [0, 1, 3, 6, 9, 10, 14, 15, 16] [] y = some ([(0, .p (.ptr opsPV)), (1, .p (encNodes nodes)), (3, .p (encInts vs)), (6, .ref (6 :: π) 0), (9, .ap (1009 :: π)), (10, .ap (1010 :: π)), (14, .p (encInts x.args)), (15, .p (I x.args.length)), (16, .p (I pre.length))], [rowI (1009 :: π) (flagE pre) (widsOf nodes pre), rowI (1010 :: π) (flagE pre) (argsOf vs pre), (6 :: π, boxNd x)]) →
    kpO [0, 6, 9, 10] [8] [] (bkO 0 (iter (round EE iter π [] [0, 1, 3, 6, 9, 10, 14, 15, 16] c_graph_applied_L0) y)) = some (.nm, [(0, .p (.ptr opsPV)), (6, .ref (6 :: π) 0), (9, .ap (1009 :: π)), (10, .ap (1010 :: π))], [rowI (1009 :: π) (flagE x.args) (widsOf nodes x.args), rowI (1010 :: π) (flagE x.args) (argsOf vs x.args), (6 :: π, boxNd x)])
  | [], pre, y, h, hm => by
    rw [loop_eq hm]
    have : x.args = pre := by simpa using h
    simp [u_graph_applied_L0, b_graph_applied_L0, ← this]
  | z :: suf, pre, y, h, hm => by
    rw [loop_eq hm]
    have hlen : pre.length < x.args.length := by rw [h]; simp
    obtain ⟨hz0, hz1, hz2⟩ := hin z (by rw [h]; simp)
    have hlt : z.toNat < nodes.length := by omega
    have hlv : z.toNat < vs.length := by omega
    have hwid : widOf nodes z = nodes[z.toNat].width := by unfold widOf; simp [List.getD, hlt]
    have hgd : vs.getD z.toNat 0 = vs[z.toNat] := by simp [List.getD, hlv]
    have hws := w_succ hlen (show x.args.length ≤ top63 by simp only [top63]; omega)
    have hroom : (widsOf nodes pre).length + 1 ≤ room := by rw [List.length_map]; simp only [room]; omega
    have hroomA : (argsOf vs pre).length + 1 ≤ room := by rw [List.length_map]; simp only [room]; omega
    have hnext := applied_loop nodes vs x hal hin suf (pre ++ [z])
    rw [show (pre ++ [z]).length = pre.length + 1 by simp, flagE_snoc, show widsOf nodes (pre ++ [z]) = widsOf nodes pre ++ [widOf nodes z] by simp, hwid, show argsOf vs (pre ++ [z]) = argsOf vs pre ++ [vs.getD z.toNat 0] by simp, hgd] at hnext
    generalize widsOf nodes pre = R at *
    generalize widsOf nodes x.args = RR at *
    generalize argsOf vs pre = A at *
    generalize argsOf vs x.args = AA at *
    simp [u_graph_applied_L0, b_graph_applied_L0, lt_mid h, get_mid _ h, hz0, hz1, hz2, hlt, hlv, hroom, hroomA, freeze, evRO]
    exact hnext _ (by simp [h]) (by simp [hws])
theorem e_applied (nodes : List Nod) (vs : List Int) (x : Nod) (hal : x.args.length ≤ 1000) (hin : ∀ n ∈ x.args, 0 ≤ n ∧ n < nodes.length ∧ n < vs.length) (ho : 0 ≤ x.op ∧ x.op < 19) (h1 : x.op ≠ 1)
    (hok : x.op.toNat ≠ 0 → AppOk x.op.toNat x (widsOf nodes x.args) (argsOf vs x.args)) :
    EE π n_graph_applied [.p (.ptr opsPV), .p (encNodes nodes), .p (encNode x), .p (encInts vs)] [] = some (.p (I (appK x.op.toNat x (widsOf nodes x.args) (argsOf vs x.args))), []) := by
  have hlp := applied_loop (π := π) nodes vs x hal hin x.args []
  have hk : x.op.toNat < 19 := by omega
  have hrow := ops_row x.op.toNat hk
  rw [opRow_eq hk] at hrow
  have hdl : 5 ≤ opsPV.length - x.op.toNat * 5 := by rw [opsPV_len]; omega
  have hget : opsPV[x.op.toNat * 5 + 4]? = some (.fn (runN x.op.toNat) (runC x.op.toNat)) := by
    have := congrArg (fun l => l[4]?) hrow
    simpa [List.getElem?_take, List.getElem?_drop] using this
  have hrun := fun π => e_run (π := π) hk (by omega) hok
  generalize appK x.op.toNat x (widsOf nodes x.args) (argsOf vs x.args) = r at *
  generalize widsOf nodes x.args = W at *
  generalize argsOf vs x.args = A at *
  simp [e_graph_applied, run_eq, c_graph_applied, thaw, thaw1, ops_fg]
  rw [hlp _ rfl (by simp [flagE])]
  simp [ho.1, ho.2, hdl, hget, hrun, freeze, evRO]
end Go.Proofs.YtglelclmlkeheaaGreatDoor.V

/- The error of a node, and of nodes, by the reference. -/
namespace Go.Proofs.YtglelclmlkeheaaGreatDoor.V
open Go (IntKind BinOp UnOp)
variable {π : Id}
theorem ne_loop (leaves : List Int) (nodes : List Nod) (i : Nat) (hi : i ≤ 100000) (x : Nod) (hal : x.args.length ≤ 1000) :
    ∀ (suf pre : List Int) (y : Env × Sto), x.args = pre ++ suf →
    mask [0, 1, 2, 7, 8] [] y = some ([(0, .p (encInts leaves)), (1, .p (encNodes nodes)), (2, .p (I i)), (7, .ref (7 :: π) 0), (8, .p (I pre.length))], [(7 :: π, boxNd x)]) →
    kpO [0, 1, 7] [6] [] (bkO 0 (iter (round EE iter π [] [0, 1, 2, 7, 8] c_ratchetbase_nodeErr_L0) y)) = (if argsIn i suf = true then some (.nm, [(0, .p (encInts leaves)), (1, .p (encNodes nodes)), (7, .ref (7 :: π) 0)], [(7 :: π, boxNd x)]) else some (.rt, [(6, .p (I 9))], []))
  | [], pre, y, h, hm => by
    rw [loop_eq hm]
    have : x.args = pre := by simpa using h
    simp [u_ratchetbase_nodeErr_L0, b_ratchetbase_nodeErr_L0, ← this, argsIn]
  | z :: suf, pre, y, h, hm => by
    rw [loop_eq hm]
    have hlen : pre.length < x.args.length := by rw [h]; simp
    have hws := w_succ hlen (show x.args.length ≤ top63 by simp only [top63]; omega)
    have hw : IntKind.i64.wrap ((i : Int) - 1) = (i : Int) - 1 := w64 ⟨by omega, by omega⟩
    have hnext := ne_loop leaves nodes i hi x hal suf (pre ++ [z])
    by_cases hz : within z 0 ((i : Int) - 1) = true
    · rw [show argsIn i (z :: suf) = argsIn i suf by simp [argsIn, hz]]
      generalize argsIn i suf = b at *
      simp [u_ratchetbase_nodeErr_L0, b_ratchetbase_nodeErr_L0, lt_mid h, get_mid _ h, hw, e_Within, hz]
      exact hnext _ (by simp [h]) (by simp [hws])
    · rw [show argsIn i (z :: suf) = false by simp [argsIn, hz]]
      simp [u_ratchetbase_nodeErr_L0, b_ratchetbase_nodeErr_L0, lt_mid h, get_mid _ h, hw, e_Within, hz]
theorem e_nodeErr (leaves : List Int) (hl : leaves.length ≤ 1000) (nodes : List Nod) (hnl : nodes.length ≤ 100000) (i : Nat) (x : Nod) (hx : nodes[i]? = some x) (hal : x.args.length ≤ 1000) :
    EE π n_ratchetbase_nodeErr [.p (encInts leaves), .p (encNodes nodes), .p (I i)] [] = some (.p (I (nodeE leaves nodes i x)), []) := by
  have hi := (List.getElem?_eq_some_iff.1 hx).1
  have hx2 := (List.getElem?_eq_some_iff.1 hx).2
  have hlp := ne_loop (π := π) leaves nodes i (by omega) x hal x.args []
  unfold nodeE
  by_cases h1 : within x.op 0 18 = true
  · have h1' := within_iff.1 h1
    by_cases h2 : within x.width 1 16 = true
    · have h2' := within_iff.1 h2
      have hk : x.op.toNat < 19 := by omega
      have hopn : x.op = (x.op.toNat : Int) := by omega
      have hac := fun π => e_ArgCount (π := π) x.op.toNat hk
      rw [← hopn] at hac
      by_cases h3 : x.args.length = argc x.op.toNat
      · have h3' : (x.args.length : Int) = (argc x.op.toNat : Int) := by omega
        by_cases h4 : argsIn i x.args = true
        · rw [h4, if_pos rfl] at hlp
          have hin : ∀ n ∈ x.args, 0 ≤ n ∧ n < (nodes.length : Int) := fun n hn => by
            have := within_iff.1 (List.all_eq_true.1 h4 n hn)
            omega
          rw [show ∀ c d : Int, firstE [unlE (within x.op 0 18) 15, unlE (within x.width 1 16) 2, unlE (decide (x.args.length = argc x.op.toNat)) 10, unlE (argsIn i x.args) 9, c, d] = if c = 0 then (if d = 0 then 0 else d) else c from fun c d => by simp [firstE, unlE, h1, h2, h3, h4]]
          unfold valE
          simp [e_ratchetbase_nodeErr, run_eq, c_ratchetbase_nodeErr, hi, hx2, e_Within, e_IsWidth, h1, h2, hac, h3', freeze, evRO]
          rw [hlp _ rfl (by simp)]
          by_cases o0 : x.op = 0
          · have hfi := fun π => e_Fits (π := π) x.value x.width ⟨by omega, h2'.2⟩
            rw [o0] at h3
            generalize widsOf nodes x.args = W at *
            have : fitB 0 x.width W x.value = true := rfl
            cases hf : fitsB x.value x.width <;> simp [o0, hfi, hf, this, unlE, freeze, evRO]
          · by_cases o1 : x.op = 1
            · generalize widsOf nodes x.args = W at *
              have : fitB 1 x.width W x.value = true := rfl
              have hws : IntKind.i64.wrap ((leaves.length : Int) - 1) = (leaves.length : Int) - 1 := w64 ⟨by omega, by omega⟩
              by_cases hv : within x.value 0 ((leaves.length : Int) - 1) = true
              · have hv' := within_iff.1 hv
                have hlt : x.value.toNat < leaves.length := by omega
                have hlt' : x.value < (leaves.length : Int) := by omega
                by_cases hw : leaves[x.value.toNat] = x.width <;> simp [o1, e_Within, hws, hv, hv'.1, hlt, hlt', hw, this, unlE, freeze, evRO]
              · simp [o1, e_Within, hws, hv, this, unlE, freeze, evRO]
            · have hwf := fun π => e_widthsFit (π := π) nodes hnl x hal hin (x.op.toNat - 2) (by omega) (by omega) (by rw [h3]; congr 1; omega)
              rw [show x.op.toNat - 2 + 2 = x.op.toNat by omega] at hwf
              generalize fitB x.op.toNat x.width (widsOf nodes x.args) x.value = fb at *
              by_cases o14 : x.op = 14
              · simp only [encNode, o14] at hwf
                cases hv : within x.value 0 15 <;> cases fb <;> simp [o14, e_Within, hv, hwf, unlE, freeze, evRO]
              · have hh : hasV x.op.toNat = false := by
                  obtain ⟨k, hk2⟩ : ∃ k, x.op.toNat = k := ⟨_, rfl⟩
                  rw [hk2]; unfold hasV; split <;> first | rfl | omega
                by_cases hv : x.value = 0
                · simp only [encNode, hv] at hwf
                  cases fb <;> simp [o0, o1, o14, hv, hh, hwf, unlE, freeze, evRO]
                · cases fb <;> simp [o0, o1, o14, hv, hh, unlE, freeze, evRO]
        · have h4 : argsIn i x.args = false := by simpa using h4
          rw [h4, if_neg (by simp)] at hlp
          generalize valE leaves x (hasV x.op.toNat) = c at *
          generalize fitB x.op.toNat x.width (widsOf nodes x.args) x.value = fb at *
          simp [e_ratchetbase_nodeErr, run_eq, c_ratchetbase_nodeErr, hi, hx2, e_Within, e_IsWidth, h1, h2, hac, h3', freeze, evRO]
          rw [hlp _ rfl (by simp)]
          simp [firstE, unlE, h1, h2, h3, h4]
      · have h3' : ¬ (x.args.length : Int) = (argc x.op.toNat : Int) := by omega
        generalize valE leaves x (hasV x.op.toNat) = c at *
        generalize fitB x.op.toNat x.width (widsOf nodes x.args) x.value = fb at *
        simp [e_ratchetbase_nodeErr, run_eq, c_ratchetbase_nodeErr, hi, hx2, e_Within, e_IsWidth, h1, h2, hac, h3, h3', freeze, evRO, firstE, unlE]
    · have h2 : within x.width 1 16 = false := by simpa using h2
      simp [e_ratchetbase_nodeErr, run_eq, c_ratchetbase_nodeErr, hi, hx2, e_Within, e_IsWidth, h1, h2, freeze, evRO, firstE, unlE]
  · have h1 : within x.op 0 18 = false := by simpa using h1
    simp [e_ratchetbase_nodeErr, run_eq, c_ratchetbase_nodeErr, hi, hx2, e_Within, h1, freeze, evRO, firstE, unlE]
end Go.Proofs.YtglelclmlkeheaaGreatDoor.V

/- The errors of a graph, by the reference. -/
namespace Go.Proofs.YtglelclmlkeheaaGreatDoor.V
open Go (IntKind BinOp UnOp)
variable {π : Id}
theorem nds_loop (leaves : List Int) (hl : leaves.length ≤ 1000) (nodes : List Nod) (hnl : nodes.length ≤ 100000) (hal : ∀ x ∈ nodes, x.args.length ≤ 1000) : ∀ (suf pre : List Nod) (x : Env × Sto), nodes = pre ++ suf → mask [0, 1, 6] [] x = some ([(0, .p (encInts leaves)), (1, .p (encNodes nodes)), (6, .p (I pre.length))], []) →
    kpO [] [4, 5] [] (bkO 0 (iter (round EE iter π [] [0, 1, 6] c_ratchetbase_NodesErr_L0) x)) = (if (eachE (nodeE leaves nodes) pre.length suf).2 = 0 then some (.nm, [], []) else some (.rt, [(4, .p (I (eachE (nodeE leaves nodes) pre.length suf).1)), (5, .p (I (eachE (nodeE leaves nodes) pre.length suf).2))], []))
  | [], pre, x, h, hm => by
    rw [loop_eq hm]
    subst h
    simp [u_ratchetbase_NodesErr_L0, b_ratchetbase_NodesErr_L0, eachE]
  | y :: suf, pre, x, h, hm => by
    rw [loop_eq hm]
    have hne := fun π => e_nodeErr (π := π) leaves hl nodes hnl pre.length y (by rw [h]; simp) (hal y (by rw [h]; simp))
    have hlt := lt_mid h
    have hnext := nds_loop leaves hl nodes hnl hal suf (pre ++ [y])
    rw [show (pre ++ [y]).length = pre.length + 1 by simp] at hnext
    have he : eachE (nodeE leaves nodes) pre.length (y :: suf) = if nodeE leaves nodes pre.length y = 0 then eachE (nodeE leaves nodes) (pre.length + 1) suf else (pre.length, nodeE leaves nodes pre.length y) := rfl
    rw [he]
    generalize nodeE leaves nodes pre.length y = c at *
    generalize eachE (nodeE leaves nodes) (pre.length + 1) suf = q at *
    by_cases hc : c = 0
    · simp [u_ratchetbase_NodesErr_L0, b_ratchetbase_NodesErr_L0, lt_mid h, hne, hc]
      exact hnext _ (by simp [h]) (by simp [w_succ (lt_nat h) (show nodes.length ≤ top63 by simp only [top63]; omega)])
    · simp [u_ratchetbase_NodesErr_L0, b_ratchetbase_NodesErr_L0, lt_mid h, hne, hc]
theorem e_NodesErrB (leaves : List Int) (hl : leaves.length ≤ 1000) (nodes : List Nod) (hal : ∀ x ∈ nodes, x.args.length ≤ 1000) :
    EE π n_ratchetbase_NodesErr [.p (encInts leaves), .p (encNodes nodes)] [] = some (.p (.tup [I (if 400 < nodes.length then (0, 8) else eachE (nodeE leaves nodes) 0 nodes).1, I (if 400 < nodes.length then (0, 8) else eachE (nodeE leaves nodes) 0 nodes).2]), []) := by
  by_cases h3 : 400 < nodes.length
  · have h3' : (400 : Int) < nodes.length := by omega
    simp [e_ratchetbase_NodesErr, run_eq, c_ratchetbase_NodesErr, h3, h3', freeze, evRO]
  · have h3' : ¬ (400 : Int) < nodes.length := by omega
    simp [e_ratchetbase_NodesErr, run_eq, c_ratchetbase_NodesErr, h3, h3', freeze, evRO]
    rw [nds_loop leaves hl nodes (by omega) hal nodes [] _ rfl (by simp)]
    by_cases hf : (eachE (nodeE leaves nodes) 0 nodes).2 = 0
    · have h1 : (eachE (nodeE leaves nodes) 0 nodes).1 = 0 := eachE_0 _ 0 _ hf
      simp [hf, h1]
    · simp [hf]
theorem lv_loop (leaves : List Int) (hl : leaves.length ≤ 1000) (N : PV) : ∀ (suf pre : List Int) (x : Env × Sto), leaves = pre ++ suf → mask [0, 1, 6] [] x = some ([(0, .p (encInts leaves)), (1, .p N), (6, .p (I pre.length))], []) →
    kpO [0, 1] [4, 5] [] (bkO 0 (iter (round EE iter π [] [0, 1, 6] c_ratchetref02_CheckNodes_L0) x)) = (if (eachE (fun _ n => unlE (within n 1 16) 2) pre.length suf).2 = 0 then some (.nm, [(0, .p (encInts leaves)), (1, .p N)], []) else some (.rt, [(4, .p (I (eachE (fun _ n => unlE (within n 1 16) 2) pre.length suf).1)), (5, .p (I (eachE (fun _ n => unlE (within n 1 16) 2) pre.length suf).2))], []))
  | [], pre, x, h, hm => by
    rw [loop_eq hm]
    subst h
    simp [u_ratchetref02_CheckNodes_L0, b_ratchetref02_CheckNodes_L0, eachE]
  | y :: suf, pre, x, h, hm => by
    rw [loop_eq hm]
    have hnext := lv_loop leaves hl N suf (pre ++ [y])
    rw [show (pre ++ [y]).length = pre.length + 1 by simp] at hnext
    have he : eachE (fun _ n => unlE (within n 1 16) 2) pre.length (y :: suf) = if unlE (within y 1 16) 2 = 0 then eachE (fun _ n => unlE (within n 1 16) 2) (pre.length + 1) suf else (pre.length, unlE (within y 1 16) 2) := rfl
    rw [he]
    generalize eachE (fun _ n => unlE (within n 1 16) 2) (pre.length + 1) suf = q at *
    by_cases hc : within y 1 16 = true
    · simp [u_ratchetref02_CheckNodes_L0, b_ratchetref02_CheckNodes_L0, lt_mid h, get_mid _ h, e_IsWidth, hc, unlE]
      exact hnext _ (by simp [h]) (by simp [w_succ (lt_nat h) (show leaves.length ≤ top63 by simp only [top63]; omega)])
    · simp [u_ratchetref02_CheckNodes_L0, b_ratchetref02_CheckNodes_L0, lt_mid h, get_mid _ h, e_IsWidth, hc, unlE]
theorem e_CheckNodesR (leaves : List Int) (nodes : List Nod) (hal : ∀ x ∈ nodes, x.args.length ≤ 1000) :
    EE π n_ratchetref02_CheckNodes [.p (encInts leaves), .p (encNodes nodes)] [] = some (.p (.tup [I (checkE leaves nodes).1, I (checkE leaves nodes).2]), []) := by
  unfold checkE
  by_cases h1 : 40 < leaves.length
  · have h1' : (40 : Int) < leaves.length := by omega
    simp [e_ratchetref02_CheckNodes, run_eq, c_ratchetref02_CheckNodes, h1, h1', freeze, evRO]
  · have h1' : ¬ (40 : Int) < leaves.length := by omega
    have hlp := lv_loop (π := π) leaves (by omega) (encNodes nodes) leaves []
    have hnb := fun π => e_NodesErrB (π := π) leaves (by omega) nodes hal
    rw [if_neg h1]
    simp [e_ratchetref02_CheckNodes, run_eq, c_ratchetref02_CheckNodes, h1', freeze, evRO]
    rw [hlp _ rfl (by simp)]
    simp only [List.length_nil]
    generalize (if 400 < nodes.length then (0, 8) else eachE (nodeE leaves nodes) 0 nodes) = q at *
    generalize eachE (fun _ n => unlE (within n 1 16) 2) 0 leaves = r at *
    by_cases h2 : r.2 = 0 <;> simp [h2, hnb, freeze, evRO]
theorem e_NodesErr (leaves : List Int) (nodes : List Nod) (hal : ∀ x ∈ nodes, x.args.length ≤ 1000) :
    EE π n_ratchetref02_NodesErr [.p (encInts leaves), .p (encNodes nodes)] [] = some (.p (I (checkE leaves nodes).2), []) := by
  have hc := fun π => e_CheckNodesR (π := π) leaves nodes hal
  simp [e_ratchetref02_NodesErr, run_eq, c_ratchetref02_NodesErr, hc, evRO]
end Go.Proofs.YtglelclmlkeheaaGreatDoor.V

/- Nodes with arguments by a map; a graph in which a leaf is a value. -/
namespace Go.Proofs.YtglelclmlkeheaaGreatDoor.V
open Go (IntKind BinOp UnOp)
variable {π : Id}
abbrev zBox : Blk := .box false [.p (I 0), .p (I 0), .p (.sl 1 (some true) []), .p (I 0)]
theorem mv_loop (x : Nod) (hal : x.args.length ≤ 1000) {f : Nat} {caps : List PV} {g : Int → Int} (hg : ∀ n ∈ x.args, EE (18 :: π) f (.p (I n) :: caps.map fun v => AV.p v.fg) [] = some (.p (I (g n)), [])) :
    ∀ (suf pre : List Int) (y : Env × Sto), x.args = pre ++ suf →
    mask [1, 2, 4, 5, 9, 10, 11] [] y = some ([(1, .p (.fn f caps)), (2, .ref (2 :: π) 0), (4, .ref (4 :: π) 0), (5, .ap (1005 :: π)), (9, .p (encInts x.args)), (10, .p (I x.args.length)), (11, .p (I pre.length))], [rowI (1005 :: π) (flagE pre) (pre.map g), (4 :: π, zBox), (2 :: π, boxNd x)]) →
    kpO [2, 4, 5] [4] [] (bkO 0 (iter (round EE iter π [] [1, 2, 4, 5, 9, 10, 11] c_graph_moved_L0) y)) = some (.nm, [(2, .ref (2 :: π) 0), (4, .ref (4 :: π) 0), (5, .ap (1005 :: π))], [rowI (1005 :: π) (flagE x.args) (x.args.map g), (4 :: π, zBox), (2 :: π, boxNd x)])
  | [], pre, y, h, hm => by
    rw [loop_eq hm]
    have : x.args = pre := by simpa using h
    simp [u_graph_moved_L0, b_graph_moved_L0, ← this]
  | z :: suf, pre, y, h, hm => by
    rw [loop_eq hm]
    have hlen : pre.length < x.args.length := by rw [h]; simp
    have hz := hg z (by rw [h]; simp)
    have hws := w_succ hlen (show x.args.length ≤ top63 by simp only [top63]; omega)
    have hroom : (pre.map g).length + 1 ≤ room := by rw [List.length_map]; simp only [room]; omega
    have hnext := mv_loop x hal hg suf (pre ++ [z])
    rw [show (pre ++ [z]).length = pre.length + 1 by simp, flagE_snoc, show (pre ++ [z]).map g = pre.map g ++ [g z] by simp] at hnext
    generalize pre.map g = R at *
    generalize x.args.map g = RR at *
    generalize g z = gz at *
    simp [u_graph_moved_L0, b_graph_moved_L0, lt_mid h, get_mid _ h, hz, hroom]
    exact hnext _ (by simp [h]) (by simp [hws])
theorem e_moved (x : Nod) (hal : x.args.length ≤ 1000) {f : Nat} {caps : List PV} {g : Int → Int} (hg : ∀ n ∈ x.args, EE (18 :: π) f (.p (I n) :: caps.map fun v => AV.p v.fg) [] = some (.p (I (g n)), [])) :
    EE π n_graph_moved [.p (encNode x), .p (.fn f caps)] [] = some (.agg [.p (I x.op), .p (I x.width), .ap (1005 :: π), .p (I x.value)], [rowI (1005 :: π) (flagE x.args) (x.args.map g)]) := by
  simp [e_graph_moved, run_eq, c_graph_moved, thaw, thaw1]
  rw [mv_loop x hal hg x.args [] _ rfl (by simp [flagE])]
  generalize x.args.map g = R
  simp [PV.setc]
theorem e_constant (w v : Int) : EE π n_graph_constant [.p (I w), .p (I v)] [] = some (.p (.agg [I 0, I w, .sl 1 (some true) [], I v]), []) := by
  simp [e_graph_constant, run_eq, c_graph_constant]
end Go.Proofs.YtglelclmlkeheaaGreatDoor.V

/- A graph in which a leaf is a value. -/
namespace Go.Proofs.YtglelclmlkeheaaGreatDoor.V
open Go (IntKind BinOp UnOp)
variable {π : Id}
abbrev encM (x : Nod) : PV := .agg [I x.op, I x.width, .sl 1 (flagE x.args) (ints x.args), I x.value]
abbrev rowN (i : Id) (nl : Option Bool) (D : List PV) : Id × Blk := (i, .row false t_api_Node 4 nl D)
theorem eachE_all {α : Type} {err : Nat → α → Int} : ∀ {l : List α} {i : Nat}, (eachE err i l).2 = 0 → ∀ k x, l[k]? = some x → err (i + k) x = 0
  | [], i, h, k, x, hk => by simp at hk
  | y :: r, i, h, k, x, hk => by
    simp only [eachE] at h
    split at h
    · rename_i hy
      match k, hk with
      | 0, hk => simp at hk; subst hk; exact hy
      | k + 1, hk => rw [show i + (k + 1) = i + 1 + k by omega]; exact eachE_all h k x (by simpa using hk)
    · rename_i hy; exact absurd h hy
theorem checkE_leaves {leaves : List Int} {nodes : List Nod} (h : (checkE leaves nodes).2 = 0) : leaves.length ≤ 40 ∧ nodes.length ≤ 400 ∧ ∀ n ∈ leaves, 1 ≤ n ∧ n ≤ 16 := by
  unfold checkE at h
  split at h
  · simp at h
  · split at h
    · rename_i h2; exact absurd h h2
    · rename_i h1 h2
      split at h
      · simp at h
      · refine ⟨by omega, by omega, fun n hn => ?_⟩
        obtain ⟨k, hk⟩ := List.mem_iff_getElem?.1 hn
        have := eachE_all (by simpa using h2) k n hk
        exact within_iff.1 ((unlE_z (by decide)).1 this)
end Go.Proofs.YtglelclmlkeheaaGreatDoor.V

/- Two graphs as one. -/
namespace Go.Proofs.YtglelclmlkeheaaGreatDoor.V
open Go (IntKind BinOp UnOp)
variable {π : Id}
theorem flagE_map {α β : Type} (f : α → β) (l : List α) : flagE (l.map f) = flagE l := by cases l <;> rfl
theorem checkE_nodes {leaves : List Int} {nodes : List Nod} (h : (checkE leaves nodes).2 = 0) : ∀ i x, nodes[i]? = some x → nodeE leaves nodes i x = 0 := by
  unfold checkE at h
  split at h
  · simp at h
  · split at h
    · rename_i h2; exact absurd h h2
    · split at h
      · simp at h
      · intro i x hx
        have := eachE_all h i x hx
        simpa using this
theorem nodeE_iff {leaves : List Int} {nodes : List Nod} {i : Nat} {x : Nod} (h : nodeE leaves nodes i x = 0) :
    within x.op 0 18 = true ∧ within x.width 1 16 = true ∧ x.args.length = argc x.op.toNat ∧ argsIn i x.args = true ∧ valE leaves x (hasV x.op.toNat) = 0 ∧ fitB x.op.toNat x.width (widsOf nodes x.args) x.value = true := by
  unfold nodeE at h
  simp only [firstE_cons] at h
  obtain ⟨h1, h2, h3, h4, h5, h6, _⟩ := h
  exact ⟨(unlE_z (by decide)).1 h1, (unlE_z (by decide)).1 h2, by simpa using (unlE_z (by decide)).1 h3, (unlE_z (by decide)).1 h4, h5, (unlE_z (by decide)).1 h6⟩
theorem args_in {leaves : List Int} {nodes : List Nod} (h : (checkE leaves nodes).2 = 0) {i : Nat} {x : Nod} (hx : nodes[i]? = some x) : ∀ n ∈ x.args, 0 ≤ n ∧ n < (i : Int) := fun n hn => by
  have := within_iff.1 (List.all_eq_true.1 (nodeE_iff (checkE_nodes h i x hx)).2.2.2.1 n hn)
  omega
end Go.Proofs.YtglelclmlkeheaaGreatDoor.V

/- The values of all nodes, in plain terms. -/
namespace Go.Proofs.YtglelclmlkeheaaGreatDoor.V
open Go (IntKind BinOp UnOp)
variable {π : Id}
def valN (nodes : List Nod) (L vs : List Int) (x : Nod) : Int :=
  if x.op = 1 then L.getD x.value.toNat 0 else appK x.op.toNat x (widsOf nodes x.args) (argsOf vs x.args)
def valsN (nodes : List Nod) (L : List Int) : List Nod → List Int → List Int
  | [], vs => vs
  | x :: r, vs => valsN nodes L r (vs ++ [valN nodes L vs x])
structure InvV (nodes : List Nod) (k : Nat) (vs : List Int) : Prop where
  len : vs.length = k
  ok : ∀ j, j < k → Okv (vs.getD j 0) (widOf nodes (j : Int))
structure LeafOk (leaves L : List Int) : Prop where
  len : L.length = leaves.length
  ok : ∀ j, j < leaves.length → Okv (L.getD j 0) (leaves.getD j 0)
theorem widOf_get {nodes : List Nod} {j : Nat} {y : Nod} (h : nodes[j]? = some y) : widOf nodes (j : Int) = y.width := by
  unfold widOf
  simp [List.getD, h]
end Go.Proofs.YtglelclmlkeheaaGreatDoor.V

/- Larger graphs, by the reference. -/
namespace Go.Proofs.YtglelclmlkeheaaGreatDoor.V
open Go (IntKind BinOp UnOp)
variable {π : Id}
theorem same_loopN (a : List Nod) (hal : a.length ≤ 1000) (hxa : ∀ x ∈ a, x.args.length ≤ 1000) : ∀ (suf pre : List Nod) (y : Env × Sto), a = pre ++ suf →
    mask [0, 1, 5] [] y = some ([(0, .p (encNodes a)), (1, .p (encNodes a)), (5, .p (I pre.length))], []) →
    kpO [] [4] [] (bkO 0 (iter (round EE iter π [] [0, 1, 5] c_ratchetbase_SameNodes_L0) y)) = some (.nm, [], [])
  | [], pre, y, h, hm => by
    rw [loop_eq hm]
    have : a = pre := by simpa using h
    simp [u_ratchetbase_SameNodes_L0, b_ratchetbase_SameNodes_L0, ← this]
  | z :: suf, pre, y, h, hm => by
    rw [loop_eq hm]
    have hlen : pre.length < a.length := by rw [h]; simp
    have hz := hxa z (by rw [h]; simp)
    have hin := fun π => e_Ints (π := π) z.args z.args (by simp only [top63]; omega)
    simp only [decide_true] at hin
    have hws := w_succ hlen (show a.length ≤ top63 by simp only [top63]; omega)
    have hnext := same_loopN a hal hxa suf (pre ++ [z])
    simp [u_ratchetbase_SameNodes_L0, b_ratchetbase_SameNodes_L0, lt_mid h, get_mid _ h, hin]
    exact hnext _ (by simp [h]) (by simp [hws])
theorem e_SameNodes (a : List Nod) (hal : a.length ≤ 1000) (hxa : ∀ x ∈ a, x.args.length ≤ 1000) : EE π n_ratchetbase_SameNodes [.p (encNodes a), .p (encNodes a)] [] = some (.p (.bool true), []) := by
  simp [e_ratchetbase_SameNodes, run_eq, c_ratchetbase_SameNodes]
  rw [same_loopN a hal hxa a [] _ rfl (by simp)]
  simp
def byN (D : List Int) (x : Nod) : Nod := { x with args := x.args.map fun n => D.getD n.toNat 0 }
theorem rmv_loop (x : Nod) (hal : x.args.length ≤ 1000) (D : List Int) (hin : ∀ n ∈ x.args, 0 ≤ n ∧ n < D.length) :
    ∀ (suf pre : List Int) (y : Env × Sto), x.args = pre ++ suf →
    mask [1, 2, 4, 5, 6] [] y = some ([(1, .p (encInts D)), (2, .ref (2 :: π) 0), (4, .ref (4 :: π) 0), (5, .ap (1005 :: π)), (6, .p (I pre.length))], [rowI (1005 :: π) (flagE pre) (pre.map fun n => D.getD n.toNat 0), (4 :: π, zBox), (2 :: π, boxNd x)]) →
    kpO [2, 4, 5] [4] [] (bkO 0 (iter (round EE iter π [] [1, 2, 4, 5, 6] c_ratchetref02_moved_L0) y)) = some (.nm, [(2, .ref (2 :: π) 0), (4, .ref (4 :: π) 0), (5, .ap (1005 :: π))], [rowI (1005 :: π) (flagE x.args) (x.args.map fun n => D.getD n.toNat 0), (4 :: π, zBox), (2 :: π, boxNd x)])
  | [], pre, y, h, hm => by
    rw [loop_eq hm]
    have : x.args = pre := by simpa using h
    simp [u_ratchetref02_moved_L0, b_ratchetref02_moved_L0, ← this]
  | z :: suf, pre, y, h, hm => by
    rw [loop_eq hm]
    have hlen : pre.length < x.args.length := by rw [h]; simp
    obtain ⟨hz0, hz1⟩ := hin z (by rw [h]; simp)
    have hlt : z.toNat < D.length := by omega
    have hgd : D.getD z.toNat 0 = D[z.toNat] := by simp [List.getD, hlt]
    have hws := w_succ hlen (show x.args.length ≤ top63 by simp only [top63]; omega)
    have hroom : (pre.map fun n => D.getD n.toNat 0).length + 1 ≤ room := by rw [List.length_map]; simp only [room]; omega
    have hnext := rmv_loop x hal D hin suf (pre ++ [z])
    rw [show (pre ++ [z]).length = pre.length + 1 by simp, flagE_snoc, show (pre ++ [z]).map (fun n => D.getD n.toNat 0) = pre.map (fun n => D.getD n.toNat 0) ++ [D.getD z.toNat 0] by simp, hgd] at hnext
    generalize (pre.map fun n => D.getD n.toNat 0) = R at *
    generalize (x.args.map fun n => D.getD n.toNat 0) = RR at *
    simp [u_ratchetref02_moved_L0, b_ratchetref02_moved_L0, lt_mid h, get_mid _ h, hz0, hz1, hlt, hroom]
    exact hnext _ (by simp [h]) (by simp [hws])
theorem e_movedR (x : Nod) (hal : x.args.length ≤ 1000) (D : List Int) (hin : ∀ n ∈ x.args, 0 ≤ n ∧ n < D.length) :
    EE π n_ratchetref02_moved [.p (encNode x), .p (encInts D)] [] = some (.agg [.p (I x.op), .p (I x.width), .ap (1005 :: π), .p (I x.value)], [rowI (1005 :: π) (flagE x.args) (x.args.map fun n => D.getD n.toNat 0)]) := by
  have hlp := rmv_loop (π := π) x hal D hin x.args []
  generalize (x.args.map fun n => D.getD n.toNat 0) = R at *
  simp [e_ratchetref02_moved, run_eq, c_ratchetref02_moved, thaw, thaw1]
  rw [hlp _ rfl (by simp [flagE])]
  simp [PV.setc]
end Go.Proofs.YtglelclmlkeheaaGreatDoor.V

/- A graph folded, and a cone: in plain terms. -/
namespace Go.Proofs.YtglelclmlkeheaaGreatDoor.V
open Go (IntKind BinOp UnOp)
variable {π : Id}
abbrev outAt (out : List Nod) (n : Int) : Nod := out.getD n.toNat nod0
abbrev isC (out : List Nod) (n : Int) : Bool := decide ((outAt out n).op = 0)
def closedB (out : List Nod) (x : Nod) : Bool := decide (x.args ≠ []) && x.args.all (isC out)
abbrev valsOf (out : List Nod) : List Int := out.map fun y => y.value
def foldX (nodes out : List Nod) (x : Nod) : Nod :=
  if closedB out x = true then ⟨0, x.width, [], appK x.op.toNat x (widsOf nodes x.args) (argsOf (valsOf out) x.args)⟩ else x
def foldN (nodes : List Nod) : List Nod → List Nod → List Nod
  | [], out => out
  | x :: r, out => foldN nodes r (out ++ [foldX nodes out x])
structure FoldOk (nodes : List Nod) (k : Nat) (out : List Nod) : Prop where
  len : out.length = k
  wid : ∀ j, j < k → (out.getD j nod0).width = widOf nodes (j : Int)
  con : ∀ j, j < k → (out.getD j nod0).op = 0 → Okv (out.getD j nod0).value (widOf nodes (j : Int))
theorem valsOf_getD (out : List Nod) (j : Nat) : (valsOf out).getD j 0 = (out.getD j nod0).value := by
  unfold valsOf
  rw [List.getD_eq_getElem?_getD, List.getD_eq_getElem?_getD, List.getElem?_map]
  cases out[j]? <;> rfl
theorem app_okF {leaves : List Int} {nodes : List Nod} (hG : ∀ i x, nodes[i]? = some x → nodeE leaves nodes i x = 0) {k : Nat} {out : List Nod} (hI : FoldOk nodes k out) {x : Nod} (hx : nodes[k]? = some x) (hc : closedB out x = true) :
    (2 ≤ x.op.toNat ∧ x.op.toNat < 19) ∧ AppOk x.op.toNat x (widsOf nodes x.args) (argsOf (valsOf out) x.args) := by
  obtain ⟨ho, hw, hl, ha, hv, hf⟩ := nodeE_iff (hG k x hx)
  have ho' := within_iff.1 ho
  have hw' := within_iff.1 hw
  unfold closedB at hc
  simp only [Bool.and_eq_true, decide_eq_true_eq] at hc
  obtain ⟨hne, hall⟩ := hc
  have h2 : 2 ≤ x.op.toNat := by
    rcases Nat.lt_or_ge x.op.toNat 2 with h | h
    · have : argc x.op.toNat = 0 := by
        rcases Nat.eq_zero_or_pos x.op.toNat with h0 | h0
        · rw [h0]; rfl
        · rw [show x.op.toNat = 1 by omega]; rfl
      rw [this] at hl
      exact absurd (List.length_eq_zero_iff.1 hl) hne
    · exact h
  refine ⟨⟨h2, by omega⟩, hw', by rw [List.length_map]; exact hl, by rw [List.length_map]; exact hl, fun i hi => ?_, hf, fun h14 => ?_⟩
  · have hil : i < x.args.length := by omega
    have hn := within_iff.1 (List.all_eq_true.1 ha x.args[i] (List.getElem_mem hil))
    have hcn := List.all_eq_true.1 hall x.args[i] (List.getElem_mem hil)
    simp only [isC, outAt, decide_eq_true_eq] at hcn
    have e1 : (widsOf nodes x.args).getD i 0 = widOf nodes x.args[i] := by simp [List.getD, hil]
    have e2 : (argsOf (valsOf out) x.args).getD i 0 = (valsOf out).getD x.args[i].toNat 0 := by simp [List.getD, hil]
    rw [e1, e2, valsOf_getD]
    have hj : x.args[i].toNat < k := by omega
    have hkl := (List.getElem?_eq_some_iff.1 hx).1
    have hjl : x.args[i].toNat < nodes.length := by omega
    have hy : nodes[x.args[i].toNat]? = some nodes[x.args[i].toNat] := List.getElem?_eq_getElem hjl
    have hcast : ((x.args[i].toNat : Nat) : Int) = x.args[i] := by omega
    have e3 := widOf_get hy
    rw [hcast] at e3
    have hwj := within_iff.1 (nodeE_iff (hG _ _ hy)).2.1
    have hok := hI.con _ hj hcn
    rw [hcast] at hok
    exact ⟨by rw [e3]; exact hwj, hok⟩
  · unfold valE at hv
    rw [if_neg (by omega), if_neg (by omega), if_pos (by omega)] at hv
    exact within_iff.1 ((unlE_z (by decide)).1 hv)
theorem fold_step {leaves : List Int} {nodes : List Nod} (hG : ∀ i x, nodes[i]? = some x → nodeE leaves nodes i x = 0) {k : Nat} {out : List Nod} (hI : FoldOk nodes k out) {x : Nod} (hx : nodes[k]? = some x) : FoldOk nodes (k + 1) (out ++ [foldX nodes out x]) := by
  have hlen := hI.len
  have hlt (j : Nat) (h : j < k) : (out ++ [foldX nodes out x]).getD j nod0 = out.getD j nod0 := by
    simp [List.getD, List.getElem?_append_left (show j < out.length by omega)]
  have hk : (out ++ [foldX nodes out x]).getD k nod0 = foldX nodes out x := by simp [List.getD, ← hlen]
  refine ⟨by simp [hlen], fun j hj => ?_, fun j hj h0 => ?_⟩
  · by_cases h : j < k
    · rw [hlt j h]; exact hI.wid j h
    · have : j = k := by omega
      subst this
      rw [hk, widOf_get hx]
      unfold foldX; split <;> rfl
  · by_cases h : j < k
    · rw [hlt j h] at h0 ⊢; exact hI.con j h h0
    · have : j = k := by omega
      subst this
      rw [hk] at h0 ⊢
      rw [widOf_get hx]
      unfold foldX at h0 ⊢
      split
      · rename_i hc
        obtain ⟨hk2, hok⟩ := app_okF hG hI hx hc
        exact appK_in hk2 hok
      · rename_i hc
        rw [if_neg hc] at h0
        obtain ⟨ho, hw, hl, ha, hv, hf⟩ := nodeE_iff (hG j x hx)
        have hw' := within_iff.1 hw
        unfold valE at hv
        rw [if_pos h0] at hv
        have hfi := (unlE_z (by decide)).1 hv
        unfold fitsB at hfi
        simp only [Bool.and_eq_true, decide_eq_true_eq] at hfi
        have := within_iff.1 hfi.2
        exact ⟨this.1, by omega⟩
theorem FoldOk.zero (nodes : List Nod) : FoldOk nodes 0 [] := ⟨rfl, fun j hj => absurd hj (by simp), fun j hj => absurd hj (by simp)⟩
theorem foldN_len (nodes : List Nod) : ∀ (l out : List Nod), (foldN nodes l out).length = out.length + l.length
  | [], out => by simp [foldN]
  | x :: r, out => by rw [foldN, foldN_len nodes r]; simp; omega
def coneN : List Bool → List Nod → List Nod → List Int → List Nod × List Int
  | b :: B, x :: r, out, to => if b = true then coneN B r (out ++ [byN to x]) (to ++ [(out.length : Int)]) else coneN B r out (to ++ [0])
  | _, _, out, to => (out, to)
theorem getD_zeros (to : List Int) (k j : Nat) : (to ++ List.replicate k 0).getD j 0 = to.getD j 0 := by
  rw [List.getD_eq_getElem?_getD, List.getD_eq_getElem?_getD]
  rcases Nat.lt_or_ge j to.length with h | h
  · rw [List.getElem?_append_left h]
  · rw [List.getElem?_append_right h, List.getElem?_replicate, List.getElem?_eq_none h]
    split <;> rfl
theorem byN_zeros (to : List Int) (k : Nat) (x : Nod) : byN (to ++ List.replicate k 0) x = byN to x := by
  unfold byN
  congr 1
  exact List.map_congr_left fun n _ => getD_zeros to k n.toNat
end Go.Proofs.YtglelclmlkeheaaGreatDoor.V

/- The values of all nodes, in the program. -/
namespace Go.Proofs.YtglelclmlkeheaaGreatDoor.V
open Go (IntKind BinOp UnOp)
variable {π : Id}
@[simp] theorem idsL_p : ∀ l : List PV, AV.ids.AV.idsL (l.map AV.p) = []
  | [] => rfl
  | x :: r => by rw [List.map_cons]; simp only [AV.ids.AV.idsL, AV.ids, idsL_p r]; rfl
theorem mapM_p11 (s : Sto) : ∀ l : List PV, l.mapM (toPV s 11 ∘ AV.p) = some l
  | [] => rfl
  | x :: r => by
    rw [List.mapM_cons, mapM_p11 s r]; rfl
@[simp] theorem kill_p (i : Id) : (AV.kill i ∘ AV.p) = AV.p := rfl
abbrev boxOps : Blk := .box false (opsPV.map AV.p)
end Go.Proofs.YtglelclmlkeheaaGreatDoor.V

/- A graph folded, in the program. -/
namespace Go.Proofs.YtglelclmlkeheaaGreatDoor.V
open Go (IntKind BinOp UnOp)
variable {π : Id}
theorem fgL_M (l : List Nod) : PV.fg.PV.fgL (l.map encM) = l.map encNode := by
  induction l with
  | nil => rfl
  | cons x r ih => simp only [List.map_cons, PV.fg.PV.fgL, ih]; simp
theorem e_folded1 (n : Int) : EE π n_graph_FoldedOf_1 [.p (I n)] [] = some (.p (I n), []) := by
  simp [e_graph_FoldedOf_1, run_eq, c_graph_FoldedOf_1]
theorem e_folded2 (out : List Nod) (n : Int) (h : 0 ≤ n ∧ n < out.length) : EE π n_graph_FoldedOf_2 [.p (I n), .p (.ptr [encNodes out])] [] = some (.p (.bool (!isC out n)), []) := by
  have hlt : n.toNat < out.length := by omega
  have hgd : outAt out n = out[n.toNat] := by simp [outAt, List.getD, hlt]
  unfold isC
  rw [hgd]
  simp [e_graph_FoldedOf_2, run_eq, c_graph_FoldedOf_2, h.1, h.2, hlt]
theorem closed_any (out : List Nod) (x : Nod) : closedB out x = (decide (x.args ≠ []) && !x.args.any fun n => !isC out n) := by
  unfold closedB
  rw [List.not_any_eq_all_not]
  simp
abbrev stFA (π : Id) (fl : Option Bool) (V : List Int) (RM : List PV) : Sto := [rowI (1009 :: π) fl V, rowN (100008 :: π) fl RM, (8 :: π, .box false [.ap (100008 :: π)]), (7 :: π, boxOps)]
abbrev stFB (π : Id) (fl : Option Bool) (V : List Int) (RM : List PV) : Sto := [rowN (100008 :: π) fl RM, (8 :: π, .box false [.ap (100008 :: π)]), rowI (1009 :: π) fl V, (7 :: π, boxOps)]
theorem folded_round {leaves : List Int} {nodes : List Nod} (hG : ∀ i x, nodes[i]? = some x → nodeE leaves nodes i x = 0) (hnl : nodes.length ≤ 400) (hal : ∀ x ∈ nodes, x.args.length ≤ 1000)
    (z : Nod) (suf pre out : List Nod) (h : nodes = pre ++ z :: suf) (hI : FoldOk nodes pre.length out) (S : Sto) (hS : S = stFA π (flagE out) (valsOf out) (out.map encM) ∨ S = stFB π (flagE out) (valsOf out) (out.map encM)) (y : Env × Sto)
    (hm : mask [1, 7, 8, 9, 21, 22, 23] [] y = some ([(1, .p (encNodes nodes)), (7, .ref (7 :: π) 0), (8, .ref (8 :: π) 0), (9, .ap (1009 :: π)), (21, .p (encNodes nodes)), (22, .p (I nodes.length)), (23, .p (I pre.length))], S))
    (R : Ex × Env × Sto) (hnext : ∀ y, mask [1, 7, 8, 9, 21, 22, 23] [] y = some ([(1, .p (encNodes nodes)), (7, .ref (7 :: π) 0), (8, .ref (8 :: π) 0), (9, .ap (1009 :: π)), (21, .p (encNodes nodes)), (22, .p (I nodes.length)), (23, .p (I (pre.length + 1)))], stFB π (flagE (out ++ [foldX nodes out z])) (valsOf (out ++ [foldX nodes out z])) ((out ++ [foldX nodes out z]).map encM)) →
      kpO [8] [4, 5] [] (bkO 0 (iter (round EE iter π [] [1, 7, 8, 9, 21, 22, 23] c_graph_FoldedOf_L0) y)) = some R) :
    kpO [8] [4, 5] [] (bkO 0 (iter (round EE iter π [] [1, 7, 8, 9, 21, 22, 23] c_graph_FoldedOf_L0) y)) = some R := by
  rw [loop_eq hm]
  have hlen : pre.length < nodes.length := by rw [h]; simp
  have hx : nodes[pre.length]? = some z := by rw [h]; simp
  have hza := hal z (by rw [h]; simp)
  have hws := w_succ hlen (show nodes.length ≤ top63 by simp only [top63]; omega)
  have hol := hI.len
  have hroom : out.length + 1 ≤ room := by simp only [room]; omega
  have hRl : (out.map encM).length = out.length := by simp
  have hVl : (valsOf out).length = out.length := by simp
  have hzi : ∀ n ∈ z.args, 0 ≤ n ∧ n < (out.length : Int) := fun n hn => by
    have := within_iff.1 (List.all_eq_true.1 (nodeE_iff (hG _ z hx)).2.2.2.1 n hn)
    omega
  have hmv := fun π => e_moved (π := π) z hza (f := n_graph_FoldedOf_1) (caps := []) (g := fun n => n) (fun n _ => by simpa using e_folded1 n)
  simp only [List.map_id'] at hmv
  have hcf := fun π => e_ContainsFuncI (π := π) z.args (by simp only [top63]; omega) (f := n_graph_FoldedOf_2) (caps := [.ptr [encNodes out]]) (p := fun n => !isC out n) (fun n hn => by
    simpa using e_folded2 (π := 16 :: 7 :: π) out n (hzi n hn))
  have hRf := fgL_M out
  have hca := (closed_any out z).symm
  rw [flagE_snoc, show (out ++ [foldX nodes out z]).map encM = out.map encM ++ [encM (foldX nodes out z)] by simp, show valsOf (out ++ [foldX nodes out z]) = valsOf out ++ [(foldX nodes out z).value] by simp] at hnext
  cases hc : closedB out z with
  | true =>
    obtain ⟨hk, hok⟩ := app_okF hG hI hx hc
    rw [hc] at hca
    simp only [Bool.and_eq_true, decide_eq_true_eq, Bool.not_eq_true'] at hca
    obtain ⟨hne, hb⟩ := hca
    have hp : 0 < z.args.length := List.length_pos_iff.2 hne
    rw [hb] at hcf
    have hap := fun π => e_applied (π := π) nodes (valsOf out) z hza (fun n hn => by have := hzi n hn; omega) ⟨by omega, by omega⟩ (by omega) (fun _ => hok)
    have hfx : foldX nodes out z = ⟨0, z.width, [], appK z.op.toNat z (widsOf nodes z.args) (argsOf (valsOf out) z.args)⟩ := by unfold foldX; rw [if_pos hc]
    rw [hfx] at hnext
    generalize appK z.op.toNat z (widsOf nodes z.args) (argsOf (valsOf out) z.args) = r at *
    have hcs := fun π => e_constant (π := π) z.width r
    generalize valsOf out = V at *
    generalize out.map encM = RM at *
    rcases hS with rfl | rfl
    · simp [u_graph_FoldedOf_L0, b_graph_FoldedOf_L0, lt_mid h, get_mid _ h, hmv, hcf, hRf, hp, hap, hcs, hroom, hRl, hVl, mapM_p11, ops_fg, freeze, evRO]
      exact hnext _ (by simp [hws, flagE])
    · simp [u_graph_FoldedOf_L0, b_graph_FoldedOf_L0, lt_mid h, get_mid _ h, hmv, hcf, hRf, hp, hap, hcs, hroom, hRl, hVl, mapM_p11, ops_fg, freeze, evRO]
      exact hnext _ (by simp [hws, flagE])
  | false =>
    have hfx : foldX nodes out z = z := by unfold foldX; rw [if_neg (by simp [hc])]
    rw [hfx] at hnext
    rw [hc] at hca
    generalize valsOf out = V at *
    generalize out.map encM = RM at *
    by_cases hne : z.args = []
    · have hp : z.args.length = 0 := by rw [hne]; rfl
      rcases hS with rfl | rfl
      · simp [u_graph_FoldedOf_L0, b_graph_FoldedOf_L0, lt_mid h, get_mid _ h, hmv, hcf, hRf, hp, hroom, hRl, hVl, mapM_p11, ops_fg, freeze, evRO]
        exact hnext _ (by simp [hws])
      · simp [u_graph_FoldedOf_L0, b_graph_FoldedOf_L0, lt_mid h, get_mid _ h, hmv, hcf, hRf, hp, hroom, hRl, hVl, mapM_p11, ops_fg, freeze, evRO]
        exact hnext _ (by simp [hws])
    · have hp : 0 < z.args.length := List.length_pos_iff.2 hne
      have hb : (z.args.any fun n => !isC out n) = true := by
        cases hbb : (z.args.any fun n => !isC out n) with
        | true => rfl
        | false => rw [hbb] at hca; simp [hne] at hca
      rw [hb] at hcf
      rcases hS with rfl | rfl
      · simp [u_graph_FoldedOf_L0, b_graph_FoldedOf_L0, lt_mid h, get_mid _ h, hmv, hcf, hRf, hp, hroom, hRl, hVl, mapM_p11, ops_fg, freeze, evRO]
        exact hnext _ (by simp [hws])
      · simp [u_graph_FoldedOf_L0, b_graph_FoldedOf_L0, lt_mid h, get_mid _ h, hmv, hcf, hRf, hp, hroom, hRl, hVl, mapM_p11, ops_fg, freeze, evRO]
        exact hnext _ (by simp [hws])
theorem folded_loop {leaves : List Int} {nodes : List Nod} (hG : ∀ i x, nodes[i]? = some x → nodeE leaves nodes i x = 0) (hnl : nodes.length ≤ 400) (hal : ∀ x ∈ nodes, x.args.length ≤ 1000) :
    ∀ (suf pre out : List Nod) (S : Sto) (y : Env × Sto), nodes = pre ++ suf → FoldOk nodes pre.length out → (S = stFA π (flagE out) (valsOf out) (out.map encM) ∨ S = stFB π (flagE out) (valsOf out) (out.map encM)) →
    mask [1, 7, 8, 9, 21, 22, 23] [] y = some ([(1, .p (encNodes nodes)), (7, .ref (7 :: π) 0), (8, .ref (8 :: π) 0), (9, .ap (1009 :: π)), (21, .p (encNodes nodes)), (22, .p (I nodes.length)), (23, .p (I pre.length))], S) →
    kpO [8] [4, 5] [] (bkO 0 (iter (round EE iter π [] [1, 7, 8, 9, 21, 22, 23] c_graph_FoldedOf_L0) y)) = some (.nm, [(8, .ref (8 :: π) 0)], [rowN (100008 :: π) (flagE (foldN nodes suf out)) ((foldN nodes suf out).map encM), (8 :: π, .box false [.ap (100008 :: π)])])
  | [], pre, out, S, y, h, hI, hS, hm => by
    rw [loop_eq hm]
    have : nodes = pre := by simpa using h
    rcases hS with rfl | rfl <;> simp [u_graph_FoldedOf_L0, b_graph_FoldedOf_L0, ← this, foldN]
  | z :: suf, pre, out, S, y, h, hI, hS, hm => by
    have hx : nodes[pre.length]? = some z := by rw [h]; simp
    have hnext := folded_loop hG hnl hal suf (pre ++ [z]) (out ++ [foldX nodes out z])
    rw [foldN]
    refine folded_round hG hnl hal z suf pre out h hI S hS y hm _ fun y' hm' => ?_
    exact hnext _ y' (by simp [h]) (by rw [List.length_append]; exact fold_step hG hI hx) (.inr rfl) (by rw [hm']; simp)
theorem e_FoldedOf (leaves : List Int) (nodes : List Nod) (hal : ∀ x ∈ nodes, x.args.length ≤ 1000) :
    EE π n_graph_FoldedOf [.p (encInts leaves), .p (encNodes nodes)] [] = if (checkE leaves nodes).2 = 0 then some (.tup [.ap (100008 :: π), .p (I 0)], [rowN (100008 :: π) (flagE (foldN nodes nodes [])) ((foldN nodes nodes []).map encM)])
      else some (.p (.tup [.sl 4 (some true) [], I (checkE leaves nodes).2]), []) := by
  have hge := fun π => e_graphErr (π := π) leaves nodes hal
  have hlp : (checkE leaves nodes).2 = 0 → _ := fun h => folded_loop (π := π) (leaves := leaves) (checkE_nodes h) (checkE_leaves h).2.1 hal nodes [] []
  generalize (checkE leaves nodes).2 = c at *
  by_cases hc : c = 0
  · have hlp := hlp hc
    rw [if_pos hc]
    generalize foldN nodes nodes [] = R at *
    simp [-freeze, -PV.cell1, ops_c1, c1_sl, c1_int, e_graph_FoldedOf, run_eq, c_graph_FoldedOf, hge, hc, e_operations, freeze_ops, freeze_p, mapM_p', ops_fg, opsPV_len, evRO, thaw, thaw1]
    rw [hlp _ _ rfl (FoldOk.zero nodes) (.inl rfl) (by simp [flagE])]
    simp
  · rw [if_neg hc]
    simp [e_graph_FoldedOf, run_eq, c_graph_FoldedOf, hge, hc, freeze, evRO]
end Go.Proofs.YtglelclmlkeheaaGreatDoor.V

/- What a node's operation computes, by the reference. -/
namespace Go.Proofs.YtglelclmlkeheaaGreatDoor.V
open Go (IntKind BinOp UnOp)
variable {π : Id}
theorem e_Apply_2 {x : Nod} (ho : x.op = 2) {w a : List Int} (h : AppOk 2 x w a) (L : AV) :
    EE π n_ratchetbase_Apply [.p (encNode x), .p (encInts a), .p (encInts w), L] [] = some (.p (I (appK 2 x w a)), []) := by
  have hwd := h.wd
  have n0 : ¬ x.op = 0 := by omega
  have n1 : ¬ x.op = 1 := by omega
  have hp := fun π => e_PowerW (π := π) x.width ⟨by omega, by omega⟩
  have hP1 := pw_pos x.width
  have hP2 := pw_le hwd.2
  obtain ⟨a0, rfl, rfl, h0⟩ := ok_not h
  simp only [Okv, appK, List.getD_cons_zero] at h0 ⊢
  generalize pw x.width = P at *
  have hw1 : IntKind.i64.wrap (P - 1) = P - 1 := w64 ⟨by omega, by omega⟩
  have hw2 : IntKind.i64.wrap (P - 1 - a0) = P - 1 - a0 := w64 ⟨by omega, by omega⟩
  simp [e_ratchetbase_Apply, run_eq, c_ratchetbase_Apply, hp, evRO]
  simp [n0]
  simp [n1]
  simp [ho, hw1, hw2, evRO]
theorem e_Apply_3 {x : Nod} (ho : x.op = 3) {w a : List Int} (h : AppOk 3 x w a) (L : AV) :
    EE π n_ratchetbase_Apply [.p (encNode x), .p (encInts a), .p (encInts w), L] [] = some (.p (I (appK 3 x w a)), []) := by
  have hwd := h.wd
  have n0 : ¬ x.op = 0 := by omega
  have n1 : ¬ x.op = 1 := by omega
  have n2 : ¬ x.op = 2 := by omega
  have hp := fun π => e_PowerW (π := π) x.width ⟨by omega, by omega⟩
  have hP1 := pw_pos x.width
  have hP2 := pw_le hwd.2
  obtain ⟨a0, a1, rfl, rfl, h0, h1⟩ := ok_same2 (by omega) h
  have hb : ibits .and .i64 a0 a1 = some (band a0 a1) := rfl
  simp only [appK, List.getD_cons_zero, List.getD_cons_succ]
  generalize pw x.width = P at *
  simp [e_ratchetbase_Apply, run_eq, c_ratchetbase_Apply, hp, evRO]
  simp [n0]
  simp [n1]
  simp [n2]
  simp [ho, hb, evRO]
theorem e_Apply_4 {x : Nod} (ho : x.op = 4) {w a : List Int} (h : AppOk 4 x w a) (L : AV) :
    EE π n_ratchetbase_Apply [.p (encNode x), .p (encInts a), .p (encInts w), L] [] = some (.p (I (appK 4 x w a)), []) := by
  have hwd := h.wd
  have n0 : ¬ x.op = 0 := by omega
  have n1 : ¬ x.op = 1 := by omega
  have n2 : ¬ x.op = 2 := by omega
  have n3 : ¬ x.op = 3 := by omega
  have hp := fun π => e_PowerW (π := π) x.width ⟨by omega, by omega⟩
  have hP1 := pw_pos x.width
  have hP2 := pw_le hwd.2
  obtain ⟨a0, a1, rfl, rfl, h0, h1⟩ := ok_same2 (by omega) h
  have hb : ibits .or .i64 a0 a1 = some (bor a0 a1) := rfl
  simp only [appK, List.getD_cons_zero, List.getD_cons_succ]
  generalize pw x.width = P at *
  simp [e_ratchetbase_Apply, run_eq, c_ratchetbase_Apply, hp, evRO]
  simp [n0]
  simp [n1]
  simp [n2]
  simp [n3]
  simp [ho, hb, evRO]
theorem e_Apply_5 {x : Nod} (ho : x.op = 5) {w a : List Int} (h : AppOk 5 x w a) (L : AV) :
    EE π n_ratchetbase_Apply [.p (encNode x), .p (encInts a), .p (encInts w), L] [] = some (.p (I (appK 5 x w a)), []) := by
  have hwd := h.wd
  have n0 : ¬ x.op = 0 := by omega
  have n1 : ¬ x.op = 1 := by omega
  have n2 : ¬ x.op = 2 := by omega
  have n3 : ¬ x.op = 3 := by omega
  have n4 : ¬ x.op = 4 := by omega
  have hp := fun π => e_PowerW (π := π) x.width ⟨by omega, by omega⟩
  have hP1 := pw_pos x.width
  have hP2 := pw_le hwd.2
  obtain ⟨a0, a1, rfl, rfl, h0, h1⟩ := ok_same2 (by omega) h
  have hb : ibits .xor .i64 a0 a1 = some (bxor a0 a1) := rfl
  simp only [appK, List.getD_cons_zero, List.getD_cons_succ]
  generalize pw x.width = P at *
  simp [e_ratchetbase_Apply, run_eq, c_ratchetbase_Apply, hp, evRO]
  simp [n0]
  simp [n1]
  simp [n2]
  simp [n3]
  simp [n4]
  simp [ho, hb, evRO]
theorem e_Apply_6 {x : Nod} (ho : x.op = 6) {w a : List Int} (h : AppOk 6 x w a) (L : AV) :
    EE π n_ratchetbase_Apply [.p (encNode x), .p (encInts a), .p (encInts w), L] [] = some (.p (I (appK 6 x w a)), []) := by
  have hwd := h.wd
  have n0 : ¬ x.op = 0 := by omega
  have n1 : ¬ x.op = 1 := by omega
  have n2 : ¬ x.op = 2 := by omega
  have n3 : ¬ x.op = 3 := by omega
  have n4 : ¬ x.op = 4 := by omega
  have n5 : ¬ x.op = 5 := by omega
  have hp := fun π => e_PowerW (π := π) x.width ⟨by omega, by omega⟩
  have hP1 := pw_pos x.width
  have hP2 := pw_le hwd.2
  obtain ⟨a0, a1, rfl, rfl, h0, h1⟩ := ok_same2 (by omega) h
  simp only [Okv, appK, List.getD_cons_zero, List.getD_cons_succ] at h0 h1 ⊢
  generalize pw x.width = P at *
  have hw1 : IntKind.i64.wrap (a0 + a1) = a0 + a1 := w64 ⟨by omega, by omega⟩
  have hm : (a0 + a1).tmod P = (a0 + a1) % P := Int.tmod_eq_emod_of_nonneg (by omega)
  have hP0 : ¬ P = 0 := by omega
  simp [e_ratchetbase_Apply, run_eq, c_ratchetbase_Apply, hp, evRO]
  simp [n0]
  simp [n1]
  simp [n2]
  simp [n3]
  simp [n4]
  simp [n5]
  simp [ho, hw1, hm, hP0, evRO]
theorem e_Apply_7 {x : Nod} (ho : x.op = 7) {w a : List Int} (h : AppOk 7 x w a) (L : AV) :
    EE π n_ratchetbase_Apply [.p (encNode x), .p (encInts a), .p (encInts w), L] [] = some (.p (I (appK 7 x w a)), []) := by
  have hwd := h.wd
  have n0 : ¬ x.op = 0 := by omega
  have n1 : ¬ x.op = 1 := by omega
  have n2 : ¬ x.op = 2 := by omega
  have n3 : ¬ x.op = 3 := by omega
  have n4 : ¬ x.op = 4 := by omega
  have n5 : ¬ x.op = 5 := by omega
  have n6 : ¬ x.op = 6 := by omega
  have hp := fun π => e_PowerW (π := π) x.width ⟨by omega, by omega⟩
  have hP1 := pw_pos x.width
  have hP2 := pw_le hwd.2
  obtain ⟨a0, a1, rfl, rfl, h0, h1⟩ := ok_same2 (by omega) h
  simp only [Okv, appK, List.getD_cons_zero, List.getD_cons_succ] at h0 h1 ⊢
  generalize pw x.width = P at *
  have hw1 : IntKind.i64.wrap (a0 - a1) = a0 - a1 := w64 ⟨by omega, by omega⟩
  have hw2 : IntKind.i64.wrap (a0 - a1 + P) = a0 - a1 + P := w64 ⟨by omega, by omega⟩
  have hm : (a0 - a1 + P).tmod P = (a0 - a1) % P := by rw [Int.tmod_eq_emod_of_nonneg (by omega)]; simp
  have hP0 : ¬ P = 0 := by omega
  simp [e_ratchetbase_Apply, run_eq, c_ratchetbase_Apply, hp, evRO]
  simp [n0]
  simp [n1]
  simp [n2]
  simp [n3]
  simp [n4]
  simp [n5]
  simp [n6]
  simp [ho, hw1, hw2, hm, hP0, evRO]
theorem e_Apply_8 {x : Nod} (ho : x.op = 8) {w a : List Int} (h : AppOk 8 x w a) (L : AV) :
    EE π n_ratchetbase_Apply [.p (encNode x), .p (encInts a), .p (encInts w), L] [] = some (.p (I (appK 8 x w a)), []) := by
  have hwd := h.wd
  have n0 : ¬ x.op = 0 := by omega
  have n1 : ¬ x.op = 1 := by omega
  have n2 : ¬ x.op = 2 := by omega
  have n3 : ¬ x.op = 3 := by omega
  have n4 : ¬ x.op = 4 := by omega
  have n5 : ¬ x.op = 5 := by omega
  have n6 : ¬ x.op = 6 := by omega
  have n7 : ¬ x.op = 7 := by omega
  have hp := fun π => e_PowerW (π := π) x.width ⟨by omega, by omega⟩
  have hP1 := pw_pos x.width
  have hP2 := pw_le hwd.2
  obtain ⟨a0, a1, rfl, rfl, h0, h1⟩ := ok_same2 (by omega) h
  simp only [Okv, appK, List.getD_cons_zero, List.getD_cons_succ] at h0 h1 ⊢
  generalize pw x.width = P at *
  have hml := mul_le (a := a0) (m := a1) ⟨h0.1, by omega⟩ ⟨h1.1, by omega⟩
  have hw1 : IntKind.i64.wrap (a0 * a1) = a0 * a1 := w64 ⟨by omega, by omega⟩
  have hm : (a0 * a1).tmod P = a0 * a1 % P := Int.tmod_eq_emod_of_nonneg hml.1
  have hP0 : ¬ P = 0 := by omega
  simp [e_ratchetbase_Apply, run_eq, c_ratchetbase_Apply, hp, evRO]
  simp [n0]
  simp [n1]
  simp [n2]
  simp [n3]
  simp [n4]
  simp [n5]
  simp [n6]
  simp [n7]
  simp [ho, hw1, hm, hP0, evRO]
theorem e_Apply_9 {x : Nod} (ho : x.op = 9) {w a : List Int} (h : AppOk 9 x w a) (L : AV) :
    EE π n_ratchetbase_Apply [.p (encNode x), .p (encInts a), .p (encInts w), L] [] = some (.p (I (appK 9 x w a)), []) := by
  have hwd := h.wd
  have n0 : ¬ x.op = 0 := by omega
  have n1 : ¬ x.op = 1 := by omega
  have n2 : ¬ x.op = 2 := by omega
  have n3 : ¬ x.op = 3 := by omega
  have n4 : ¬ x.op = 4 := by omega
  have n5 : ¬ x.op = 5 := by omega
  have n6 : ¬ x.op = 6 := by omega
  have n7 : ¬ x.op = 7 := by omega
  have n8 : ¬ x.op = 8 := by omega
  have hp := fun π => e_PowerW (π := π) x.width ⟨by omega, by omega⟩
  have hP1 := pw_pos x.width
  have hP2 := pw_le hwd.2
  obtain ⟨a0, a1, w0, rfl, rfl, hw, hww, h0, h1⟩ := ok_rel (by omega) h
  simp only [appK, bitV, List.getD_cons_zero, List.getD_cons_succ]
  generalize pw x.width = P at *
  simp [e_ratchetbase_Apply, run_eq, c_ratchetbase_Apply, hp, evRO]
  simp [n0]
  simp [n1]
  simp [n2]
  simp [n3]
  simp [n4]
  simp [n5]
  simp [n6]
  simp [n7]
  simp [n8]
  by_cases hc : a0 = a1 <;> simp [ho, hc, e_Bit, evRO]
theorem e_Apply_10 {x : Nod} (ho : x.op = 10) {w a : List Int} (h : AppOk 10 x w a) (L : AV) :
    EE π n_ratchetbase_Apply [.p (encNode x), .p (encInts a), .p (encInts w), L] [] = some (.p (I (appK 10 x w a)), []) := by
  have hwd := h.wd
  have n0 : ¬ x.op = 0 := by omega
  have n1 : ¬ x.op = 1 := by omega
  have n2 : ¬ x.op = 2 := by omega
  have n3 : ¬ x.op = 3 := by omega
  have n4 : ¬ x.op = 4 := by omega
  have n5 : ¬ x.op = 5 := by omega
  have n6 : ¬ x.op = 6 := by omega
  have n7 : ¬ x.op = 7 := by omega
  have n8 : ¬ x.op = 8 := by omega
  have n9 : ¬ x.op = 9 := by omega
  have hp := fun π => e_PowerW (π := π) x.width ⟨by omega, by omega⟩
  have hP1 := pw_pos x.width
  have hP2 := pw_le hwd.2
  obtain ⟨a0, a1, w0, rfl, rfl, hw, hww, h0, h1⟩ := ok_rel (by omega) h
  simp only [appK, bitV, List.getD_cons_zero, List.getD_cons_succ]
  generalize pw x.width = P at *
  simp [e_ratchetbase_Apply, run_eq, c_ratchetbase_Apply, hp, evRO]
  simp [n0]
  simp [n1]
  simp [n2]
  simp [n3]
  simp [n4]
  simp [n5]
  simp [n6]
  simp [n7]
  simp [n8]
  simp [n9]
  by_cases hc : a0 < a1 <;> simp [ho, hc, e_Bit, evRO]
theorem e_Apply_11 {x : Nod} (ho : x.op = 11) {w a : List Int} (h : AppOk 11 x w a) (L : AV) :
    EE π n_ratchetbase_Apply [.p (encNode x), .p (encInts a), .p (encInts w), L] [] = some (.p (I (appK 11 x w a)), []) := by
  have hwd := h.wd
  have n0 : ¬ x.op = 0 := by omega
  have n1 : ¬ x.op = 1 := by omega
  have n2 : ¬ x.op = 2 := by omega
  have n3 : ¬ x.op = 3 := by omega
  have n4 : ¬ x.op = 4 := by omega
  have n5 : ¬ x.op = 5 := by omega
  have n6 : ¬ x.op = 6 := by omega
  have n7 : ¬ x.op = 7 := by omega
  have n8 : ¬ x.op = 8 := by omega
  have n9 : ¬ x.op = 9 := by omega
  have n10 : ¬ x.op = 10 := by omega
  have hp := fun π => e_PowerW (π := π) x.width ⟨by omega, by omega⟩
  have hP1 := pw_pos x.width
  have hP2 := pw_le hwd.2
  obtain ⟨a0, a1, w0, rfl, rfl, hw, hww, h0, h1⟩ := ok_rel (by omega) h
  simp only [appK, bitV, List.getD_cons_zero, List.getD_cons_succ]
  have hs0 := fun π => e_SignedR (π := π) a0 w0 hww h0
  have hs1 := fun π => e_SignedR (π := π) a1 w0 hww h1
  generalize pw x.width = P at *
  generalize sgnV a0 w0 = S0 at *
  generalize sgnV a1 w0 = S1 at *
  simp [e_ratchetbase_Apply, run_eq, c_ratchetbase_Apply, hp, evRO]
  simp [n0]
  simp [n1]
  simp [n2]
  simp [n3]
  simp [n4]
  simp [n5]
  simp [n6]
  simp [n7]
  simp [n8]
  simp [n9]
  simp [n10]
  by_cases hc : S0 < S1 <;> simp [ho, hs0, hs1, hc, e_Bit, evRO]
theorem e_Apply_12 {x : Nod} (ho : x.op = 12) {w a : List Int} (h : AppOk 12 x w a) (L : AV) :
    EE π n_ratchetbase_Apply [.p (encNode x), .p (encInts a), .p (encInts w), L] [] = some (.p (I (appK 12 x w a)), []) := by
  have hwd := h.wd
  have n0 : ¬ x.op = 0 := by omega
  have n1 : ¬ x.op = 1 := by omega
  have n2 : ¬ x.op = 2 := by omega
  have n3 : ¬ x.op = 3 := by omega
  have n4 : ¬ x.op = 4 := by omega
  have n5 : ¬ x.op = 5 := by omega
  have n6 : ¬ x.op = 6 := by omega
  have n7 : ¬ x.op = 7 := by omega
  have n8 : ¬ x.op = 8 := by omega
  have n9 : ¬ x.op = 9 := by omega
  have n10 : ¬ x.op = 10 := by omega
  have n11 : ¬ x.op = 11 := by omega
  have hp := fun π => e_PowerW (π := π) x.width ⟨by omega, by omega⟩
  have hP1 := pw_pos x.width
  have hP2 := pw_le hwd.2
  obtain ⟨a0, a1, a2, rfl, rfl, h1, h2⟩ := ok_mux h
  simp only [appK, List.getD_cons_zero, List.getD_cons_succ]
  generalize pw x.width = P at *
  simp [e_ratchetbase_Apply, run_eq, c_ratchetbase_Apply, hp, evRO]
  simp [n0]
  simp [n1]
  simp [n2]
  simp [n3]
  simp [n4]
  simp [n5]
  simp [n6]
  simp [n7]
  simp [n8]
  simp [n9]
  simp [n10]
  simp [n11]
  by_cases hc : a0 = 1 <;> simp [ho, hc, evRO]
theorem e_Apply_13 {x : Nod} (ho : x.op = 13) {w a : List Int} (h : AppOk 13 x w a) (L : AV) :
    EE π n_ratchetbase_Apply [.p (encNode x), .p (encInts a), .p (encInts w), L] [] = some (.p (I (appK 13 x w a)), []) := by
  have hwd := h.wd
  have n0 : ¬ x.op = 0 := by omega
  have n1 : ¬ x.op = 1 := by omega
  have n2 : ¬ x.op = 2 := by omega
  have n3 : ¬ x.op = 3 := by omega
  have n4 : ¬ x.op = 4 := by omega
  have n5 : ¬ x.op = 5 := by omega
  have n6 : ¬ x.op = 6 := by omega
  have n7 : ¬ x.op = 7 := by omega
  have n8 : ¬ x.op = 8 := by omega
  have n9 : ¬ x.op = 9 := by omega
  have n10 : ¬ x.op = 10 := by omega
  have n11 : ¬ x.op = 11 := by omega
  have n12 : ¬ x.op = 12 := by omega
  have hp := fun π => e_PowerW (π := π) x.width ⟨by omega, by omega⟩
  have hP1 := pw_pos x.width
  have hP2 := pw_le hwd.2
  obtain ⟨a0, a1, w0, w1, rfl, rfl, hw, hw0, hw1, h0, h1⟩ := ok_join h
  simp only [appK, List.getD_cons_zero, List.getD_cons_succ]
  have hpw := fun π => e_PowerW (π := π) w1 ⟨by omega, by omega⟩
  have hpl := pw_le (show w0 ≤ 16 by omega)
  have hpl1 := pw_le (show w1 ≤ 16 by omega)
  have hml := mul_le (a := a0) (m := pw w1) ⟨h0.1, by omega⟩ ⟨Int.le_of_lt (pw_pos w1), hpl1⟩
  have hwa : IntKind.i64.wrap (a0 * pw w1) = a0 * pw w1 := w64 ⟨by omega, by omega⟩
  have hwb : IntKind.i64.wrap (a0 * pw w1 + a1) = a0 * pw w1 + a1 := w64 ⟨by omega, by omega⟩
  generalize pw x.width = P at *
  generalize pw w1 = P1 at *
  simp [e_ratchetbase_Apply, run_eq, c_ratchetbase_Apply, hp, evRO]
  simp [n0]
  simp [n1]
  simp [n2]
  simp [n3]
  simp [n4]
  simp [n5]
  simp [n6]
  simp [n7]
  simp [n8]
  simp [n9]
  simp [n10]
  simp [n11]
  simp [n12]
  simp [ho, hpw, hwa, hwb, evRO]
theorem e_Apply_14 {x : Nod} (ho : x.op = 14) {w a : List Int} (h : AppOk 14 x w a) (L : AV) :
    EE π n_ratchetbase_Apply [.p (encNode x), .p (encInts a), .p (encInts w), L] [] = some (.p (I (appK 14 x w a)), []) := by
  have hwd := h.wd
  have n0 : ¬ x.op = 0 := by omega
  have n1 : ¬ x.op = 1 := by omega
  have n2 : ¬ x.op = 2 := by omega
  have n3 : ¬ x.op = 3 := by omega
  have n4 : ¬ x.op = 4 := by omega
  have n5 : ¬ x.op = 5 := by omega
  have n6 : ¬ x.op = 6 := by omega
  have n7 : ¬ x.op = 7 := by omega
  have n8 : ¬ x.op = 8 := by omega
  have n9 : ¬ x.op = 9 := by omega
  have n10 : ¬ x.op = 10 := by omega
  have n11 : ¬ x.op = 11 := by omega
  have n12 : ¬ x.op = 12 := by omega
  have n13 : ¬ x.op = 13 := by omega
  have hp := fun π => e_PowerW (π := π) x.width ⟨by omega, by omega⟩
  have hP1 := pw_pos x.width
  have hP2 := pw_le hwd.2
  obtain ⟨a0, w0, rfl, rfl, hw, h0⟩ := ok_slice h
  have hv := h.val rfl
  simp only [appK, List.getD_cons_zero, List.getD_cons_succ]
  have hpw := fun π => e_PowerW (π := π) x.value ⟨by omega, by omega⟩
  have hpv := pw_pos x.value
  have hpl := pw_le hw.2
  have hd : a0.tdiv (pw x.value) = a0 / pw x.value := Int.tdiv_eq_ediv_of_nonneg h0.1
  have hd0 := Int.ediv_nonneg h0.1 (Int.le_of_lt hpv)
  have hd1 := Int.ediv_le_self (pw x.value) h0.1
  have hwq : IntKind.i64.wrap (a0 / pw x.value) = a0 / pw x.value := w64 ⟨by omega, by omega⟩
  have hm : (a0 / pw x.value).tmod (pw x.width) = a0 / pw x.value % pw x.width := Int.tmod_eq_emod_of_nonneg hd0
  have hP0 : ¬ pw x.width = 0 := by omega
  have hV0 : ¬ pw x.value = 0 := by omega
  generalize pw x.width = P at *
  generalize pw x.value = V at *
  simp [e_ratchetbase_Apply, run_eq, c_ratchetbase_Apply, hp, evRO]
  simp [n0]
  simp [n1]
  simp [n2]
  simp [n3]
  simp [n4]
  simp [n5]
  simp [n6]
  simp [n7]
  simp [n8]
  simp [n9]
  simp [n10]
  simp [n11]
  simp [n12]
  simp [n13]
  simp [ho, hpw, hd, hwq, hm, hP0, hV0, evRO]
theorem e_Apply_15 {x : Nod} (ho : x.op = 15) {w a : List Int} (h : AppOk 15 x w a) (L : AV) :
    EE π n_ratchetbase_Apply [.p (encNode x), .p (encInts a), .p (encInts w), L] [] = some (.p (I (appK 15 x w a)), []) := by
  have hwd := h.wd
  have n0 : ¬ x.op = 0 := by omega
  have n1 : ¬ x.op = 1 := by omega
  have n2 : ¬ x.op = 2 := by omega
  have n3 : ¬ x.op = 3 := by omega
  have n4 : ¬ x.op = 4 := by omega
  have n5 : ¬ x.op = 5 := by omega
  have n6 : ¬ x.op = 6 := by omega
  have n7 : ¬ x.op = 7 := by omega
  have n8 : ¬ x.op = 8 := by omega
  have n9 : ¬ x.op = 9 := by omega
  have n10 : ¬ x.op = 10 := by omega
  have n11 : ¬ x.op = 11 := by omega
  have n12 : ¬ x.op = 12 := by omega
  have n13 : ¬ x.op = 13 := by omega
  have n14 : ¬ x.op = 14 := by omega
  have hp := fun π => e_PowerW (π := π) x.width ⟨by omega, by omega⟩
  have hP1 := pw_pos x.width
  have hP2 := pw_le hwd.2
  obtain ⟨a0, w0, rfl, rfl, hw, hle, h0⟩ := ok_extN (by omega) h
  simp only [appK, List.getD_cons_zero]
  generalize pw x.width = P at *
  simp [e_ratchetbase_Apply, run_eq, c_ratchetbase_Apply, hp, evRO]
  simp [n0]
  simp [n1]
  simp [n2]
  simp [n3]
  simp [n4]
  simp [n5]
  simp [n6]
  simp [n7]
  simp [n8]
  simp [n9]
  simp [n10]
  simp [n11]
  simp [n12]
  simp [n13]
  simp [n14]
  simp [ho, evRO]
theorem e_Apply_16 {x : Nod} (ho : x.op = 16) {w a : List Int} (h : AppOk 16 x w a) (L : AV) :
    EE π n_ratchetbase_Apply [.p (encNode x), .p (encInts a), .p (encInts w), L] [] = some (.p (I (appK 16 x w a)), []) := by
  have hwd := h.wd
  have n0 : ¬ x.op = 0 := by omega
  have n1 : ¬ x.op = 1 := by omega
  have n2 : ¬ x.op = 2 := by omega
  have n3 : ¬ x.op = 3 := by omega
  have n4 : ¬ x.op = 4 := by omega
  have n5 : ¬ x.op = 5 := by omega
  have n6 : ¬ x.op = 6 := by omega
  have n7 : ¬ x.op = 7 := by omega
  have n8 : ¬ x.op = 8 := by omega
  have n9 : ¬ x.op = 9 := by omega
  have n10 : ¬ x.op = 10 := by omega
  have n11 : ¬ x.op = 11 := by omega
  have n12 : ¬ x.op = 12 := by omega
  have n13 : ¬ x.op = 13 := by omega
  have n14 : ¬ x.op = 14 := by omega
  have n15 : ¬ x.op = 15 := by omega
  have hp := fun π => e_PowerW (π := π) x.width ⟨by omega, by omega⟩
  have hP1 := pw_pos x.width
  have hP2 := pw_le hwd.2
  obtain ⟨a0, w0, rfl, rfl, hw, hle, h0⟩ := ok_extN (by omega) h
  simp only [appK, List.getD_cons_zero]
  have hs0 := fun π => e_SignedR (π := π) a0 w0 hw h0
  have hmo := pw_mono hle
  have hsg : - pw w0 ≤ sgnV a0 w0 ∧ sgnV a0 w0 < pw w0 := by
    have := h0.1
    have := h0.2
    have := pw_pos w0
    unfold sgnV; split <;> omega
  generalize sgnV a0 w0 = S0 at *
  generalize pw x.width = P at *
  have hw2 : IntKind.i64.wrap (S0 + P) = S0 + P := w64 ⟨by omega, by omega⟩
  have hm : (S0 + P).tmod P = S0 % P := by rw [Int.tmod_eq_emod_of_nonneg (by omega)]; simp
  have hP0 : ¬ P = 0 := by omega
  simp [e_ratchetbase_Apply, run_eq, c_ratchetbase_Apply, hp, evRO]
  simp [n0]
  simp [n1]
  simp [n2]
  simp [n3]
  simp [n4]
  simp [n5]
  simp [n6]
  simp [n7]
  simp [n8]
  simp [n9]
  simp [n10]
  simp [n11]
  simp [n12]
  simp [n13]
  simp [n14]
  simp [n15]
  simp [ho, hs0, hw2, hm, hP0, evRO]
theorem e_Apply_17 {x : Nod} (ho : x.op = 17) {w a : List Int} (h : AppOk 17 x w a) (L : AV) :
    EE π n_ratchetbase_Apply [.p (encNode x), .p (encInts a), .p (encInts w), L] [] = some (.p (I (appK 17 x w a)), []) := by
  have hwd := h.wd
  have n0 : ¬ x.op = 0 := by omega
  have n1 : ¬ x.op = 1 := by omega
  have n2 : ¬ x.op = 2 := by omega
  have n3 : ¬ x.op = 3 := by omega
  have n4 : ¬ x.op = 4 := by omega
  have n5 : ¬ x.op = 5 := by omega
  have n6 : ¬ x.op = 6 := by omega
  have n7 : ¬ x.op = 7 := by omega
  have n8 : ¬ x.op = 8 := by omega
  have n9 : ¬ x.op = 9 := by omega
  have n10 : ¬ x.op = 10 := by omega
  have n11 : ¬ x.op = 11 := by omega
  have n12 : ¬ x.op = 12 := by omega
  have n13 : ¬ x.op = 13 := by omega
  have n14 : ¬ x.op = 14 := by omega
  have n15 : ¬ x.op = 15 := by omega
  have n16 : ¬ x.op = 16 := by omega
  have hp := fun π => e_PowerW (π := π) x.width ⟨by omega, by omega⟩
  have hP1 := pw_pos x.width
  have hP2 := pw_le hwd.2
  obtain ⟨a0, a1, w1, rfl, rfl, hw, h0, h1⟩ := ok_shift (by omega) h
  simp only [appK, shlV, List.getD_cons_zero, List.getD_cons_succ]
  by_cases hc : x.width ≤ a1
  · generalize pw x.width = P at *
    simp [e_ratchetbase_Apply, run_eq, c_ratchetbase_Apply, hp, evRO]
    simp [n0]
    simp [n1]
    simp [n2]
    simp [n3]
    simp [n4]
    simp [n5]
    simp [n6]
    simp [n7]
    simp [n8]
    simp [n9]
    simp [n10]
    simp [n11]
    simp [n12]
    simp [n13]
    simp [n14]
    simp [n15]
    simp [n16]
    simp [ho, hc, evRO]
  · have hpw := fun π => e_PowerW (π := π) a1 ⟨h1.1, by omega⟩
    have hml := mul_le (a := a0) (m := pw a1) ⟨h0.1, by have := h0.2; omega⟩ ⟨Int.le_of_lt (pw_pos a1), pw_le (by omega)⟩
    have hwa : IntKind.i64.wrap (a0 * pw a1) = a0 * pw a1 := w64 ⟨by omega, by omega⟩
    have hm : (a0 * pw a1).tmod (pw x.width) = a0 * pw a1 % pw x.width := Int.tmod_eq_emod_of_nonneg hml.1
    have hP0 : ¬ pw x.width = 0 := by omega
    generalize pw x.width = P at *
    generalize pw a1 = P1 at *
    simp [e_ratchetbase_Apply, run_eq, c_ratchetbase_Apply, hp, evRO]
    simp [n0]
    simp [n1]
    simp [n2]
    simp [n3]
    simp [n4]
    simp [n5]
    simp [n6]
    simp [n7]
    simp [n8]
    simp [n9]
    simp [n10]
    simp [n11]
    simp [n12]
    simp [n13]
    simp [n14]
    simp [n15]
    simp [n16]
    simp [ho, hc, hpw, hwa, hm, hP0, evRO]
theorem e_Apply_18 {x : Nod} (ho : x.op = 18) {w a : List Int} (h : AppOk 18 x w a) (L : AV) :
    EE π n_ratchetbase_Apply [.p (encNode x), .p (encInts a), .p (encInts w), L] [] = some (.p (I (appK 18 x w a)), []) := by
  have hwd := h.wd
  have n0 : ¬ x.op = 0 := by omega
  have n1 : ¬ x.op = 1 := by omega
  have n2 : ¬ x.op = 2 := by omega
  have n3 : ¬ x.op = 3 := by omega
  have n4 : ¬ x.op = 4 := by omega
  have n5 : ¬ x.op = 5 := by omega
  have n6 : ¬ x.op = 6 := by omega
  have n7 : ¬ x.op = 7 := by omega
  have n8 : ¬ x.op = 8 := by omega
  have n9 : ¬ x.op = 9 := by omega
  have n10 : ¬ x.op = 10 := by omega
  have n11 : ¬ x.op = 11 := by omega
  have n12 : ¬ x.op = 12 := by omega
  have n13 : ¬ x.op = 13 := by omega
  have n14 : ¬ x.op = 14 := by omega
  have n15 : ¬ x.op = 15 := by omega
  have n16 : ¬ x.op = 16 := by omega
  have n17 : ¬ x.op = 17 := by omega
  have hp := fun π => e_PowerW (π := π) x.width ⟨by omega, by omega⟩
  have hP1 := pw_pos x.width
  have hP2 := pw_le hwd.2
  obtain ⟨a0, a1, w1, rfl, rfl, hw, h0, h1⟩ := ok_shift (by omega) h
  simp only [appK, shrV, List.getD_cons_zero, List.getD_cons_succ]
  by_cases hc : x.width ≤ a1
  · generalize pw x.width = P at *
    simp [e_ratchetbase_Apply, run_eq, c_ratchetbase_Apply, hp, evRO]
    simp [n0]
    simp [n1]
    simp [n2]
    simp [n3]
    simp [n4]
    simp [n5]
    simp [n6]
    simp [n7]
    simp [n8]
    simp [n9]
    simp [n10]
    simp [n11]
    simp [n12]
    simp [n13]
    simp [n14]
    simp [n15]
    simp [n16]
    simp [n17]
    simp [ho, hc, evRO]
  · have hpw := fun π => e_PowerW (π := π) a1 ⟨h1.1, by omega⟩
    have hpv := pw_pos a1
    have hd : a0.tdiv (pw a1) = a0 / pw a1 := Int.tdiv_eq_ediv_of_nonneg h0.1
    have hd0 := Int.ediv_nonneg h0.1 (Int.le_of_lt hpv)
    have hd1 := Int.ediv_le_self (pw a1) h0.1
    have hwq : IntKind.i64.wrap (a0 / pw a1) = a0 / pw a1 := w64 ⟨by omega, by have := h0.2; omega⟩
    have hV0 : ¬ pw a1 = 0 := by omega
    generalize pw x.width = P at *
    generalize pw a1 = V at *
    simp [e_ratchetbase_Apply, run_eq, c_ratchetbase_Apply, hp, evRO]
    simp [n0]
    simp [n1]
    simp [n2]
    simp [n3]
    simp [n4]
    simp [n5]
    simp [n6]
    simp [n7]
    simp [n8]
    simp [n9]
    simp [n10]
    simp [n11]
    simp [n12]
    simp [n13]
    simp [n14]
    simp [n15]
    simp [n16]
    simp [n17]
    simp [ho, hc, hpw, hd, hwq, hV0, evRO]
theorem e_ApplyK {k : Nat} (hk : 2 ≤ k ∧ k < 19) {x : Nod} (ho : x.op = (k : Int)) {w a : List Int} (h : AppOk k x w a) (L : AV) :
    EE π n_ratchetbase_Apply [.p (encNode x), .p (encInts a), .p (encInts w), L] [] = some (.p (I (appK k x w a)), []) := by
  match k, hk with
  | 2, _ => exact e_Apply_2 ho h L
  | 3, _ => exact e_Apply_3 ho h L
  | 4, _ => exact e_Apply_4 ho h L
  | 5, _ => exact e_Apply_5 ho h L
  | 6, _ => exact e_Apply_6 ho h L
  | 7, _ => exact e_Apply_7 ho h L
  | 8, _ => exact e_Apply_8 ho h L
  | 9, _ => exact e_Apply_9 ho h L
  | 10, _ => exact e_Apply_10 ho h L
  | 11, _ => exact e_Apply_11 ho h L
  | 12, _ => exact e_Apply_12 ho h L
  | 13, _ => exact e_Apply_13 ho h L
  | 14, _ => exact e_Apply_14 ho h L
  | 15, _ => exact e_Apply_15 ho h L
  | 16, _ => exact e_Apply_16 ho h L
  | 17, _ => exact e_Apply_17 ho h L
  | 18, _ => exact e_Apply_18 ho h L
  | k + 19, hk => exact absurd hk.2 (by omega)
end Go.Proofs.YtglelclmlkeheaaGreatDoor.V

/- A graph folded, by the reference. -/
namespace Go.Proofs.YtglelclmlkeheaaGreatDoor.V
open Go (IntKind BinOp UnOp)
variable {π : Id}
abbrev encY (fl : Option Bool) (y : Nod) : PV := .agg [I y.op, I y.width, .sl 1 fl (ints y.args), I y.value]
def encFx (nodes out : List Nod) (x : Nod) : PV := encY (some (closedB out x)) (foldX nodes out x)
def foldP (nodes : List Nod) : List Nod → List Nod → List PV → List PV
  | [], _, R => R
  | x :: r, out, R => foldP nodes r (out ++ [foldX nodes out x]) (R ++ [encFx nodes out x])
theorem fgL_snoc : ∀ (a : List PV) (b : PV), PV.fg.PV.fgL (a ++ [b]) = PV.fg.PV.fgL a ++ [b.fg]
  | [], b => rfl
  | x :: r, b => by rw [List.cons_append]; simp only [PV.fg.PV.fgL]; rw [fgL_snoc r b, List.cons_append]
theorem fgL_foldP (nodes : List Nod) : ∀ (l out : List Nod) (R : List PV), PV.fg.PV.fgL R = out.map encNode → PV.fg.PV.fgL (foldP nodes l out R) = (foldN nodes l out).map encNode
  | [], out, R, h => h
  | x :: r, out, R, h => by
    rw [foldP, foldN]
    refine fgL_foldP nodes r _ _ ?_
    rw [fgL_snoc, h, List.map_append]
    simp [encFx]
structure RowF (out : List Nod) (R : List PV) : Prop where
  len : R.length = out.length
  at_ : ∀ (i : Nat) (y : Nod), out[i]? = some y → ∃ fl, R[i]? = some (encY fl y)
theorem RowF.snoc {out : List Nod} {R : List PV} (h : RowF out R) (fl : Option Bool) (y : Nod) : RowF (out ++ [y]) (R ++ [encY fl y]) := by
  have hl := h.len
  refine ⟨by simp [hl], fun i z hz => ?_⟩
  rcases Nat.lt_or_ge i out.length with hi | hi
  · rw [List.getElem?_append_left hi] at hz
    obtain ⟨fl', h2⟩ := h.at_ i z hz
    exact ⟨fl', by rw [List.getElem?_append_left (by omega)]; exact h2⟩
  · have : i = out.length := by
      have := (List.getElem?_eq_some_iff.1 hz).1
      simp at this; omega
    subst this
    have : y = z := by simpa using hz
    subst this
    exact ⟨fl, by rw [← hl]; simp⟩
abbrev colV (out : List Nod) (l : List Int) : List Int := (l.filter (isC out)).map fun n => (outAt out n).value
abbrev colW (out : List Nod) (l : List Int) : List Int := (l.filter (isC out)).map fun n => (outAt out n).width
theorem colV_snoc {out : List Nod} (l : List Int) (n : Int) : colV out (l ++ [n]) = colV out l ++ (if isC out n = true then [(outAt out n).value] else []) := by
  simp only [colV, List.filter_append, List.map_append]
  congr 1
  by_cases h : isC out n = true <;> simp [h]
theorem colW_snoc {out : List Nod} (l : List Int) (n : Int) : colW out (l ++ [n]) = colW out l ++ (if isC out n = true then [(outAt out n).width] else []) := by
  simp only [colW, List.filter_append, List.map_append]
  congr 1
  by_cases h : isC out n = true <;> simp [h]
abbrev stR (π : Id) (b : Bool) (fl : Option Bool) (V W : List Int) (T : List PV) : Sto := bif b then [rowI (1005 :: π) fl V, rowI (1006 :: π) fl W, rowN (7 :: 10 :: π) (some false) T] else [rowI (1006 :: π) fl W, rowI (1005 :: π) fl V, rowN (7 :: 10 :: π) (some false) T]
set_option maxHeartbeats 1000000 in
theorem rfold_args (out : List Nod) (hol : out.length ≤ 1000) (T : List PV) (hT : ∀ (i : Nat) (y : Nod), out[i]? = some y → ∃ fl, T[i]? = some (encY fl y)) (hTl : out.length < T.length) (args : List Int) (hal : args.length ≤ 1000) (o w v : Int) (hx : T[out.length]? = some (.agg [I o, I w, .sl 1 (some false) (ints args), I v])) (hin : ∀ n ∈ args, 0 ≤ n ∧ n < (out.length : Int)) :
    ∀ (suf pre : List Int) (b : Bool) (y : Env × Sto), args = pre ++ suf →
    mask [3, 4, 5, 6, 7] [] y = some ([(3, .ap (7 :: 10 :: π)), (4, .p (I out.length)), (5, .ap (1005 :: π)), (6, .ap (1006 :: π)), (7, .p (I pre.length))], stR π b (flagE (colV out pre)) (colV out pre) (colW out pre) T) →
    kpO [3, 4, 5, 6] [2] [] (bkO 2 (iter (round EE iter π [] [3, 4, 5, 6, 7] c_ratchetref02_Folded_L1) y)) = some (.nm, [(3, .ap (7 :: 10 :: π)), (4, .p (I out.length)), (5, .ap (1005 :: π)), (6, .ap (1006 :: π))], stR π (b || suf.any (isC out)) (flagE (colV out args)) (colV out args) (colW out args) T)
  | [], pre, b, y, h, hm => by
    rw [loop_eq hm]
    have : args = pre := by simpa using h
    subst this
    have hxg := (List.getElem?_eq_some_iff.1 hx).2
    generalize colV out args = V at *
    generalize colW out args = W at *
    cases b <;> simp [u_ratchetref02_Folded_L1, b_ratchetref02_Folded_L1, hTl, hxg]
  | z :: suf, pre, b, y, h, hm => by
    rw [loop_eq hm]
    have hlen : pre.length < args.length := by rw [h]; simp
    obtain ⟨hz0, hz1⟩ := hin z (by rw [h]; simp)
    have hws := w_succ hlen (show args.length ≤ top63 by simp only [top63]; omega)
    have hlt : z.toNat < out.length := by omega
    have hy : out[z.toNat]? = some (outAt out z) := by
      unfold outAt; simp [List.getD, hlt]
    obtain ⟨fl, hTz⟩ := hT z.toNat _ hy
    have hzT : z < (T.length : Int) := by omega
    have hxg := (List.getElem?_eq_some_iff.1 hx).2
    have hzl : z.toNat < T.length := by omega
    have hzg : T[z.toNat] = _ := (List.getElem?_eq_some_iff.1 hTz).2
    have hroom : (colV out pre).length + 1 ≤ room := by
      have := List.length_filter_le (isC out) pre
      rw [List.length_map]; simp only [room]; omega
    have hroomW : (colW out pre).length + 1 ≤ room := by
      have := List.length_filter_le (isC out) pre
      rw [List.length_map]; simp only [room]; omega
    have hnext := rfold_args out hol T hT hTl args hal o w v hx hin suf (pre ++ [z])
    rw [show (pre ++ [z]).length = pre.length + 1 by simp, colV_snoc, colW_snoc] at hnext
    have hisC : isC out z = decide ((outAt out z).op = 0) := rfl
    rw [List.any_cons, hisC]
    rw [hisC] at hnext
    generalize outAt out z = q at *
    generalize colV out args = RV at *
    generalize colW out args = RW at *
    generalize colV out pre = V at *
    generalize colW out pre = W at *
    generalize suf.any (isC out) = bb at *
    by_cases hq : q.op = 0
    · simp only [hq, decide_true, if_true, flagE_snoc, Bool.true_or, Bool.or_true] at hnext ⊢
      cases b
      · simp [u_ratchetref02_Folded_L1, b_ratchetref02_Folded_L1, hTl, hxg, lt_mid h, get_mid _ h, hz0, hzT, hzl, hzg, hq, hroom, hroomW, freeze, evRO]
        exact hnext true _ (by simp [h]) (by simp [hws])
      · simp [u_ratchetref02_Folded_L1, b_ratchetref02_Folded_L1, hTl, hxg, lt_mid h, get_mid _ h, hz0, hzT, hzl, hzg, hq, hroom, hroomW, freeze, evRO]
        exact hnext true _ (by simp [h]) (by simp [hws])
    · simp only [hq, decide_false, Bool.false_eq_true, if_false, List.append_nil, Bool.false_or] at hnext ⊢
      cases b
      · simp [u_ratchetref02_Folded_L1, b_ratchetref02_Folded_L1, hTl, hxg, lt_mid h, get_mid _ h, hz0, hzT, hzl, hzg, hq, hroom, hroomW, freeze, evRO]
        exact hnext false _ (by simp [h]) (by simp [hws])
      · simp [u_ratchetref02_Folded_L1, b_ratchetref02_Folded_L1, hTl, hxg, lt_mid h, get_mid _ h, hz0, hzT, hzl, hzg, hq, hroom, hroomW, freeze, evRO]
        exact hnext true _ (by simp [h]) (by simp [hws])
theorem colV_closed {nodes out : List Nod} {k : Nat} (hI : FoldOk nodes k out) {args : List Int} (hin : ∀ n ∈ args, 0 ≤ n ∧ n < (out.length : Int)) (hc : args.all (isC out) = true) : colV out args = argsOf (valsOf out) args ∧ colW out args = widsOf nodes args := by
  have hf : args.filter (isC out) = args := List.filter_eq_self.2 (List.all_eq_true.1 hc)
  have hl := hI.len
  constructor
  · show (args.filter (isC out)).map _ = _
    rw [hf]
    exact List.map_congr_left fun n _ => (valsOf_getD out n.toNat).symm
  · show (args.filter (isC out)).map _ = _
    rw [hf]
    exact List.map_congr_left fun n hn => by
      have := hin n hn
      have h := hI.wid n.toNat (by omega)
      rw [show ((n.toNat : Nat) : Int) = n by omega] at h
      exact h
theorem colV_len {out : List Nod} {args : List Int} : (colV out args).length = args.length ↔ args.all (isC out) = true := by
  rw [List.length_map, List.all_eq_true]
  exact List.length_filter_eq_length_iff
theorem set_mid {R S : List PV} (x y : PV) : (R ++ x :: S).set R.length y = (R ++ [y]) ++ S := by
  rw [List.set_append_right _ _ (Nat.le_refl _)]
  simp
set_option maxHeartbeats 1000000 in
theorem rfold_loop {leaves : List Int} {nodes : List Nod} (hG : ∀ i x, nodes[i]? = some x → nodeE leaves nodes i x = 0) (hnl : nodes.length ≤ 400) (hal : ∀ x ∈ nodes, x.args.length ≤ 1000) :
    ∀ (suf pre out : List Nod) (R : List PV) (y : Env × Sto), nodes = pre ++ suf → FoldOk nodes pre.length out → RowF out R →
    mask [3, 4] [] y = some ([(3, .ap (7 :: 10 :: π)), (4, .p (I pre.length))], [rowN (7 :: 10 :: π) (some false) (R ++ suf.map encNodeC)]) →
    kpO [3] [2] [] (bkO 0 (iter (round EE iter π [] [3, 4] c_ratchetref02_Folded_L0) y)) = some (.nm, [(3, .ap (7 :: 10 :: π))], [rowN (7 :: 10 :: π) (some false) (foldP nodes suf out R)])
  | [], pre, out, R, y, h, hI, hR, hm => by
    have hrl := hR.len
    have hol := hI.len
    rw [loop_eq hm]
    have : nodes = pre := by simpa using h
    simp [u_ratchetref02_Folded_L0, b_ratchetref02_Folded_L0, foldP, hrl, hol]
  | z :: suf, pre, out, R, y, h, hI, hR, hm => by
    have hx : nodes[pre.length]? = some z := by rw [h]; simp
    have hrl := hR.len
    have hol := hI.len
    have hlen : pre.length < nodes.length := by rw [h]; simp
    have hza := hal z (by rw [h]; simp)
    have hzi : ∀ n ∈ z.args, 0 ≤ n ∧ n < (out.length : Int) := fun n hn => by
      have := within_iff.1 (List.all_eq_true.1 (nodeE_iff (hG _ z hx)).2.2.2.1 n hn)
      omega
    have hws := w_succ hlen (show nodes.length ≤ top63 by simp only [top63]; omega)
    rw [← hol] at hm hws
    rw [loop_eq hm]
    have hnext := rfold_loop hG hnl hal suf (pre ++ [z]) (out ++ [foldX nodes out z]) (R ++ [encFx nodes out z])
    have hI' : FoldOk nodes (pre ++ [z]).length (out ++ [foldX nodes out z]) := by rw [List.length_append]; exact fold_step hG hI hx
    have hR' := hR.snoc (some (closedB out z)) (foldX nodes out z)
    rw [foldP]
    generalize foldP nodes suf (out ++ [foldX nodes out z]) (R ++ [encFx nodes out z]) = RR at *
    rw [show (pre ++ [z]).length = out.length + 1 by simp [hol]] at hnext hI'
    unfold encFx at hnext
    have hset := fun q => set_mid (R := R) (S := suf.map encNodeC) (encNodeC z) q
    rw [List.map_cons]
    have hTx : (R ++ encNodeC z :: suf.map encNodeC)[out.length]? = some (encNodeC z) := by rw [← hrl]; simp
    have hTl : out.length < (R ++ encNodeC z :: suf.map encNodeC).length := by simp [hrl]
    have hTT : ∀ (i : Nat) (y : Nod), out[i]? = some y → ∃ fl, (R ++ encNodeC z :: suf.map encNodeC)[i]? = some (encY fl y) := fun i y hy => by
      obtain ⟨fl, hf⟩ := hR.at_ i y hy
      exact ⟨fl, by rw [List.getElem?_append_left (List.getElem?_eq_some_iff.1 hf).1]; exact hf⟩
    rw [hrl] at hset
    have hl1 := rfold_args (π := π) out (by omega) _ hTT hTl z.args hza z.op z.width z.value hTx hzi z.args [] false
    have hxg := (List.getElem?_eq_some_iff.1 hTx).2
    have hVl := colV_len (out := out) (args := z.args)
    generalize suf.map encNodeC = SS at *
    generalize R ++ encNodeC z :: SS = T at *
    have hap : closedB out z = true → ∀ π, EE π n_ratchetbase_Apply [.p (encNode z), .p (encInts (colV out z.args)), .p (encInts (colW out z.args)), .p (.sl 1 none [])] [] = some (.p (I (appK z.op.toNat z (widsOf nodes z.args) (argsOf (valsOf out) z.args))), []) := fun hc π => by
      obtain ⟨hk, hok⟩ := app_okF hG hI hx hc
      unfold closedB at hc
      simp only [Bool.and_eq_true] at hc
      obtain ⟨h1, h2⟩ := colV_closed hI hzi hc.2
      rw [h1, h2]
      exact e_ApplyK hk (by omega) hok _
    generalize colV out z.args = V at *
    generalize colW out z.args = W at *
    simp [u_ratchetref02_Folded_L0, b_ratchetref02_Folded_L0, hTl, thaw, thaw1]
    rw [hl1 _ rfl (by simp [flagE, colV, colW])]
    cases hc : closedB out z with
    | true =>
      have hap := hap hc
      have hfx : foldX nodes out z = ⟨0, z.width, [], appK z.op.toNat z (widsOf nodes z.args) (argsOf (valsOf out) z.args)⟩ := by unfold foldX; rw [if_pos hc]
      simp only [hc, hfx] at hnext hI' hR'
      unfold closedB at hc
      simp only [Bool.and_eq_true, decide_eq_true_eq] at hc
      obtain ⟨hne, hall⟩ := hc
      have hVl := hVl.2 hall
      have hp : 0 < z.args.length := List.length_pos_iff.2 hne
      generalize appK z.op.toNat z (widsOf nodes z.args) (argsOf (valsOf out) z.args) = r at *
      cases z.args.any (isC out)
      · simp [hTl, hxg, hp, hVl, hap, PV.setc, freeze, evRO]
        exact hnext _ (by simp [h]) hI' hR' (by simp [hws, hset])
      · simp [hTl, hxg, hp, hVl, hap, PV.setc, freeze, evRO]
        exact hnext _ (by simp [h]) hI' hR' (by simp [hws, hset])
    | false =>
      have hfx : foldX nodes out z = z := by unfold foldX; rw [if_neg (by simp [hc])]
      simp only [hc, hfx] at hnext hI' hR'
      have hT2 : R ++ [encNodeC z] ++ SS = T := by
        have := hset (encNodeC z)
        rw [← this]
        have : T[out.length] = encNodeC z := hxg
        rw [← this]
        exact List.set_getElem_self hTl
      simp only [hT2] at hnext
      by_cases hne : z.args = []
      · have hp : z.args.length = 0 := by rw [hne]; rfl
        cases z.args.any (isC out)
        · simp [hTl, hxg, hp, freeze, evRO]
          exact hnext _ (by simp [h]) hI' hR' (by simp [hws])
        · simp [hTl, hxg, hp, freeze, evRO]
          exact hnext _ (by simp [h]) hI' hR' (by simp [hws])
      · have hp : 0 < z.args.length := List.length_pos_iff.2 hne
        have hnl : ¬ ((V.length : Int) = (z.args.length : Int)) := fun e => by
          have := hVl.1 (by omega)
          unfold closedB at hc
          rw [this] at hc
          simp [hne] at hc
        cases z.args.any (isC out)
        · simp [hTl, hxg, hp, hnl, freeze, evRO]
          exact hnext _ (by simp [h]) hI' hR' (by simp [hws])
        · simp [hTl, hxg, hp, hnl, freeze, evRO]
          exact hnext _ (by simp [h]) hI' hR' (by simp [hws])
theorem e_FoldedR {leaves : List Int} {nodes : List Nod} (hc : (checkE leaves nodes).2 = 0) (hal : ∀ x ∈ nodes, x.args.length ≤ 1000) :
    EE π n_ratchetref02_Folded [.p (encNodes nodes)] [] = some (.ap (7 :: 10 :: π), [rowN (7 :: 10 :: π) (some false) (foldP nodes nodes [] [])]) := by
  have hG := checkE_nodes hc
  have hnl := (checkE_leaves hc).2.1
  have hcn := fun π => e_CopyNodes (π := π) nodes (by omega) hal
  have hlp := rfold_loop (π := π) hG hnl hal nodes [] [] []
  generalize foldP nodes nodes [] [] = RR at *
  simp [e_ratchetref02_Folded, run_eq, c_ratchetref02_Folded, hcn, thaw, thaw1]
  rw [hlp _ rfl (FoldOk.zero nodes) ⟨rfl, fun i y hy => by simp at hy⟩ (by simp)]
  simp
end Go.Proofs.YtglelclmlkeheaaGreatDoor.V

/- A graph shared: in plain terms; keys of nodes. -/
namespace Go.Proofs.YtglelclmlkeheaaGreatDoor.V
open Go (IntKind BinOp UnOp Value Lit)
variable {π : Id}
def sameN (a b : Nod) : Bool := decide (a.op = b.op) && decide (a.width = b.width) && decide (a.value = b.value) && decide (a.args = b.args)
theorem sameN_iff {a b : Nod} : sameN a b = true ↔ a = b := by
  obtain ⟨a1, a2, a3, a4⟩ := a
  obtain ⟨b1, b2, b3, b4⟩ := b
  simp only [sameN, Bool.and_eq_true, decide_eq_true_eq, Nod.mk.injEq]
  constructor
  · rintro ⟨⟨⟨rfl, rfl⟩, rfl⟩, rfl⟩; exact ⟨rfl, rfl, rfl, rfl⟩
  · rintro ⟨rfl, rfl, rfl, rfl⟩; exact ⟨⟨⟨rfl, rfl⟩, rfl⟩, rfl⟩
def findN (y : Nod) : Nat → List Nod → Option Nat
  | _, [] => none
  | i, z :: r => if sameN z y = true then some i else findN y (i + 1) r
def sharedN : List Nod → List Nod → List Int → List Nod × List Int
  | [], out, to => (out, to)
  | x :: r, out, to => match findN (byN to x) 0 out with
    | some k => sharedN r out (to ++ [(k : Int)])
    | none => sharedN r (out ++ [byN to x]) (to ++ [(out.length : Int)])
theorem findN_lt {y : Nod} : ∀ {l : List Nod} {i k : Nat}, findN y i l = some k → k < i + l.length
  | [], i, k, h => by simp [findN] at h
  | z :: r, i, k, h => by
    unfold findN at h
    split at h
    · simp at h; subst h; simp
    · have := findN_lt h
      simp; omega
abbrev keyP (y : Nod) : PV := .agg [I y.op, I y.width, I y.value, I (y.args.getD 0 0), I (y.args.getD 1 0), I (y.args.getD 2 0)]
abbrev IV (n : Int) : Value := .int .i64 n
def keyU (y : Nod) : Value := .agg #[IV y.op, IV y.width, IV y.value, IV (y.args.getD 0 0), IV (y.args.getD 1 0), IV (y.args.getD 2 0)]
def zU : Value := .agg #[IV 0, IV 0, IV 0, IV 0, IV 0, IV 0]
structure KeyOk (y : Nod) : Prop where
  op : ok64 y.op
  width : ok64 y.width
  value : ok64 y.value
  args : ∀ n ∈ y.args, ok64 n
  len : y.args.length = argc y.op.toNat
theorem getD_ok {y : Nod} (h : KeyOk y) (i : Nat) : ok64 (y.args.getD i 0) := by
  rw [List.getD_eq_getElem?_getD]
  cases hi : y.args[i]? with
  | none => exact ⟨by decide, by decide⟩
  | some n => exact h.args n (List.mem_of_getElem? hi)
theorem wf64 {n : Int} (h : ok64 n) : (Lit.int .i64 n).wf = true := by
  have : (Lit.int .i64 n).wf = (decide (-9223372036854775808 ≤ n) && decide (n ≤ 9223372036854775807)) := rfl
  rw [this]
  simp [h.1, h.2]
theorem keyV6 {a b c d e f : Int} (ha : ok64 a) (hb : ok64 b) (hc : ok64 c) (hd : ok64 d) (he : ok64 e) (hf : ok64 f) : keyV (.agg [I a, I b, I c, I d, I e, I f]) = some (.agg #[IV a, IV b, IV c, IV d, IV e, IV f]) := by
  simp [keyV, cellOf, I, wf64 ha, wf64 hb, wf64 hc, wf64 hd, wf64 he, wf64 hf, IV]
theorem like6 {a b c d e f : Int} (ha : ok64 a) (hb : ok64 b) (hc : ok64 c) (hd : ok64 d) (he : ok64 e) (hf : ok64 f) : likeV zU (.agg #[IV a, IV b, IV c, IV d, IV e, IV f]) = true := by
  simp [likeV, zU, IV, isAgg', cellsV, alikeB, wf64 ha, wf64 hb, wf64 hc, wf64 hd, wf64 he, wf64 hf]
theorem keyV_keyP {y : Nod} (h : KeyOk y) : keyV (keyP y) = some (keyU y) := keyV6 h.op h.width h.value (getD_ok h 0) (getD_ok h 1) (getD_ok h 2)
theorem likeV_keyU {y : Nod} (h : KeyOk y) : likeV zU (keyU y) = true := like6 h.op h.width h.value (getD_ok h 0) (getD_ok h 1) (getD_ok h 2)
theorem argc_le3 (k : Nat) : argc k ≤ 3 := by
  unfold argc; split <;> decide
theorem sameV_keyU {a b : Nod} (ha : KeyOk a) (hb : KeyOk b) : sameV (keyU a) (keyU b) = sameN a b := by
  obtain ⟨a1, a2, a3, a4⟩ := a
  obtain ⟨b1, b2, b3, b4⟩ := b
  have hla := ha.len
  have hlb := hb.len
  simp only at hla hlb
  rw [Bool.eq_iff_iff, sameN_iff]
  simp only [sameV, keyU, cellsV, sameB, IV, Bool.and_eq_true, decide_eq_true_eq, and_true, Nod.mk.injEq]
  constructor
  · rintro ⟨rfl, rfl, rfl, h1, h2, h3⟩
    refine ⟨rfl, rfl, ?_, rfl⟩
    have h3' := argc_le3 a1.toNat
    apply List.ext_getElem?
    intro i
    rcases Nat.lt_or_ge i a3.length with hi | hi
    · have hi' : i < b3.length := by omega
      have e : a3.getD i 0 = b3.getD i 0 := by
        match i with
        | 0 => exact h1
        | 1 => exact h2
        | 2 => exact h3
        | i + 3 => omega
      simp [List.getD, hi, hi'] at e
      simp [hi, hi', e]
    · rw [List.getElem?_eq_none hi, List.getElem?_eq_none (by omega)]
  · rintro ⟨rfl, rfl, rfl, rfl⟩
    exact ⟨rfl, rfl, rfl, rfl, rfl, rfl⟩
def entsF : Nat → List Nod → List (PV × PV)
  | _, [] => []
  | i, y :: r => (keyP y, I i) :: entsF (i + 1) r
theorem entsF_snoc : ∀ (l : List Nod) (i : Nat) (y : Nod), entsF i (l ++ [y]) = entsF i l ++ [(keyP y, I ((i + l.length : Nat) : Int))]
  | [], i, y => by simp [entsF]
  | z :: r, i, y => by
    simp only [List.cons_append, entsF]
    rw [entsF_snoc r (i + 1) y, List.length_cons, show i + 1 + r.length = i + (r.length + 1) by omega]
theorem keysLike_ents : ∀ {l : List Nod} {i : Nat}, (∀ y ∈ l, KeyOk y) → keysLike zU (entsF i l) = true
  | [], i, _ => rfl
  | y :: r, i, h => by
    have h1 := keysLike_ents (l := r) (i := i + 1) fun z hz => h z (by simp [hz])
    unfold keysLike at h1 ⊢
    simp only [entsF, List.all_cons, keyV_keyP (h y (by simp)), likeV_keyU (h y (by simp)), Bool.true_and]
    exact h1
theorem lookE_ents {y : Nod} (hy : KeyOk y) : ∀ {l : List Nod} {i j : Nat}, (∀ y ∈ l, KeyOk y) → lookE (keyU y) i (entsF j l) = some ((findN y j l).map fun k => (k - j + i, I k))
  | [], i, j, _ => rfl
  | z :: r, i, j, h => by
    have ih := lookE_ents hy (l := r) (i := i + 1) (j := j + 1) fun z hz => h z (by simp [hz])
    unfold lookE findN entsF
    simp only [keyV_keyP (h z (by simp)), sameV_keyU (h z (by simp)) hy]
    split
    · simp
    · rw [ih]
      cases hf : findN y (j + 1) r with
      | none => rfl
      | some k =>
        have : j + 1 ≤ k := by
          clear ih
          have mono : ∀ (l : List Nod) (i k : Nat), findN y i l = some k → i ≤ k := by
            intro l
            induction l with
            | nil => intro i k h; simp [findN] at h
            | cons z r ih =>
              intro i k h
              unfold findN at h
              split at h
              · simp at h; omega
              · have := ih (i + 1) k h; omega
          exact mono r _ _ hf
        simp
        omega
end Go.Proofs.YtglelclmlkeheaaGreatDoor.V

/- A graph shared, in the program. -/
namespace Go.Proofs.YtglelclmlkeheaaGreatDoor.V
open Go (IntKind BinOp UnOp Value Lit)
variable {π : Id}
theorem e_mapped1 (n : Int) (D : List Int) (nl : Option Bool) (h : 0 ≤ n ∧ n < D.length) : EE π n_graph_mapped_1 [.p (I n), .p (.ptr [.sl 1 nl (ints D)])] [] = some (.p (I (D.getD n.toNat 0)), []) := by
  have hlt : n.toNat < D.length := by omega
  have hgd : D.getD n.toNat 0 = D[n.toNat] := by simp [List.getD, hlt]
  rw [hgd]
  simp [e_graph_mapped_1, run_eq, c_graph_mapped_1, h.1, h.2, hlt]
def stepS (x : Nod) (r : List Nod × List Int) : List Nod × List Int := match findN (byN r.2 x) 0 r.1 with
  | some k => (r.1, r.2 ++ [(k : Int)])
  | none => (r.1 ++ [byN r.2 x], r.2 ++ [(r.1.length : Int)])
theorem sharedN_step (x : Nod) (l out : List Nod) (to : List Int) : sharedN (x :: l) out to = sharedN l (stepS x (out, to)).1 (stepS x (out, to)).2 := by
  unfold stepS
  rw [sharedN]
  cases findN (byN to x) 0 out <;> rfl
structure ShOk (k : Nat) (out : List Nod) (to : List Int) : Prop where
  len : to.length = k
  in_ : ∀ n ∈ to, 0 ≤ n ∧ n < (out.length : Int)
  le : out.length ≤ k
  key : ∀ z ∈ out, KeyOk z
theorem ShOk.step {k : Nat} {out : List Nod} {to : List Int} (h : ShOk k out to) {x : Nod} (hk : KeyOk (byN to x)) : ShOk (k + 1) (stepS x (out, to)).1 (stepS x (out, to)).2 := by
  unfold stepS
  cases hf : findN (byN to x) 0 out with
  | some i =>
    have := findN_lt hf
    refine ⟨by simp [h.len], fun n hn => ?_, by have := h.le; simp only; omega, h.key⟩
    simp only [List.mem_append, List.mem_singleton] at hn
    rcases hn with hn | rfl
    · exact h.in_ n hn
    · simp only; omega
  | none =>
    refine ⟨by simp [h.len], fun n hn => ?_, by have := h.le; simp only [List.length_append, List.length_singleton]; omega, fun z hz => ?_⟩
    · simp only [List.mem_append, List.mem_singleton] at hn
      simp only [List.length_append, List.length_singleton]
      rcases hn with hn | rfl
      · have := h.in_ n hn; omega
      · omega
    · simp only [List.mem_append, List.mem_singleton] at hz
      rcases hz with hz | rfl
      · exact h.key z hz
      · exact hk
theorem key_byN {leaves : List Int} {nodes : List Nod} {i : Nat} {x : Nod} (h : nodeE leaves nodes i x = 0) (hv : ok64 x.value) {k : Nat} (hk : k ≤ 1000) {out : List Nod} {to : List Int} (hs : ShOk k out to) : KeyOk (byN to x) := by
  obtain ⟨ho, hw, hl, _⟩ := nodeE_iff h
  have ho := within_iff.1 ho
  have hw := within_iff.1 hw
  refine ⟨⟨by show -9223372036854775808 ≤ x.op; omega, by show x.op ≤ 9223372036854775807; omega⟩, ⟨by show -9223372036854775808 ≤ x.width; omega, by show x.width ≤ 9223372036854775807; omega⟩, hv, fun n hn => ?_, ?_⟩
  · obtain ⟨m, _, rfl⟩ := List.mem_map.1 hn
    rw [List.getD_eq_getElem?_getD]
    cases hi : to[m.toNat]? with
    | none => exact ⟨by decide, by decide⟩
    | some n =>
      have := hs.in_ n (List.mem_of_getElem? hi)
      have := hs.le
      exact ⟨by simp only [Option.getD_some]; omega, by simp only [Option.getD_some]; omega⟩
  · show (x.args.map _).length = _
    rw [List.length_map]
    exact hl
theorem shape3 {x : Nod} {k : Nat} (h : x.args.length = argc k) : (∃ o w v, x = ⟨o, w, [], v⟩) ∨ (∃ o w a v, x = ⟨o, w, [a], v⟩) ∨ (∃ o w a b v, x = ⟨o, w, [a, b], v⟩) ∨ (∃ o w a b c v, x = ⟨o, w, [a, b, c], v⟩) := by
  have := argc_le3 k
  obtain ⟨o, w, l, v⟩ := x
  match l, h with
  | [], _ => exact .inl ⟨o, w, v, rfl⟩
  | [a], _ => exact .inr (.inl ⟨o, w, a, v, rfl⟩)
  | [a, b], _ => exact .inr (.inr (.inl ⟨o, w, a, b, v, rfl⟩))
  | [a, b, c], _ => exact .inr (.inr (.inr ⟨o, w, a, b, c, v, rfl⟩))
  | _ :: _ :: _ :: _ :: _, h => simp at h; omega
theorem keyV_zK : keyV (.agg [I 0, I 0, I 0, I 0, I 0, I 0]) = some zU := keyV6 (by decide) (by decide) (by decide) (by decide) (by decide) (by decide)
set_option maxHeartbeats 1000000 in
theorem shared_loop {leaves : List Int} {nodes : List Nod} (hG : ∀ i x, nodes[i]? = some x → nodeE leaves nodes i x = 0) (hnl : nodes.length ≤ 400) (hv : ∀ x ∈ nodes, ok64 x.value) :
    ∀ (suf pre out : List Nod) (to : List Int) (y : Env × Sto), nodes = pre ++ suf → ShOk pre.length out to →
    mask [8, 9, 10, 24, 25, 26] [] y = some ([(8, .mp (23 :: π)), (9, .ap (1009 :: π)), (10, .ap (1010 :: π)), (24, .p (encNodes nodes)), (25, .p (I nodes.length)), (26, .p (I pre.length))], [rowI (1010 :: π) (flagE to) to, rowN (1009 :: π) (flagE out) (out.map encM), (23 :: π, .mpb (entsF 0 out))]) →
    kpO [9, 10] [4, 5, 6] [] (bkO 0 (iter (round EE iter π [] [8, 9, 10, 24, 25, 26] c_graph_SharedOf_L0) y)) = some (.nm, [(9, .ap (1009 :: π)), (10, .ap (1010 :: π))], [rowI (1010 :: π) (flagE (sharedN suf out to).2) (sharedN suf out to).2, rowN (1009 :: π) (flagE (sharedN suf out to).1) ((sharedN suf out to).1.map encM)])
  | [], pre, out, to, y, h, hs, hm => by
    rw [loop_eq hm]
    have : nodes = pre := by simpa using h
    simp [u_graph_SharedOf_L0, b_graph_SharedOf_L0, ← this, sharedN]
  | z :: suf, pre, out, to, y, h, hs, hm => by
    rw [loop_eq hm]
    have hlen : pre.length < nodes.length := by rw [h]; simp
    have hz := hG pre.length z (by rw [h]; simp)
    have hkz := key_byN hz (hv z (by rw [h]; simp)) (by omega) hs
    have hs' := hs.step hkz
    have hnext := shared_loop hG hnl hv suf (pre ++ [z]) (stepS z (out, to)).1 (stepS z (out, to)).2
    have hkl := keysLike_ents (i := 0) hs.key
    have hlook := lookE_ents hkz (i := 0) (j := 0) hs.key
    have hke := keyV_keyP hkz
    have hli := likeV_keyU hkz
    have hle := hs.le
    have htl := hs.len
    have hws := w_succ hlen (show nodes.length ≤ top63 by simp only [top63]; omega)
    have hroomO : (out.map encM).length + 1 ≤ room := by rw [List.length_map]; simp only [room]; omega
    have hroomT : to.length + 1 ≤ room := by simp only [room]; omega
    rw [sharedN_step]
    have hin : ∀ n ∈ z.args, 0 ≤ n ∧ n < to.length := fun n hn => by
      have := within_iff.1 (List.all_eq_true.1 (nodeE_iff hz).2.2.2.1 n hn)
      omega
    have hmv := fun π => e_moved (π := π) z (by have := (nodeE_iff hz).2.2.1; have := argc_le3 z.op.toNat; omega) (f := n_graph_mapped_1) (caps := [.ptr [.sl 1 none (ints to)]]) (g := fun n => to.getD n.toNat 0) (fun n hn => by simpa using e_mapped1 n to none (hin n hn))
    rw [show (pre ++ [z]).length = pre.length + 1 by simp] at hnext
    rcases shape3 (nodeE_iff hz).2.2.1 with ⟨o, w, v, rfl⟩ | ⟨o, w, a, v, rfl⟩ | ⟨o, w, a, b, v, rfl⟩ | ⟨o, w, a, b, c, v, rfl⟩
    · unfold stepS at hs' hnext ⊢
      simp only [byN, List.map_cons, List.map_nil] at hkz hs' hnext hke hli hlook hmv ⊢
      simp [keyP] at hke
      simp only [encNode, encInts, ints, List.map_cons, List.map_nil] at hmv
      cases hf : findN ⟨o, w, [], v⟩ 0 out with
      | none =>
        simp only [hf, Option.map_none] at hlook hs' hnext ⊢
        simp only [List.map_append, List.map_cons, List.map_nil, flagE_snoc, entsF_snoc, Nat.zero_add] at hnext
        have hRl : (out.map encM).length = out.length := by simp
        generalize entsF 0 out = EN at *
        generalize out.map encM = R at *
        simp [u_graph_SharedOf_L0, b_graph_SharedOf_L0, lt_mid h, get_mid _ h, hmv, hroomO, hroomT, freeze, evRO, toPV, reach, hke, hli, hkl, hlook, keyV_zK, AV.clean, AV.clean.AV.cleanL, Blk.clean, PV.clean]
        exact hnext _ (by simp [h]) hs' (by simp [hws, hRl, putE, flagE])
      | some k =>
        simp only [hf, Option.map_some] at hlook hs' hnext ⊢
        simp only [flagE_snoc] at hnext
        generalize entsF 0 out = EN at *
        generalize out.map encM = R at *
        simp [u_graph_SharedOf_L0, b_graph_SharedOf_L0, lt_mid h, get_mid _ h, hmv, hroomO, hroomT, freeze, evRO, toPV, reach, hke, hli, hkl, hlook, keyV_zK, AV.clean, AV.clean.AV.cleanL, Blk.clean, PV.clean]
        exact hnext _ (by simp [h]) hs' (by simp [hws])
    · unfold stepS at hs' hnext ⊢
      simp only [byN, List.map_cons, List.map_nil] at hkz hs' hnext hke hli hlook hmv ⊢
      generalize to.getD a.toNat 0 = a' at *
      simp [keyP] at hke
      simp only [encNode, encInts, ints, List.map_cons, List.map_nil] at hmv
      cases hf : findN ⟨o, w, [a'], v⟩ 0 out with
      | none =>
        simp only [hf, Option.map_none] at hlook hs' hnext ⊢
        simp only [List.map_append, List.map_cons, List.map_nil, flagE_snoc, entsF_snoc, Nat.zero_add] at hnext
        have hRl : (out.map encM).length = out.length := by simp
        generalize entsF 0 out = EN at *
        generalize out.map encM = R at *
        simp [u_graph_SharedOf_L0, b_graph_SharedOf_L0, lt_mid h, get_mid _ h, hmv, hroomO, hroomT, freeze, evRO, toPV, reach, hke, hli, hkl, hlook, keyV_zK, AV.clean, AV.clean.AV.cleanL, Blk.clean, PV.clean]
        exact hnext _ (by simp [h]) hs' (by simp [hws, hRl, putE, flagE])
      | some k =>
        simp only [hf, Option.map_some] at hlook hs' hnext ⊢
        simp only [flagE_snoc] at hnext
        generalize entsF 0 out = EN at *
        generalize out.map encM = R at *
        simp [u_graph_SharedOf_L0, b_graph_SharedOf_L0, lt_mid h, get_mid _ h, hmv, hroomO, hroomT, freeze, evRO, toPV, reach, hke, hli, hkl, hlook, keyV_zK, AV.clean, AV.clean.AV.cleanL, Blk.clean, PV.clean]
        exact hnext _ (by simp [h]) hs' (by simp [hws])
    · unfold stepS at hs' hnext ⊢
      simp only [byN, List.map_cons, List.map_nil] at hkz hs' hnext hke hli hlook hmv ⊢
      generalize to.getD a.toNat 0 = a' at *
      generalize to.getD b.toNat 0 = b' at *
      simp [keyP] at hke
      simp only [encNode, encInts, ints, List.map_cons, List.map_nil] at hmv
      cases hf : findN ⟨o, w, [a', b'], v⟩ 0 out with
      | none =>
        simp only [hf, Option.map_none] at hlook hs' hnext ⊢
        simp only [List.map_append, List.map_cons, List.map_nil, flagE_snoc, entsF_snoc, Nat.zero_add] at hnext
        have hRl : (out.map encM).length = out.length := by simp
        generalize entsF 0 out = EN at *
        generalize out.map encM = R at *
        simp [u_graph_SharedOf_L0, b_graph_SharedOf_L0, lt_mid h, get_mid _ h, hmv, hroomO, hroomT, freeze, evRO, toPV, reach, hke, hli, hkl, hlook, keyV_zK, AV.clean, AV.clean.AV.cleanL, Blk.clean, PV.clean]
        exact hnext _ (by simp [h]) hs' (by simp [hws, hRl, putE, flagE])
      | some k =>
        simp only [hf, Option.map_some] at hlook hs' hnext ⊢
        simp only [flagE_snoc] at hnext
        generalize entsF 0 out = EN at *
        generalize out.map encM = R at *
        simp [u_graph_SharedOf_L0, b_graph_SharedOf_L0, lt_mid h, get_mid _ h, hmv, hroomO, hroomT, freeze, evRO, toPV, reach, hke, hli, hkl, hlook, keyV_zK, AV.clean, AV.clean.AV.cleanL, Blk.clean, PV.clean]
        exact hnext _ (by simp [h]) hs' (by simp [hws])
    · unfold stepS at hs' hnext ⊢
      simp only [byN, List.map_cons, List.map_nil] at hkz hs' hnext hke hli hlook hmv ⊢
      generalize to.getD a.toNat 0 = a' at *
      generalize to.getD b.toNat 0 = b' at *
      generalize to.getD c.toNat 0 = c' at *
      simp [keyP] at hke
      simp only [encNode, encInts, ints, List.map_cons, List.map_nil] at hmv
      cases hf : findN ⟨o, w, [a', b', c'], v⟩ 0 out with
      | none =>
        simp only [hf, Option.map_none] at hlook hs' hnext ⊢
        simp only [List.map_append, List.map_cons, List.map_nil, flagE_snoc, entsF_snoc, Nat.zero_add] at hnext
        have hRl : (out.map encM).length = out.length := by simp
        generalize entsF 0 out = EN at *
        generalize out.map encM = R at *
        simp [u_graph_SharedOf_L0, b_graph_SharedOf_L0, lt_mid h, get_mid _ h, hmv, hroomO, hroomT, freeze, evRO, toPV, reach, hke, hli, hkl, hlook, keyV_zK, AV.clean, AV.clean.AV.cleanL, Blk.clean, PV.clean]
        exact hnext _ (by simp [h]) hs' (by simp [hws, hRl, putE, flagE])
      | some k =>
        simp only [hf, Option.map_some] at hlook hs' hnext ⊢
        simp only [flagE_snoc] at hnext
        generalize entsF 0 out = EN at *
        generalize out.map encM = R at *
        simp [u_graph_SharedOf_L0, b_graph_SharedOf_L0, lt_mid h, get_mid _ h, hmv, hroomO, hroomT, freeze, evRO, toPV, reach, hke, hli, hkl, hlook, keyV_zK, AV.clean, AV.clean.AV.cleanL, Blk.clean, PV.clean]
        exact hnext _ (by simp [h]) hs' (by simp [hws])
end Go.Proofs.YtglelclmlkeheaaGreatDoor.V

/- A graph shared, in the program, and by the reference. -/
namespace Go.Proofs.YtglelclmlkeheaaGreatDoor.V
open Go (IntKind BinOp UnOp Value Lit)
variable {π : Id}
theorem e_SharedOf (leaves : List Int) (nodes : List Nod) (hal : ∀ x ∈ nodes, x.args.length ≤ 1000) (hv : ∀ x ∈ nodes, ok64 x.value) :
    EE π n_graph_SharedOf [.p (encInts leaves), .p (encNodes nodes)] [] = if (checkE leaves nodes).2 = 0 then some (.tup [.ap (1009 :: π), .ap (1010 :: π), .p (I 0)], [rowI (1010 :: π) (flagE (sharedN nodes [] []).2) (sharedN nodes [] []).2, rowN (1009 :: π) (flagE (sharedN nodes [] []).1) ((sharedN nodes [] []).1.map encM)])
      else some (.p (.tup [.sl 4 (some true) [], .sl 1 (some true) [], I (checkE leaves nodes).2]), []) := by
  have hge := fun π => e_graphErr (π := π) leaves nodes hal
  have hlp : (checkE leaves nodes).2 = 0 → _ := fun h => shared_loop (π := π) (leaves := leaves) (checkE_nodes h) (checkE_leaves h).2.1 hv nodes [] [] []
  generalize (checkE leaves nodes).2 = c at *
  by_cases hc : c = 0
  · have hlp := hlp hc
    rw [if_pos hc]
    generalize sharedN nodes [] [] = R at *
    simp [e_graph_SharedOf, run_eq, c_graph_SharedOf, hge, hc, freeze, evRO, thaw, thaw1]
    rw [hlp _ rfl ⟨rfl, by simp, by simp, by simp⟩ (by simp [flagE, entsF])]
    simp
  · rw [if_neg hc]
    simp [e_graph_SharedOf, run_eq, c_graph_SharedOf, hge, hc, freeze, evRO]
theorem e_Same1 (a b : Nod) (ha : a.args.length ≤ 1000) : EE π n_ratchetbase_SameNodes [.p (.sl 4 none [encNode a]), .p (.sl 4 none [encNode b])] [] = some (.p (.bool (sameN a b)), []) := by
  have hin := fun π => e_Ints (π := π) a.args b.args (by simp only [top63]; omega)
  unfold sameN
  have l0 : ∀ (y : Env × Sto), mask [0, 1, 5] [] y = some ([(0, .p (.sl 4 none [encNode a])), (1, .p (.sl 4 none [encNode b])), (5, .p (I 0))], []) →
      kpO [] [4] [] (bkO 0 (iter (round EE iter π [] [0, 1, 5] c_ratchetbase_SameNodes_L0) y)) = if sameN a b = true then some (.nm, [], []) else some (.rt, [(4, .p (.bool false))], []) := by
    intro y hm
    have l1 : ∀ (y : Env × Sto), mask [0, 1, 5] [] y = some ([(0, .p (.sl 4 none [encNode a])), (1, .p (.sl 4 none [encNode b])), (5, .p (I 1))], []) →
        kpO [] [4] [] (bkO 0 (iter (round EE iter π [] [0, 1, 5] c_ratchetbase_SameNodes_L0) y)) = some (.nm, [], []) := by
      intro y hm
      rw [loop_eq hm]
      simp [u_ratchetbase_SameNodes_L0, b_ratchetbase_SameNodes_L0]
    rw [loop_eq hm]
    unfold sameN
    by_cases h1 : a.op = b.op
    · by_cases h2 : a.width = b.width
      · by_cases h3 : a.value = b.value
        · by_cases h4 : a.args = b.args
          · rw [h4] at hin
            simp [u_ratchetbase_SameNodes_L0, b_ratchetbase_SameNodes_L0, hin, h1, h2, h3, h4]
            exact l1 _ (by simp; rfl)
          · simp [u_ratchetbase_SameNodes_L0, b_ratchetbase_SameNodes_L0, hin, h1, h2, h3, h4]
        · simp [u_ratchetbase_SameNodes_L0, b_ratchetbase_SameNodes_L0, hin, h1, h2, h3]
      · simp [u_ratchetbase_SameNodes_L0, b_ratchetbase_SameNodes_L0, hin, h1, h2]
    · simp [u_ratchetbase_SameNodes_L0, b_ratchetbase_SameNodes_L0, hin, h1]
  simp [e_ratchetbase_SameNodes, run_eq, c_ratchetbase_SameNodes]
  rw [l0 _ (by simp)]
  unfold sameN
  cases h : (decide (a.op = b.op) && decide (a.width = b.width) && decide (a.value = b.value) && decide (a.args = b.args)) <;> simp
theorem findN_drop {x : Nod} {out : List Nod} {k : Nat} {z : Nod} (hz : out[k]? = some z) (h : sameN z x = false) : findN x k (out.drop k) = findN x (k + 1) (out.drop (k + 1)) := by
  have hk := (List.getElem?_eq_some_iff.1 hz).1
  rw [List.drop_eq_getElem_cons hk]
  have : out[k] = z := by rw [List.getElem?_eq_getElem hk] at hz; simpa using hz
  rw [this]
  simp [findN, h]
theorem findN_hit {x : Nod} {out : List Nod} {k : Nat} {z : Nod} (hz : out[k]? = some z) (h : sameN z x = true) : findN x k (out.drop k) = some k := by
  have hk := (List.getElem?_eq_some_iff.1 hz).1
  rw [List.drop_eq_getElem_cons hk]
  have : out[k] = z := by rw [List.getElem?_eq_getElem hk] at hz; simpa using hz
  rw [this]
  simp [findN, h]
theorem at_loop (leN : List Nod) (to : List Int) (fl : Option Bool) (x : Nod) (i : Int) (out : List Nod) (hol : out.length ≤ 1000) (hxa : ∀ y ∈ out, y.args.length ≤ 1000) :
    ∀ (d k : Nat) (y : Env × Sto), d + k = out.length →
    mask [0, 4, 5, 6, 7, 8] [] y = some ([(0, .p (encNodes leN)), (4, .ap (1004 :: π)), (5, .ap (11 :: π)), (6, .p (I i)), (7, .p (.ptr [I x.op, I x.width, .sl 1 (flagE x.args) (ints x.args), I x.value])), (8, .p (I k))], [(1004 :: π, .row true t_api_Node 4 (flagE out) (out.map encM)), rowI (11 :: π) fl to]) →
    kpO [0, 4, 5, 6, 7, 8] [2, 3] [] (bkO 2 (iter (round EE iter π [] [0, 4, 5, 6, 7, 8] c_ratchetref02_Shared_L1) y)) = some (.nm, [(0, .p (encNodes leN)), (4, .ap (1004 :: π)), (5, .ap (11 :: π)), (6, .p (I i)), (7, .p (.ptr [I x.op, I x.width, .sl 1 (flagE x.args) (ints x.args), I x.value])), (8, .p (I ((findN x k (out.drop k)).getD out.length)))], [(1004 :: π, .row true t_api_Node 4 (flagE out) (out.map encM)), rowI (11 :: π) fl to])
  | 0, k, y, h, hm => by
    rw [loop_eq hm]
    have hk : k = out.length := by omega
    subst hk
    simp [u_ratchetref02_Shared_L1, b_ratchetref02_Shared_L1, findN]
  | d + 1, k, y, h, hm => by
    rw [loop_eq hm]
    have hlt : k < out.length := by omega
    have hz : out[k]? = some out[k] := List.getElem?_eq_getElem hlt
    have hza := hxa out[k] (List.getElem_mem hlt)
    generalize out[k] = z at hz hza
    have hs1 := fun π => e_Same1 (π := π) z x hza
    have hws : IntKind.i64.wrap ((k : Int) + 1) = ((k + 1 : Nat) : Int) := w64 ⟨by omega, by omega⟩
    have hRk : (out.map encM)[k]? = some (encM z) := by rw [List.getElem?_map, hz]; rfl
    have hRl : (out.map encM).length = out.length := by simp
    have h0 : (0 : Int) ≤ (k : Int) + 1 := by omega
    have hk1 : k + 1 ≤ out.length := by omega
    have htk : ((out.map encM).drop k).take 1 = [encM z] := by
      rw [List.drop_eq_getElem_cons (by rw [hRl]; exact hlt)]
      have := (List.getElem?_eq_some_iff.1 hRk).2
      simp only [List.take_succ_cons, List.take_zero, this]
    have hnext := at_loop leN to fl x i out hol hxa d (k + 1)
    cases hs : sameN z x with
    | true =>
      rw [findN_hit hz hs]
      rw [hs] at hs1
      generalize out.map encM = R at *
      simp [u_ratchetref02_Shared_L1, b_ratchetref02_Shared_L1, hlt, hRl, h0, hk1, htk, hs1, hws]
    | false =>
      rw [findN_drop hz hs]
      rw [hs] at hs1
      generalize out.map encM = R at *
      simp [u_ratchetref02_Shared_L1, b_ratchetref02_Shared_L1, hlt, hRl, h0, hk1, htk, hs1, hws]
      exact hnext _ (by omega) (by simp [hws])
def ldF {α : Type} : List α → Bool
  | [] => false
  | _ :: _ => true
theorem ldF_snoc {α : Type} (l : List α) (x : α) : ldF (l ++ [x]) = true := by cases l <;> rfl
theorem zeros_set (to : List Int) (k : Nat) (c : Int) : (to ++ List.replicate (k + 1) 0).set to.length c = (to ++ [c]) ++ List.replicate k 0 := by
  rw [List.set_append_right _ _ (Nat.le_refl _)]
  simp [List.replicate_succ]
set_option maxHeartbeats 1000000 in
theorem sharedR_loop {nodes : List Nod} (hnl : nodes.length ≤ 400) (hin : ∀ (i : Nat) (x : Nod), nodes[i]? = some x → ∀ n ∈ x.args, 0 ≤ n ∧ n < (i : Int)) (hal : ∀ x ∈ nodes, x.args.length ≤ 1000) :
    ∀ (suf pre out : List Nod) (to : List Int) (y : Env × Sto), nodes = pre ++ suf → to.length = pre.length → out.length ≤ pre.length → (∀ y ∈ out, y.args.length ≤ 1000) →
    mask [0, 4, 5, 6] [] y = some ([(0, .p (encNodes nodes)), (4, .ap (1004 :: π)), (5, .ap (11 :: π)), (6, .p (I pre.length))], [(1004 :: π, .row (ldF pre) t_api_Node 4 (flagE out) (out.map encM)), rowI (11 :: π) (some false) (to ++ List.replicate suf.length 0)]) →
    kpO [4, 5] [2, 3] [] (bkO 0 (iter (round EE iter π [] [0, 4, 5, 6] c_ratchetref02_Shared_L0) y)) = some (.nm, [(4, .ap (1004 :: π)), (5, .ap (11 :: π))], [(1004 :: π, .row (ldF nodes) t_api_Node 4 (flagE (sharedN suf out to).1) ((sharedN suf out to).1.map encM)), rowI (11 :: π) (some false) (sharedN suf out to).2])
  | [], pre, out, to, y, h, ht, ho, hoa, hm => by
    rw [loop_eq hm]
    have : nodes = pre := by simpa using h
    simp [u_ratchetref02_Shared_L0, b_ratchetref02_Shared_L0, ← this, sharedN]
  | z :: suf, pre, out, to, y, h, ht, ho, hoa, hm => by
    rw [loop_eq hm]
    have hlen : pre.length < nodes.length := by rw [h]; simp
    have hx : nodes[pre.length]? = some z := by rw [h]; simp
    have hza := hal z (by rw [h]; simp)
    have hzi := hin pre.length z hx
    have hws := w_succ hlen (show nodes.length ≤ top63 by simp only [top63]; omega)
    have hmv : ∀ π, EE π n_ratchetref02_moved [.p (encNode z), .p (encInts (to ++ List.replicate (suf.length + 1) 0))] [] = some (.agg [.p (I (byN to z).op), .p (I (byN to z).width), .ap (1005 :: π), .p (I (byN to z).value)], [rowI (1005 :: π) (flagE (byN to z).args) (byN to z).args]) := fun π => by
      have h1 := e_movedR (π := π) z hza (to ++ List.replicate (suf.length + 1) 0) (fun n hn => by have := hzi n hn; rw [List.length_append, List.length_replicate]; omega)
      have h2 : (z.args.map fun n : Int => (to ++ List.replicate (suf.length + 1) (0 : Int)).getD n.toNat 0) = (byN to z).args := congrArg Nod.args (byN_zeros to (suf.length + 1) z)
      rw [h2, show flagE z.args = flagE (byN to z).args from (flagE_map _ _).symm] at h1
      exact h1
    have hba : (byN to z).args.length ≤ 1000 := by show (z.args.map _).length ≤ _; rw [List.length_map]; exact hza
    have hlp := at_loop (π := π) nodes (to ++ List.replicate (suf.length + 1) 0) (some false) (byN to z) pre.length out (by omega) hoa out.length 0
    have hzs := zeros_set to suf.length
    have hroom : out.length + 1 ≤ room := by simp only [room]; omega
    have hRl : (out.map encM).length = out.length := by simp
    have hTl : (to ++ List.replicate (suf.length + 1) 0).length = to.length + (suf.length + 1) := by simp
    have hT : pre.length < (to ++ List.replicate (suf.length + 1) 0).length := by omega
    rw [List.drop_zero] at hlp
    rw [sharedN_step]
    unfold stepS
    generalize byN to z = x at *
    rw [ht] at hzs
    cases hf : findN x 0 out with
    | some k =>
      have hk : k < out.length := by have := findN_lt hf; omega
      have hne : ¬ ((k : Int) = (out.length : Int)) := by omega
      have hnext := sharedR_loop hnl hin hal suf (pre ++ [z]) out (to ++ [(k : Int)])
      rw [← hzs] at hnext
      rw [hf] at hlp
      simp only [ldF_snoc] at hnext
      generalize out.map encM = R at *
      generalize to ++ List.replicate (suf.length + 1) 0 = T at *
      simp [u_ratchetref02_Shared_L0, b_ratchetref02_Shared_L0, lt_mid h, get_mid _ h, hmv, freeze, evRO, lkE, AV.clean, AV.clean.AV.cleanL, Blk.clean, PV.clean]
      rw [hlp _ (by simp) (by simp)]
      simp [hRl, hne, hT, PV.setc]
      exact hnext _ (by simp [h]) (by simp [ht]) (by simp; omega) hoa (by simp [hws])
    | none =>
      have hnext := sharedR_loop hnl hin hal suf (pre ++ [z]) (out ++ [x]) (to ++ [(out.length : Int)])
      rw [← hzs] at hnext
      rw [hf] at hlp
      simp only [ldF_snoc, flagE_snoc, List.map_append, List.map_cons, List.map_nil] at hnext
      generalize out.map encM = R at *
      generalize to ++ List.replicate (suf.length + 1) 0 = T at *
      simp [u_ratchetref02_Shared_L0, b_ratchetref02_Shared_L0, lt_mid h, get_mid _ h, hmv, freeze, evRO, lkE, AV.clean, AV.clean.AV.cleanL, Blk.clean, PV.clean]
      rw [hlp _ (by simp) (by simp)]
      simp [hroom, hT, hRl, PV.setc]
      exact hnext _ (by simp [h]) (by simp [ht]) (by simp; omega) (fun y hy => by
        rcases List.mem_append.1 hy with hy | hy
        · exact hoa y hy
        · have : y = x := by simpa using hy
          rw [this]; exact hba) (by simp [hws])
theorem e_SharedR (nodes : List Nod) (hnl : nodes.length ≤ 400) (hin : ∀ (i : Nat) (x : Nod), nodes[i]? = some x → ∀ n ∈ x.args, 0 ≤ n ∧ n < (i : Int)) (hal : ∀ x ∈ nodes, x.args.length ≤ 1000) :
    EE π n_ratchetref02_Shared [.p (encNodes nodes)] [] = some (.tup [.ap (1004 :: π), .ap (11 :: π)], [(1004 :: π, .row (ldF nodes) t_api_Node 4 (flagE (sharedN nodes [] []).1) ((sharedN nodes [] []).1.map encM)), rowI (11 :: π) (some false) (sharedN nodes [] []).2]) := by
  have hlp := sharedR_loop (π := π) hnl hin hal nodes [] [] []
  generalize sharedN nodes [] [] = R at *
  have hr : nodes.length ≤ room := by simp only [room]; omega
  simp [e_ratchetref02_Shared, run_eq, c_ratchetref02_Shared, hr, thaw, thaw1]
  rw [hlp _ rfl rfl (by simp) (by simp) (by simp [flagE, ldF])]
  simp
end Go.Proofs.YtglelclmlkeheaaGreatDoor.V
