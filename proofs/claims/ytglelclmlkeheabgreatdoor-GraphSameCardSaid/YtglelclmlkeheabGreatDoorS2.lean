/- The value of a node by those before it, in the program. The error of a node, and of nodes, by the reference. The errors of a graph, by the reference. Nodes with arguments by a map; a graph in which a leaf is a value. A graph in which a leaf is a value. Two graphs as one. The values of all nodes, in  -/
import Derived.Test.YtglelclmlkeheabGreatDoorS1

set_option linter.unusedSimpArgs false
set_option linter.unusedVariables false

/- The value of a node by those before it, in the program. -/
namespace Go.Proofs.YtglelclmlkeheabGreatDoor.V
open Go (IntKind BinOp UnOp)
variable {π : Id}
abbrev argsOf (vs : List Int) (args : List Int) : List Int := args.map fun n => vs.getD n.toNat 0
theorem applied_loop (nodes : List Nod) (vs : List Int) (x : Nod) (hal : x.args.length ≤ 1000) (hin : ∀ n ∈ x.args, 0 ≤ n ∧ n < nodes.length ∧ n < vs.length) :
    ∀ (suf pre : List Int) (y : Env × Sto), x.args = pre ++ suf →
    mask [0, 1, 3, 6, 9, 10, 14, 15, 16] [] y = some ([(0, .p (.ptr opsPV)), (1, .p (encNodes nodes)), (3, .p (encInts vs)), (6, .ref (6 :: π) 0), (9, .ap (1009 :: π)), (10, .ap (1010 :: π)), (14, .p (encInts x.args)), (15, .p (I x.args.length)), (16, .p (I pre.length))], [rowI (1009 :: π) (flagE pre) (widsOf nodes pre), rowI (1010 :: π) (flagE pre) (argsOf vs pre), (6 :: π, boxNd x)]) →
    kpO [0, 6, 9, 10] [8] [] (bkO 0 (iter (round EE iter π [] [0, 1, 3, 6, 9, 10, 14, 15, 16] c_graph_applied_L0) y)) = some (.nm, [(0, .p (.ptr opsPV)), (6, .ref (6 :: π) 0), (9, .ap (1009 :: π)), (10, .ap (1010 :: π))], [rowI (1009 :: π) (flagE x.args) (widsOf nodes x.args), rowI (1010 :: π) (flagE x.args) (argsOf vs x.args), (6 :: π, boxNd x)])
  | [], pre, y, h, hm => by
    rw [loop_eq hm]
    have : x.args = pre := by simpa using h
    simp [u_graph_applied_L0, b_graph_applied_L0, ← this]
  | z :: suf, pre, y, h, hm => by
    rw [loop_eq hm]
    have hlen : pre.length < x.args.length := by rw [h]; simp
    obtain ⟨hz0, hz1, hz2⟩ := hin z (by rw [h]; simp)
    have hlt : z.toNat < nodes.length := by omega
    have hlv : z.toNat < vs.length := by omega
    have hwid : widOf nodes z = nodes[z.toNat].width := by unfold widOf; simp [List.getD, hlt]
    have hgd : vs.getD z.toNat 0 = vs[z.toNat] := by simp [List.getD, hlv]
    have hws := w_succ hlen (show x.args.length ≤ top63 by simp only [top63]; omega)
    have hroom : (widsOf nodes pre).length + 1 ≤ room := by rw [List.length_map]; simp only [room]; omega
    have hroomA : (argsOf vs pre).length + 1 ≤ room := by rw [List.length_map]; simp only [room]; omega
    have hnext := applied_loop nodes vs x hal hin suf (pre ++ [z])
    rw [show (pre ++ [z]).length = pre.length + 1 by simp, flagE_snoc, show widsOf nodes (pre ++ [z]) = widsOf nodes pre ++ [widOf nodes z] by simp, hwid, show argsOf vs (pre ++ [z]) = argsOf vs pre ++ [vs.getD z.toNat 0] by simp, hgd] at hnext
    generalize widsOf nodes pre = R at *
    generalize widsOf nodes x.args = RR at *
    generalize argsOf vs pre = A at *
    generalize argsOf vs x.args = AA at *
    simp [u_graph_applied_L0, b_graph_applied_L0, lt_mid h, get_mid _ h, hz0, hz1, hz2, hlt, hlv, hroom, hroomA, freeze, evRO]
    exact hnext _ (by simp [h]) (by simp [hws])
theorem e_applied (nodes : List Nod) (vs : List Int) (x : Nod) (hal : x.args.length ≤ 1000) (hin : ∀ n ∈ x.args, 0 ≤ n ∧ n < nodes.length ∧ n < vs.length) (ho : 0 ≤ x.op ∧ x.op < 19) (h1 : x.op ≠ 1)
    (hok : x.op.toNat ≠ 0 → AppOk x.op.toNat x (widsOf nodes x.args) (argsOf vs x.args)) :
    EE π n_graph_applied [.p (.ptr opsPV), .p (encNodes nodes), .p (encNode x), .p (encInts vs)] [] = some (.p (I (appK x.op.toNat x (widsOf nodes x.args) (argsOf vs x.args))), []) := by
  have hlp := applied_loop (π := π) nodes vs x hal hin x.args []
  have hk : x.op.toNat < 19 := by omega
  have hrow := ops_row x.op.toNat hk
  rw [opRow_eq hk] at hrow
  have hdl : 5 ≤ opsPV.length - x.op.toNat * 5 := by rw [opsPV_len]; omega
  have hget : opsPV[x.op.toNat * 5 + 4]? = some (.fn (runN x.op.toNat) (runC x.op.toNat)) := by
    have := congrArg (fun l => l[4]?) hrow
    simpa [List.getElem?_take, List.getElem?_drop] using this
  have hrun := fun π => e_run (π := π) hk (by omega) hok
  generalize appK x.op.toNat x (widsOf nodes x.args) (argsOf vs x.args) = r at *
  generalize widsOf nodes x.args = W at *
  generalize argsOf vs x.args = A at *
  simp [e_graph_applied, run_eq, c_graph_applied, thaw, thaw1, ops_fg]
  rw [hlp _ rfl (by simp [flagE])]
  simp [ho.1, ho.2, hdl, hget, hrun, freeze, evRO]
end Go.Proofs.YtglelclmlkeheabGreatDoor.V

/- The error of a node, and of nodes, by the reference. -/
namespace Go.Proofs.YtglelclmlkeheabGreatDoor.V
open Go (IntKind BinOp UnOp)
variable {π : Id}
theorem ne_loop (leaves : List Int) (nodes : List Nod) (i : Nat) (hi : i ≤ 100000) (x : Nod) (hal : x.args.length ≤ 1000) :
    ∀ (suf pre : List Int) (y : Env × Sto), x.args = pre ++ suf →
    mask [0, 1, 2, 7, 8] [] y = some ([(0, .p (encInts leaves)), (1, .p (encNodes nodes)), (2, .p (I i)), (7, .ref (7 :: π) 0), (8, .p (I pre.length))], [(7 :: π, boxNd x)]) →
    kpO [0, 1, 7] [6] [] (bkO 0 (iter (round EE iter π [] [0, 1, 2, 7, 8] c_ratchetbase_nodeErr_L0) y)) = (if argsIn i suf = true then some (.nm, [(0, .p (encInts leaves)), (1, .p (encNodes nodes)), (7, .ref (7 :: π) 0)], [(7 :: π, boxNd x)]) else some (.rt, [(6, .p (I 9))], []))
  | [], pre, y, h, hm => by
    rw [loop_eq hm]
    have : x.args = pre := by simpa using h
    simp [u_ratchetbase_nodeErr_L0, b_ratchetbase_nodeErr_L0, ← this, argsIn]
  | z :: suf, pre, y, h, hm => by
    rw [loop_eq hm]
    have hlen : pre.length < x.args.length := by rw [h]; simp
    have hws := w_succ hlen (show x.args.length ≤ top63 by simp only [top63]; omega)
    have hw : IntKind.i64.wrap ((i : Int) - 1) = (i : Int) - 1 := w64 ⟨by omega, by omega⟩
    have hnext := ne_loop leaves nodes i hi x hal suf (pre ++ [z])
    by_cases hz : within z 0 ((i : Int) - 1) = true
    · rw [show argsIn i (z :: suf) = argsIn i suf by simp [argsIn, hz]]
      generalize argsIn i suf = b at *
      simp [u_ratchetbase_nodeErr_L0, b_ratchetbase_nodeErr_L0, lt_mid h, get_mid _ h, hw, e_Within, hz]
      exact hnext _ (by simp [h]) (by simp [hws])
    · rw [show argsIn i (z :: suf) = false by simp [argsIn, hz]]
      simp [u_ratchetbase_nodeErr_L0, b_ratchetbase_nodeErr_L0, lt_mid h, get_mid _ h, hw, e_Within, hz]
theorem e_nodeErr (leaves : List Int) (hl : leaves.length ≤ 1000) (nodes : List Nod) (hnl : nodes.length ≤ 100000) (i : Nat) (x : Nod) (hx : nodes[i]? = some x) (hal : x.args.length ≤ 1000) :
    EE π n_ratchetbase_nodeErr [.p (encInts leaves), .p (encNodes nodes), .p (I i)] [] = some (.p (I (nodeE leaves nodes i x)), []) := by
  have hi := (List.getElem?_eq_some_iff.1 hx).1
  have hx2 := (List.getElem?_eq_some_iff.1 hx).2
  have hlp := ne_loop (π := π) leaves nodes i (by omega) x hal x.args []
  unfold nodeE
  by_cases h1 : within x.op 0 18 = true
  · have h1' := within_iff.1 h1
    by_cases h2 : within x.width 1 16 = true
    · have h2' := within_iff.1 h2
      have hk : x.op.toNat < 19 := by omega
      have hopn : x.op = (x.op.toNat : Int) := by omega
      have hac := fun π => e_ArgCount (π := π) x.op.toNat hk
      rw [← hopn] at hac
      by_cases h3 : x.args.length = argc x.op.toNat
      · have h3' : (x.args.length : Int) = (argc x.op.toNat : Int) := by omega
        by_cases h4 : argsIn i x.args = true
        · rw [h4, if_pos rfl] at hlp
          have hin : ∀ n ∈ x.args, 0 ≤ n ∧ n < (nodes.length : Int) := fun n hn => by
            have := within_iff.1 (List.all_eq_true.1 h4 n hn)
            omega
          rw [show ∀ c d : Int, firstE [unlE (within x.op 0 18) 15, unlE (within x.width 1 16) 2, unlE (decide (x.args.length = argc x.op.toNat)) 10, unlE (argsIn i x.args) 9, c, d] = if c = 0 then (if d = 0 then 0 else d) else c from fun c d => by simp [firstE, unlE, h1, h2, h3, h4]]
          unfold valE
          simp [e_ratchetbase_nodeErr, run_eq, c_ratchetbase_nodeErr, hi, hx2, e_Within, e_IsWidth, h1, h2, hac, h3', freeze, evRO]
          rw [hlp _ rfl (by simp)]
          by_cases o0 : x.op = 0
          · have hfi := fun π => e_Fits (π := π) x.value x.width ⟨by omega, h2'.2⟩
            rw [o0] at h3
            generalize widsOf nodes x.args = W at *
            have : fitB 0 x.width W x.value = true := rfl
            cases hf : fitsB x.value x.width <;> simp [o0, hfi, hf, this, unlE, freeze, evRO]
          · by_cases o1 : x.op = 1
            · generalize widsOf nodes x.args = W at *
              have : fitB 1 x.width W x.value = true := rfl
              have hws : IntKind.i64.wrap ((leaves.length : Int) - 1) = (leaves.length : Int) - 1 := w64 ⟨by omega, by omega⟩
              by_cases hv : within x.value 0 ((leaves.length : Int) - 1) = true
              · have hv' := within_iff.1 hv
                have hlt : x.value.toNat < leaves.length := by omega
                have hlt' : x.value < (leaves.length : Int) := by omega
                by_cases hw : leaves[x.value.toNat] = x.width <;> simp [o1, e_Within, hws, hv, hv'.1, hlt, hlt', hw, this, unlE, freeze, evRO]
              · simp [o1, e_Within, hws, hv, this, unlE, freeze, evRO]
            · have hwf := fun π => e_widthsFit (π := π) nodes hnl x hal hin (x.op.toNat - 2) (by omega) (by omega) (by rw [h3]; congr 1; omega)
              rw [show x.op.toNat - 2 + 2 = x.op.toNat by omega] at hwf
              generalize fitB x.op.toNat x.width (widsOf nodes x.args) x.value = fb at *
              by_cases o14 : x.op = 14
              · simp only [encNode, o14] at hwf
                cases hv : within x.value 0 15 <;> cases fb <;> simp [o14, e_Within, hv, hwf, unlE, freeze, evRO]
              · have hh : hasV x.op.toNat = false := by
                  obtain ⟨k, hk2⟩ : ∃ k, x.op.toNat = k := ⟨_, rfl⟩
                  rw [hk2]; unfold hasV; split <;> first | rfl | omega
                by_cases hv : x.value = 0
                · simp only [encNode, hv] at hwf
                  cases fb <;> simp [o0, o1, o14, hv, hh, hwf, unlE, freeze, evRO]
                · cases fb <;> simp [o0, o1, o14, hv, hh, unlE, freeze, evRO]
        · have h4 : argsIn i x.args = false := by simpa using h4
          rw [h4, if_neg (by simp)] at hlp
          generalize valE leaves x (hasV x.op.toNat) = c at *
          generalize fitB x.op.toNat x.width (widsOf nodes x.args) x.value = fb at *
          simp [e_ratchetbase_nodeErr, run_eq, c_ratchetbase_nodeErr, hi, hx2, e_Within, e_IsWidth, h1, h2, hac, h3', freeze, evRO]
          rw [hlp _ rfl (by simp)]
          simp [firstE, unlE, h1, h2, h3, h4]
      · have h3' : ¬ (x.args.length : Int) = (argc x.op.toNat : Int) := by omega
        generalize valE leaves x (hasV x.op.toNat) = c at *
        generalize fitB x.op.toNat x.width (widsOf nodes x.args) x.value = fb at *
        simp [e_ratchetbase_nodeErr, run_eq, c_ratchetbase_nodeErr, hi, hx2, e_Within, e_IsWidth, h1, h2, hac, h3, h3', freeze, evRO, firstE, unlE]
    · have h2 : within x.width 1 16 = false := by simpa using h2
      simp [e_ratchetbase_nodeErr, run_eq, c_ratchetbase_nodeErr, hi, hx2, e_Within, e_IsWidth, h1, h2, freeze, evRO, firstE, unlE]
  · have h1 : within x.op 0 18 = false := by simpa using h1
    simp [e_ratchetbase_nodeErr, run_eq, c_ratchetbase_nodeErr, hi, hx2, e_Within, h1, freeze, evRO, firstE, unlE]
end Go.Proofs.YtglelclmlkeheabGreatDoor.V

/- The errors of a graph, by the reference. -/
namespace Go.Proofs.YtglelclmlkeheabGreatDoor.V
open Go (IntKind BinOp UnOp)
variable {π : Id}
theorem lv_loop (leaves : List Int) (hl : leaves.length ≤ 1000) (N : PV) : ∀ (suf pre : List Int) (x : Env × Sto), leaves = pre ++ suf → mask [0, 1, 6] [] x = some ([(0, .p (encInts leaves)), (1, .p N), (6, .p (I pre.length))], []) →
    kpO [0, 1] [4, 5] [] (bkO 0 (iter (round EE iter π [] [0, 1, 6] c_ratchetref02_CheckNodes_L0) x)) = (if (eachE (fun _ n => unlE (within n 1 16) 2) pre.length suf).2 = 0 then some (.nm, [(0, .p (encInts leaves)), (1, .p N)], []) else some (.rt, [(4, .p (I (eachE (fun _ n => unlE (within n 1 16) 2) pre.length suf).1)), (5, .p (I (eachE (fun _ n => unlE (within n 1 16) 2) pre.length suf).2))], []))
  | [], pre, x, h, hm => by
    rw [loop_eq hm]
    subst h
    simp [u_ratchetref02_CheckNodes_L0, b_ratchetref02_CheckNodes_L0, eachE]
  | y :: suf, pre, x, h, hm => by
    rw [loop_eq hm]
    have hnext := lv_loop leaves hl N suf (pre ++ [y])
    rw [show (pre ++ [y]).length = pre.length + 1 by simp] at hnext
    have he : eachE (fun _ n => unlE (within n 1 16) 2) pre.length (y :: suf) = if unlE (within y 1 16) 2 = 0 then eachE (fun _ n => unlE (within n 1 16) 2) (pre.length + 1) suf else (pre.length, unlE (within y 1 16) 2) := rfl
    rw [he]
    generalize eachE (fun _ n => unlE (within n 1 16) 2) (pre.length + 1) suf = q at *
    by_cases hc : within y 1 16 = true
    · simp [u_ratchetref02_CheckNodes_L0, b_ratchetref02_CheckNodes_L0, lt_mid h, get_mid _ h, e_IsWidth, hc, unlE]
      exact hnext _ (by simp [h]) (by simp [w_succ (lt_nat h) (show leaves.length ≤ top63 by simp only [top63]; omega)])
    · simp [u_ratchetref02_CheckNodes_L0, b_ratchetref02_CheckNodes_L0, lt_mid h, get_mid _ h, e_IsWidth, hc, unlE]
end Go.Proofs.YtglelclmlkeheabGreatDoor.V

/- Nodes with arguments by a map; a graph in which a leaf is a value. -/
namespace Go.Proofs.YtglelclmlkeheabGreatDoor.V
open Go (IntKind BinOp UnOp)
variable {π : Id}
abbrev zBox : Blk := .box false [.p (I 0), .p (I 0), .p (.sl 1 (some true) []), .p (I 0)]
theorem mv_loop (x : Nod) (hal : x.args.length ≤ 1000) {f : Nat} {caps : List PV} {g : Int → Int} (hg : ∀ n ∈ x.args, EE (18 :: π) f (.p (I n) :: caps.map fun v => AV.p v.fg) [] = some (.p (I (g n)), [])) :
    ∀ (suf pre : List Int) (y : Env × Sto), x.args = pre ++ suf →
    mask [1, 2, 4, 5, 9, 10, 11] [] y = some ([(1, .p (.fn f caps)), (2, .ref (2 :: π) 0), (4, .ref (4 :: π) 0), (5, .ap (1005 :: π)), (9, .p (encInts x.args)), (10, .p (I x.args.length)), (11, .p (I pre.length))], [rowI (1005 :: π) (flagE pre) (pre.map g), (4 :: π, zBox), (2 :: π, boxNd x)]) →
    kpO [2, 4, 5] [4] [] (bkO 0 (iter (round EE iter π [] [1, 2, 4, 5, 9, 10, 11] c_graph_moved_L0) y)) = some (.nm, [(2, .ref (2 :: π) 0), (4, .ref (4 :: π) 0), (5, .ap (1005 :: π))], [rowI (1005 :: π) (flagE x.args) (x.args.map g), (4 :: π, zBox), (2 :: π, boxNd x)])
  | [], pre, y, h, hm => by
    rw [loop_eq hm]
    have : x.args = pre := by simpa using h
    simp [u_graph_moved_L0, b_graph_moved_L0, ← this]
  | z :: suf, pre, y, h, hm => by
    rw [loop_eq hm]
    have hlen : pre.length < x.args.length := by rw [h]; simp
    have hz := hg z (by rw [h]; simp)
    have hws := w_succ hlen (show x.args.length ≤ top63 by simp only [top63]; omega)
    have hroom : (pre.map g).length + 1 ≤ room := by rw [List.length_map]; simp only [room]; omega
    have hnext := mv_loop x hal hg suf (pre ++ [z])
    rw [show (pre ++ [z]).length = pre.length + 1 by simp, flagE_snoc, show (pre ++ [z]).map g = pre.map g ++ [g z] by simp] at hnext
    generalize pre.map g = R at *
    generalize x.args.map g = RR at *
    generalize g z = gz at *
    simp [u_graph_moved_L0, b_graph_moved_L0, lt_mid h, get_mid _ h, hz, hroom]
    exact hnext _ (by simp [h]) (by simp [hws])
theorem e_moved (x : Nod) (hal : x.args.length ≤ 1000) {f : Nat} {caps : List PV} {g : Int → Int} (hg : ∀ n ∈ x.args, EE (18 :: π) f (.p (I n) :: caps.map fun v => AV.p v.fg) [] = some (.p (I (g n)), [])) :
    EE π n_graph_moved [.p (encNode x), .p (.fn f caps)] [] = some (.agg [.p (I x.op), .p (I x.width), .ap (1005 :: π), .p (I x.value)], [rowI (1005 :: π) (flagE x.args) (x.args.map g)]) := by
  simp [e_graph_moved, run_eq, c_graph_moved, thaw, thaw1]
  rw [mv_loop x hal hg x.args [] _ rfl (by simp [flagE])]
  generalize x.args.map g = R
  simp [PV.setc]
theorem e_constant (w v : Int) : EE π n_graph_constant [.p (I w), .p (I v)] [] = some (.p (.agg [I 0, I w, .sl 1 (some true) [], I v]), []) := by
  simp [e_graph_constant, run_eq, c_graph_constant]
theorem e_sub1 (n : Int) : EE π n_graph_Substituted_1 [.p (I n)] [] = some (.p (I n), []) := by
  simp [e_graph_Substituted_1, run_eq, c_graph_Substituted_1]
theorem e_app1 (n : Int) : EE π n_graph_Appended_1 [.p (I n)] [] = some (.p (I n), []) := by
  simp [e_graph_Appended_1, run_eq, c_graph_Appended_1]
theorem e_app2 (n : Int) (a : List PV) : EE π n_graph_Appended_2 [.p (I n), .p (.ptr [.sl 4 none a])] [] = some (.p (I (IntKind.i64.wrap (n + a.length))), []) := by
  simp [e_graph_Appended_2, run_eq, c_graph_Appended_2]
end Go.Proofs.YtglelclmlkeheabGreatDoor.V

/- A graph in which a leaf is a value. -/
namespace Go.Proofs.YtglelclmlkeheabGreatDoor.V
open Go (IntKind BinOp UnOp)
variable {π : Id}
abbrev encM (x : Nod) : PV := .agg [I x.op, I x.width, .sl 1 (flagE x.args) (ints x.args), I x.value]
def subN (leaf v : Int) (x : Nod) : Nod := if x.op = 1 ∧ x.value = leaf then ⟨0, x.width, [], v⟩ else x
abbrev rowN (i : Id) (nl : Option Bool) (D : List PV) : Id × Blk := (i, .row false t_api_Node 4 nl D)
theorem sub_loop (nodes : List Nod) (hnl : nodes.length ≤ 1000) (hal : ∀ x ∈ nodes, x.args.length ≤ 1000) (leaf v : Int) :
    ∀ (suf pre : List Nod) (y : Env × Sto), nodes = pre ++ suf →
    mask [2, 3, 11, 36, 37, 38] [] y = some ([(2, .p (I leaf)), (3, .p (I v)), (11, .ap (1011 :: π)), (36, .p (encNodes nodes)), (37, .p (I nodes.length)), (38, .p (I pre.length))], [rowN (1011 :: π) (flagE pre) (pre.map fun x => encM (subN leaf v x))]) →
    kpO [11] [8, 9] [] (bkO 0 (iter (round EE iter π [] [2, 3, 11, 36, 37, 38] c_graph_Substituted_L0) y)) = some (.nm, [(11, .ap (1011 :: π))], [rowN (1011 :: π) (flagE nodes) (nodes.map fun x => encM (subN leaf v x))])
  | [], pre, y, h, hm => by
    rw [loop_eq hm]
    have : nodes = pre := by simpa using h
    simp [u_graph_Substituted_L0, b_graph_Substituted_L0, ← this]
  | z :: suf, pre, y, h, hm => by
    rw [loop_eq hm]
    have hlen : pre.length < nodes.length := by rw [h]; simp
    have hz := hal z (by rw [h]; simp)
    have hmv := fun π => e_moved (π := π) z hz (f := n_graph_Substituted_1) (caps := []) (g := id) (fun n _ => by simpa using e_sub1 n)
    simp only [List.map_id] at hmv
    have hws := w_succ hlen (show nodes.length ≤ top63 by simp only [top63]; omega)
    have hroom : (pre.map fun x => encM (subN leaf v x)).length + 1 ≤ room := by rw [List.length_map]; simp only [room]; omega
    have hnext := sub_loop nodes hnl hal leaf v suf (pre ++ [z])
    rw [show (pre ++ [z]).length = pre.length + 1 by simp, flagE_snoc, show ((pre ++ [z]).map fun x => encM (subN leaf v x)) = (pre.map fun x => encM (subN leaf v x)) ++ [encM (subN leaf v z)] by simp] at hnext
    generalize (pre.map fun x => encM (subN leaf v x)) = R at *
    generalize (nodes.map fun x => encM (subN leaf v x)) = RR at *
    unfold subN at hnext
    by_cases h1 : z.op = 1
    · by_cases h2 : z.value = leaf
      · rw [if_pos ⟨h1, h2⟩] at hnext
        simp only [encNode, h1, h2] at hmv
        simp [u_graph_Substituted_L0, b_graph_Substituted_L0, lt_mid h, get_mid _ h, hmv, h1, h2, hroom, e_constant, freeze, evRO]
        exact hnext _ (by simp [h]) (by simp [hws, flagE])
      · rw [if_neg (by simp [h2])] at hnext
        simp only [encNode, h1] at hmv
        simp [u_graph_Substituted_L0, b_graph_Substituted_L0, lt_mid h, get_mid _ h, hmv, h1, h2, hroom, e_constant, freeze, evRO]
        exact hnext _ (by simp [h]) (by simp [hws, flagE, h1])
    · rw [if_neg (by simp [h1])] at hnext
      simp [u_graph_Substituted_L0, b_graph_Substituted_L0, lt_mid h, get_mid _ h, hmv, h1, hroom, e_constant, freeze, evRO]
      exact hnext _ (by simp [h]) (by simp [hws, flagE, h1])
def subE (leaves : List Int) (c leaf v : Int) : Int :=
  if c ≠ 0 then c else if within leaf 0 ((leaves.length : Int) - 1) = false then 6 else if fitsB v (leaves.getD leaf.toNat 0) = false then 2 else 0
theorem eachE_all {α : Type} {err : Nat → α → Int} : ∀ {l : List α} {i : Nat}, (eachE err i l).2 = 0 → ∀ k x, l[k]? = some x → err (i + k) x = 0
  | [], i, h, k, x, hk => by simp at hk
  | y :: r, i, h, k, x, hk => by
    simp only [eachE] at h
    split at h
    · rename_i hy
      match k, hk with
      | 0, hk => simp at hk; subst hk; exact hy
      | k + 1, hk => rw [show i + (k + 1) = i + 1 + k by omega]; exact eachE_all h k x (by simpa using hk)
    · rename_i hy; exact absurd h hy
theorem checkE_leaves {leaves : List Int} {nodes : List Nod} (h : (checkE leaves nodes).2 = 0) : leaves.length ≤ 40 ∧ nodes.length ≤ 400 ∧ ∀ n ∈ leaves, 1 ≤ n ∧ n ≤ 16 := by
  unfold checkE at h
  split at h
  · simp at h
  · split at h
    · rename_i h2; exact absurd h h2
    · rename_i h1 h2
      split at h
      · simp at h
      · refine ⟨by omega, by omega, fun n hn => ?_⟩
        obtain ⟨k, hk⟩ := List.mem_iff_getElem?.1 hn
        have := eachE_all (by simpa using h2) k n hk
        exact within_iff.1 ((unlE_z (by decide)).1 this)
theorem e_Substituted (leaves : List Int) (hl : leaves.length ≤ 1000) (nodes : List Nod) (hnl : nodes.length ≤ 1000) (hal : ∀ x ∈ nodes, x.args.length ≤ 1000) (leaf v : Int) :
    EE π n_graph_Substituted [.p (encInts leaves), .p (encNodes nodes), .p (I leaf), .p (I v)] [] = (if subE leaves (checkE leaves nodes).2 leaf v = 0 then some (.tup [.ap (1011 :: π), .p (I 0)], [rowN (1011 :: π) (flagE nodes) (nodes.map fun x => encM (subN leaf v x))]) else some (.p (.tup [.sl 4 (some true) [], I (subE leaves (checkE leaves nodes).2 leaf v)]), [])) := by
  have hge := fun π => e_graphErr (π := π) leaves nodes hal
  have hck := checkE_leaves (leaves := leaves) (nodes := nodes)
  have hws : IntKind.i64.wrap ((leaves.length : Int) - 1) = (leaves.length : Int) - 1 := w64 ⟨by omega, by omega⟩
  have hlp := sub_loop (π := π) nodes hnl hal leaf v nodes []
  unfold subE
  generalize (checkE leaves nodes).2 = c at *
  by_cases hc : c = 0
  · obtain ⟨_, _, hlw⟩ := hck hc
    by_cases hw : within leaf 0 ((leaves.length : Int) - 1) = true
    · have hw' := within_iff.1 hw
      have hlt : leaf.toNat < leaves.length := by omega
      have hlt' : leaf < (leaves.length : Int) := by omega
      have hgd : leaves.getD leaf.toNat 0 = leaves[leaf.toNat] := by simp [List.getD, hlt]
      have hfi := fun π => e_fitsG (π := π) v leaves[leaf.toNat] (hlw _ (List.getElem_mem hlt)).2
      rw [hgd]
      cases hf : fitsB v leaves[leaf.toNat] with
      | false =>
        simp [e_graph_Substituted, run_eq, c_graph_Substituted, hge, hc, hws, e_withinG, hw, hw'.1, hlt, hlt', hfi, hf, e_unlessG, e_first2G, unlE, firstE, freeze, evRO]
      | true =>
        simp [e_graph_Substituted, run_eq, c_graph_Substituted, hge, hc, hws, e_withinG, hw, hw'.1, hlt, hlt', hfi, hf, e_unlessG, e_first2G, unlE, firstE, freeze, evRO, thaw, thaw1]
        rw [hlp _ rfl (by simp [flagE])]
        simp
    · have hw : within leaf 0 ((leaves.length : Int) - 1) = false := by simpa using hw
      simp [e_graph_Substituted, run_eq, c_graph_Substituted, hge, hc, hws, e_withinG, hw, e_unlessG, e_first2G, unlE, firstE, freeze, evRO]
  · simp [e_graph_Substituted, run_eq, c_graph_Substituted, hge, hc, hws, e_withinG, e_unlessG, e_first2G, firstE, freeze, evRO]
end Go.Proofs.YtglelclmlkeheabGreatDoor.V

/- Two graphs as one. -/
namespace Go.Proofs.YtglelclmlkeheabGreatDoor.V
open Go (IntKind BinOp UnOp)
variable {π : Id}
def shiftN (m : Nat) (x : Nod) : Nod := { x with args := x.args.map fun n => n + (m : Int) }
def atN (n k : Nat) : List Int := (List.range k).map fun i => ((n + i : Nat) : Int)
theorem atN_succ (n k : Nat) : atN n (k + 1) = atN n k ++ [((n + k : Nat) : Int)] := by simp [atN, List.range_succ]
theorem atN_len (n k : Nat) : (atN n k).length = k := by simp [atN]
theorem flagE_map {α β : Type} (f : α → β) (l : List α) : flagE (l.map f) = flagE l := by cases l <;> rfl
theorem app_loopA (a b : List Nod) (hal : a.length ≤ 1000) (hxa : ∀ x ∈ a, x.args.length ≤ 1000) :
    ∀ (suf pre : List Nod) (y : Env × Sto), a = pre ++ suf →
    mask [2, 4, 10, 11, 34, 35, 36] [] y = some ([(2, .p (encNodes b)), (4, .p (.ptr [encNodes a])), (10, .ap (1010 :: π)), (11, .p (.sl 1 (some true) [])), (34, .p (encNodes a)), (35, .p (I a.length)), (36, .p (I pre.length))], [rowN (1010 :: π) (flagE pre) (pre.map encM)]) →
    kpO [2, 4, 10, 11] [6, 7, 8] [] (bkO 0 (iter (round EE iter π [] [2, 4, 10, 11, 34, 35, 36] c_graph_Appended_L0) y)) = some (.nm, [(2, .p (encNodes b)), (4, .p (.ptr [encNodes a])), (10, .ap (1010 :: π)), (11, .p (.sl 1 (some true) []))], [rowN (1010 :: π) (flagE a) (a.map encM)])
  | [], pre, y, h, hm => by
    rw [loop_eq hm]
    have : a = pre := by simpa using h
    simp [u_graph_Appended_L0, b_graph_Appended_L0, ← this]
  | z :: suf, pre, y, h, hm => by
    rw [loop_eq hm]
    have hlen : pre.length < a.length := by rw [h]; simp
    have hz := hxa z (by rw [h]; simp)
    have hmv := fun π => e_moved (π := π) z hz (f := n_graph_Appended_1) (caps := []) (g := id) (fun n _ => by simpa using e_app1 n)
    simp only [List.map_id] at hmv
    have hws := w_succ hlen (show a.length ≤ top63 by simp only [top63]; omega)
    have hroom : (pre.map encM).length + 1 ≤ room := by rw [List.length_map]; simp only [room]; omega
    have hnext := app_loopA a b hal hxa suf (pre ++ [z])
    rw [show (pre ++ [z]).length = pre.length + 1 by simp, flagE_snoc, show ((pre ++ [z]).map encM) = pre.map encM ++ [encM z] by simp] at hnext
    generalize pre.map encM = R at *
    generalize a.map encM = RR at *
    simp [u_graph_Appended_L0, b_graph_Appended_L0, lt_mid h, get_mid _ h, hmv, hroom, freeze, evRO]
    exact hnext _ (by simp [h]) (by simp [hws])
theorem app_loopB (a b : List Nod) (hal : a.length ≤ 1000) (hbl : b.length ≤ 1000) (hxb : ∀ x ∈ b, x.args.length ≤ 1000) (hin : ∀ x ∈ b, ∀ n ∈ x.args, 0 ≤ n ∧ n ≤ 1000) :
    ∀ (suf pre : List Nod) (y : Env × Sto), b = pre ++ suf →
    mask [4, 10, 11, 46, 47, 48] [] y = some ([(4, .p (.ptr [encNodes a])), (10, .ap (1010 :: π)), (11, .ap (1011 :: π)), (46, .p (encNodes b)), (47, .p (I b.length)), (48, .p (I pre.length))], [rowI (1011 :: π) (flagE pre) (atN a.length pre.length), rowN (1010 :: π) (flagE (a ++ pre)) ((a ++ pre.map (shiftN a.length)).map encM)]) →
    kpO [10, 11] [6, 7, 8] [] (bkO 2 (iter (round EE iter π [] [4, 10, 11, 46, 47, 48] c_graph_Appended_L1) y)) = some (.nm, [(10, .ap (1010 :: π)), (11, .ap (1011 :: π))], [rowI (1011 :: π) (flagE b) (atN a.length b.length), rowN (1010 :: π) (flagE (a ++ b)) ((a ++ b.map (shiftN a.length)).map encM)])
  | [], pre, y, h, hm => by
    rw [loop_eq hm]
    have : b = pre := by simpa using h
    simp [u_graph_Appended_L1, b_graph_Appended_L1, ← this]
  | z :: suf, pre, y, h, hm => by
    rw [loop_eq hm]
    have hlen : pre.length < b.length := by rw [h]; simp
    have hz := hxb z (by rw [h]; simp)
    have hzi := hin z (by rw [h]; simp)
    have hmv := fun π => e_moved (π := π) z hz (f := n_graph_Appended_2) (caps := [.ptr [encNodes a]]) (g := fun n => n + (a.length : Int)) (fun n hn => by
      have := hzi n hn
      have hw : IntKind.i64.wrap (n + (a.length : Int)) = n + (a.length : Int) := w64 ⟨by omega, by omega⟩
      have h2 := e_app2 (π := 18 :: π) n (a.map encNode)
      rw [List.length_map, hw] at h2
      simpa using h2)
    have hws := w_succ hlen (show b.length ≤ top63 by simp only [top63]; omega)
    have hroom : a.length + pre.length + 1 ≤ room := by simp only [room]; omega
    have hRl : ((a ++ pre.map (shiftN a.length)).map encM).length = a.length + pre.length := by simp
    have hroomI : (atN a.length pre.length).length + 1 ≤ room := by rw [atN_len]; simp only [room]; omega
    have hnext := app_loopB a b hal hbl hxb hin suf (pre ++ [z])
    have hfl : flagE (shiftN a.length z).args = flagE z.args := flagE_map _ _
    rw [show (pre ++ [z]).length = pre.length + 1 by simp, ← List.append_assoc, flagE_snoc, flagE_snoc, atN_succ, show ((a ++ (pre ++ [z]).map (shiftN a.length)).map encM) = (a ++ pre.map (shiftN a.length)).map encM ++ [encM (shiftN a.length z)] by simp] at hnext
    rw [show encM (shiftN a.length z) = .agg [I z.op, I z.width, .sl 1 (flagE z.args) (ints (z.args.map fun n => n + (a.length : Int))), I z.value] by unfold encM; rw [hfl]; rfl] at hnext
    generalize (a ++ pre.map (shiftN a.length)).map encM = R at *
    generalize (a ++ b.map (shiftN a.length)).map encM = RR at *
    generalize z.args.map (fun n => n + (a.length : Int)) = ZA at *
    generalize atN a.length pre.length = AT at *
    generalize atN a.length b.length = ATB at *
    simp [u_graph_Appended_L1, b_graph_Appended_L1, lt_mid h, get_mid _ h, hmv, hroom, hroomI, hRl, freeze, evRO]
    exact hnext _ (by simp [h]) (by simp [hws])
theorem checkE_nodes {leaves : List Int} {nodes : List Nod} (h : (checkE leaves nodes).2 = 0) : ∀ i x, nodes[i]? = some x → nodeE leaves nodes i x = 0 := by
  unfold checkE at h
  split at h
  · simp at h
  · split at h
    · rename_i h2; exact absurd h h2
    · split at h
      · simp at h
      · intro i x hx
        have := eachE_all h i x hx
        simpa using this
theorem nodeE_iff {leaves : List Int} {nodes : List Nod} {i : Nat} {x : Nod} (h : nodeE leaves nodes i x = 0) :
    within x.op 0 18 = true ∧ within x.width 1 16 = true ∧ x.args.length = argc x.op.toNat ∧ argsIn i x.args = true ∧ valE leaves x (hasV x.op.toNat) = 0 ∧ fitB x.op.toNat x.width (widsOf nodes x.args) x.value = true := by
  unfold nodeE at h
  simp only [firstE_cons] at h
  obtain ⟨h1, h2, h3, h4, h5, h6, _⟩ := h
  exact ⟨(unlE_z (by decide)).1 h1, (unlE_z (by decide)).1 h2, by simpa using (unlE_z (by decide)).1 h3, (unlE_z (by decide)).1 h4, h5, (unlE_z (by decide)).1 h6⟩
theorem args_in {leaves : List Int} {nodes : List Nod} (h : (checkE leaves nodes).2 = 0) {i : Nat} {x : Nod} (hx : nodes[i]? = some x) : ∀ n ∈ x.args, 0 ≤ n ∧ n < (i : Int) := fun n hn => by
  have := within_iff.1 (List.all_eq_true.1 (nodeE_iff (checkE_nodes h i x hx)).2.2.2.1 n hn)
  omega
def appE (a b : Nat) (c d : Int) : Int := firstE [c, d, unlE (decide (a + b ≤ 400)) 8]
theorem e_Appended (leaves : List Int) (a b : List Nod) (hal : a.length ≤ 1000) (hbl : b.length ≤ 1000) (hxa : ∀ x ∈ a, x.args.length ≤ 1000) (hxb : ∀ x ∈ b, x.args.length ≤ 1000) :
    EE π n_graph_Appended [.p (encInts leaves), .p (encNodes a), .p (encNodes b)] [] = (if appE a.length b.length (checkE leaves a).2 (checkE leaves b).2 = 0 then some (.tup [.ap (1010 :: π), .ap (1011 :: π), .p (I 0)], [rowI (1011 :: π) (flagE b) (atN a.length b.length), rowN (1010 :: π) (flagE (a ++ b)) ((a ++ b.map (shiftN a.length)).map encM)]) else some (.p (.tup [.sl 4 (some true) [], .sl 1 (some true) [], I (appE a.length b.length (checkE leaves a).2 (checkE leaves b).2)]), [])) := by
  have hga := fun π => e_graphErr (π := π) leaves a hxa
  have hgb := fun π => e_graphErr (π := π) leaves b hxb
  have hws : IntKind.i64.wrap ((a.length : Int) + (b.length : Int)) = (a.length : Int) + (b.length : Int) := w64 ⟨by omega, by omega⟩
  have hlA := app_loopA (π := π) a b hal hxa a []
  have hlB : (checkE leaves b).2 = 0 → _ := fun hb => app_loopB (π := π) a b hal hbl hxb (fun x hx n hn => by
    obtain ⟨k, hk⟩ := List.mem_iff_getElem?.1 hx
    have := args_in hb hk n hn
    have hkl := (List.getElem?_eq_some_iff.1 hk).1
    omega) b []
  unfold appE
  generalize (checkE leaves a).2 = c at *
  generalize (checkE leaves b).2 = d at *
  by_cases hc : c = 0
  · by_cases hd : d = 0
    · have hlB := hlB hd
      by_cases hl : a.length + b.length ≤ 400
      · have hl' : (a.length : Int) + (b.length : Int) ≤ 400 := by omega
        simp [e_graph_Appended, run_eq, c_graph_Appended, hga, hgb, hc, hd, hws, hl, hl', e_unlessG, e_first3G, unlE, firstE, freeze, evRO, thaw, thaw1]
        rw [hlA _ rfl (by simp [flagE])]
        simp [thaw, thaw1]
        rw [hlB _ rfl (by simp [flagE, atN])]
        simp
      · have hl' : ¬ (a.length : Int) + (b.length : Int) ≤ 400 := by omega
        simp [e_graph_Appended, run_eq, c_graph_Appended, hga, hgb, hc, hd, hws, hl, hl', e_unlessG, e_first3G, unlE, firstE, freeze, evRO]
    · simp [e_graph_Appended, run_eq, c_graph_Appended, hga, hgb, hc, hd, hws, e_unlessG, e_first3G, firstE, freeze, evRO]
  · simp [e_graph_Appended, run_eq, c_graph_Appended, hga, hgb, hc, hws, e_unlessG, e_first3G, firstE, freeze, evRO]
end Go.Proofs.YtglelclmlkeheabGreatDoor.V

/- The values of all nodes, in plain terms. -/
namespace Go.Proofs.YtglelclmlkeheabGreatDoor.V
open Go (IntKind BinOp UnOp)
variable {π : Id}
def valN (nodes : List Nod) (L vs : List Int) (x : Nod) : Int :=
  if x.op = 1 then L.getD x.value.toNat 0 else appK x.op.toNat x (widsOf nodes x.args) (argsOf vs x.args)
def valsN (nodes : List Nod) (L : List Int) : List Nod → List Int → List Int
  | [], vs => vs
  | x :: r, vs => valsN nodes L r (vs ++ [valN nodes L vs x])
structure InvV (nodes : List Nod) (k : Nat) (vs : List Int) : Prop where
  len : vs.length = k
  ok : ∀ j, j < k → Okv (vs.getD j 0) (widOf nodes (j : Int))
structure LeafOk (leaves L : List Int) : Prop where
  len : L.length = leaves.length
  ok : ∀ j, j < leaves.length → Okv (L.getD j 0) (leaves.getD j 0)
theorem widOf_get {nodes : List Nod} {j : Nat} {y : Nod} (h : nodes[j]? = some y) : widOf nodes (j : Int) = y.width := by
  unfold widOf
  simp [List.getD, h]
theorem app_ok {leaves : List Int} {nodes : List Nod} (hG : ∀ i x, nodes[i]? = some x → nodeE leaves nodes i x = 0) {k : Nat} {vs : List Int} (hI : InvV nodes k vs) {x : Nod} (hx : nodes[k]? = some x) (h1 : x.op ≠ 1) (h0 : x.op ≠ 0) :
    AppOk x.op.toNat x (widsOf nodes x.args) (argsOf vs x.args) := by
  obtain ⟨ho, hw, hl, ha, hv, hf⟩ := nodeE_iff (hG k x hx)
  have ho' := within_iff.1 ho
  have hw' := within_iff.1 hw
  refine ⟨hw', by rw [List.length_map]; exact hl, by rw [List.length_map]; exact hl, fun i hi => ?_, hf, fun h14 => ?_⟩
  · have hil : i < x.args.length := by omega
    have hn := within_iff.1 (List.all_eq_true.1 ha x.args[i] (List.getElem_mem hil))
    have e1 : (widsOf nodes x.args).getD i 0 = widOf nodes x.args[i] := by simp [List.getD, hil]
    have e2 : (argsOf vs x.args).getD i 0 = vs.getD x.args[i].toNat 0 := by simp [List.getD, hil]
    rw [e1, e2]
    have hj : x.args[i].toNat < k := by omega
    have hkl := (List.getElem?_eq_some_iff.1 hx).1
    have hjl : x.args[i].toNat < nodes.length := by omega
    have hy : nodes[x.args[i].toNat]? = some nodes[x.args[i].toNat] := List.getElem?_eq_getElem hjl
    have hcast : ((x.args[i].toNat : Nat) : Int) = x.args[i] := by omega
    have e3 := widOf_get hy
    rw [hcast] at e3
    have hwj := within_iff.1 (nodeE_iff (hG _ _ hy)).2.1
    have hok := hI.ok _ hj
    rw [hcast] at hok
    exact ⟨by rw [e3]; exact hwj, hok⟩
  · unfold valE at hv
    rw [if_neg h0, if_neg h1, if_pos (by omega)] at hv
    exact within_iff.1 ((unlE_z (by decide)).1 hv)
theorem val_in {leaves L : List Int} {nodes : List Nod} (hG : ∀ i x, nodes[i]? = some x → nodeE leaves nodes i x = 0) (hL : LeafOk leaves L) {k : Nat} {vs : List Int} (hI : InvV nodes k vs) {x : Nod} (hx : nodes[k]? = some x) : Okv (valN nodes L vs x) x.width := by
  obtain ⟨ho, hw, hl, ha, hv, hf⟩ := nodeE_iff (hG k x hx)
  have ho' := within_iff.1 ho
  have hw' := within_iff.1 hw
  unfold valN
  split
  · rename_i h1
    unfold valE at hv
    rw [if_neg (by omega), if_pos h1] at hv
    split at hv
    · rename_i hin
      have hin' := within_iff.1 hin
      have hwd : leaves.getD x.value.toNat 0 = x.width := by simpa using (unlE_z (by decide)).1 hv
      have := hL.ok x.value.toNat (by omega)
      rw [hwd] at this
      exact this
    · exact absurd hv (by decide)
  · rename_i h1
    by_cases h0 : x.op = 0
    · unfold valE at hv
      rw [if_pos h0] at hv
      have hfi := (unlE_z (by decide)).1 hv
      unfold fitsB at hfi
      simp only [Bool.and_eq_true, decide_eq_true_eq] at hfi
      have := within_iff.1 hfi.2
      have e : appK x.op.toNat x (widsOf nodes x.args) (argsOf vs x.args) = x.value := by rw [h0]; rfl
      rw [e]
      exact ⟨this.1, by omega⟩
    · exact appK_in ⟨by omega, by omega⟩ (app_ok hG hI hx h1 h0)
theorem inv_step {leaves L : List Int} {nodes : List Nod} (hG : ∀ i x, nodes[i]? = some x → nodeE leaves nodes i x = 0) (hL : LeafOk leaves L) {k : Nat} {vs : List Int} (hI : InvV nodes k vs) {x : Nod} (hx : nodes[k]? = some x) : InvV nodes (k + 1) (vs ++ [valN nodes L vs x]) := by
  have hlen := hI.len
  refine ⟨by simp [hlen], fun j hj => ?_⟩
  by_cases h : j < k
  · rw [show (vs ++ [valN nodes L vs x]).getD j 0 = vs.getD j 0 by simp [List.getD, List.getElem?_append_left (show j < vs.length by omega)]]
    exact hI.ok j h
  · have : j = k := by omega
    subst this
    rw [show (vs ++ [valN nodes L vs x]).getD j 0 = valN nodes L vs x by simp [List.getD, ← hlen], widOf_get hx]
    exact val_in hG hL hI hx
end Go.Proofs.YtglelclmlkeheabGreatDoor.V

/- Larger graphs, by the reference. -/
namespace Go.Proofs.YtglelclmlkeheabGreatDoor.V
open Go (IntKind BinOp UnOp)
variable {π : Id}
theorem same_loopN (a : List Nod) (hal : a.length ≤ 1000) (hxa : ∀ x ∈ a, x.args.length ≤ 1000) : ∀ (suf pre : List Nod) (y : Env × Sto), a = pre ++ suf →
    mask [0, 1, 5] [] y = some ([(0, .p (encNodes a)), (1, .p (encNodes a)), (5, .p (I pre.length))], []) →
    kpO [] [4] [] (bkO 0 (iter (round EE iter π [] [0, 1, 5] c_ratchetbase_SameNodes_L0) y)) = some (.nm, [], [])
  | [], pre, y, h, hm => by
    rw [loop_eq hm]
    have : a = pre := by simpa using h
    simp [u_ratchetbase_SameNodes_L0, b_ratchetbase_SameNodes_L0, ← this]
  | z :: suf, pre, y, h, hm => by
    rw [loop_eq hm]
    have hlen : pre.length < a.length := by rw [h]; simp
    have hz := hxa z (by rw [h]; simp)
    have hin := fun π => e_Ints (π := π) z.args z.args (by simp only [top63]; omega)
    simp only [decide_true] at hin
    have hws := w_succ hlen (show a.length ≤ top63 by simp only [top63]; omega)
    have hnext := same_loopN a hal hxa suf (pre ++ [z])
    simp [u_ratchetbase_SameNodes_L0, b_ratchetbase_SameNodes_L0, lt_mid h, get_mid _ h, hin]
    exact hnext _ (by simp [h]) (by simp [hws])
theorem e_SameNodes (a : List Nod) (hal : a.length ≤ 1000) (hxa : ∀ x ∈ a, x.args.length ≤ 1000) : EE π n_ratchetbase_SameNodes [.p (encNodes a), .p (encNodes a)] [] = some (.p (.bool true), []) := by
  simp [e_ratchetbase_SameNodes, run_eq, c_ratchetbase_SameNodes]
  rw [same_loopN a hal hxa a [] _ rfl (by simp)]
  simp
def byN (D : List Int) (x : Nod) : Nod := { x with args := x.args.map fun n => D.getD n.toNat 0 }
end Go.Proofs.YtglelclmlkeheabGreatDoor.V

/- A graph folded, and a cone: in plain terms. -/
namespace Go.Proofs.YtglelclmlkeheabGreatDoor.V
open Go (IntKind BinOp UnOp)
variable {π : Id}
abbrev outAt (out : List Nod) (n : Int) : Nod := out.getD n.toNat nod0
abbrev isC (out : List Nod) (n : Int) : Bool := decide ((outAt out n).op = 0)
def closedB (out : List Nod) (x : Nod) : Bool := decide (x.args ≠ []) && x.args.all (isC out)
abbrev valsOf (out : List Nod) : List Int := out.map fun y => y.value
def foldX (nodes out : List Nod) (x : Nod) : Nod :=
  if closedB out x = true then ⟨0, x.width, [], appK x.op.toNat x (widsOf nodes x.args) (argsOf (valsOf out) x.args)⟩ else x
def foldN (nodes : List Nod) : List Nod → List Nod → List Nod
  | [], out => out
  | x :: r, out => foldN nodes r (out ++ [foldX nodes out x])
structure FoldOk (nodes : List Nod) (k : Nat) (out : List Nod) : Prop where
  len : out.length = k
  wid : ∀ j, j < k → (out.getD j nod0).width = widOf nodes (j : Int)
  con : ∀ j, j < k → (out.getD j nod0).op = 0 → Okv (out.getD j nod0).value (widOf nodes (j : Int))
theorem valsOf_getD (out : List Nod) (j : Nat) : (valsOf out).getD j 0 = (out.getD j nod0).value := by
  unfold valsOf
  rw [List.getD_eq_getElem?_getD, List.getD_eq_getElem?_getD, List.getElem?_map]
  cases out[j]? <;> rfl
theorem app_okF {leaves : List Int} {nodes : List Nod} (hG : ∀ i x, nodes[i]? = some x → nodeE leaves nodes i x = 0) {k : Nat} {out : List Nod} (hI : FoldOk nodes k out) {x : Nod} (hx : nodes[k]? = some x) (hc : closedB out x = true) :
    (2 ≤ x.op.toNat ∧ x.op.toNat < 19) ∧ AppOk x.op.toNat x (widsOf nodes x.args) (argsOf (valsOf out) x.args) := by
  obtain ⟨ho, hw, hl, ha, hv, hf⟩ := nodeE_iff (hG k x hx)
  have ho' := within_iff.1 ho
  have hw' := within_iff.1 hw
  unfold closedB at hc
  simp only [Bool.and_eq_true, decide_eq_true_eq] at hc
  obtain ⟨hne, hall⟩ := hc
  have h2 : 2 ≤ x.op.toNat := by
    rcases Nat.lt_or_ge x.op.toNat 2 with h | h
    · have : argc x.op.toNat = 0 := by
        rcases Nat.eq_zero_or_pos x.op.toNat with h0 | h0
        · rw [h0]; rfl
        · rw [show x.op.toNat = 1 by omega]; rfl
      rw [this] at hl
      exact absurd (List.length_eq_zero_iff.1 hl) hne
    · exact h
  refine ⟨⟨h2, by omega⟩, hw', by rw [List.length_map]; exact hl, by rw [List.length_map]; exact hl, fun i hi => ?_, hf, fun h14 => ?_⟩
  · have hil : i < x.args.length := by omega
    have hn := within_iff.1 (List.all_eq_true.1 ha x.args[i] (List.getElem_mem hil))
    have hcn := List.all_eq_true.1 hall x.args[i] (List.getElem_mem hil)
    simp only [isC, outAt, decide_eq_true_eq] at hcn
    have e1 : (widsOf nodes x.args).getD i 0 = widOf nodes x.args[i] := by simp [List.getD, hil]
    have e2 : (argsOf (valsOf out) x.args).getD i 0 = (valsOf out).getD x.args[i].toNat 0 := by simp [List.getD, hil]
    rw [e1, e2, valsOf_getD]
    have hj : x.args[i].toNat < k := by omega
    have hkl := (List.getElem?_eq_some_iff.1 hx).1
    have hjl : x.args[i].toNat < nodes.length := by omega
    have hy : nodes[x.args[i].toNat]? = some nodes[x.args[i].toNat] := List.getElem?_eq_getElem hjl
    have hcast : ((x.args[i].toNat : Nat) : Int) = x.args[i] := by omega
    have e3 := widOf_get hy
    rw [hcast] at e3
    have hwj := within_iff.1 (nodeE_iff (hG _ _ hy)).2.1
    have hok := hI.con _ hj hcn
    rw [hcast] at hok
    exact ⟨by rw [e3]; exact hwj, hok⟩
  · unfold valE at hv
    rw [if_neg (by omega), if_neg (by omega), if_pos (by omega)] at hv
    exact within_iff.1 ((unlE_z (by decide)).1 hv)
theorem fold_step {leaves : List Int} {nodes : List Nod} (hG : ∀ i x, nodes[i]? = some x → nodeE leaves nodes i x = 0) {k : Nat} {out : List Nod} (hI : FoldOk nodes k out) {x : Nod} (hx : nodes[k]? = some x) : FoldOk nodes (k + 1) (out ++ [foldX nodes out x]) := by
  have hlen := hI.len
  have hlt (j : Nat) (h : j < k) : (out ++ [foldX nodes out x]).getD j nod0 = out.getD j nod0 := by
    simp [List.getD, List.getElem?_append_left (show j < out.length by omega)]
  have hk : (out ++ [foldX nodes out x]).getD k nod0 = foldX nodes out x := by simp [List.getD, ← hlen]
  refine ⟨by simp [hlen], fun j hj => ?_, fun j hj h0 => ?_⟩
  · by_cases h : j < k
    · rw [hlt j h]; exact hI.wid j h
    · have : j = k := by omega
      subst this
      rw [hk, widOf_get hx]
      unfold foldX; split <;> rfl
  · by_cases h : j < k
    · rw [hlt j h] at h0 ⊢; exact hI.con j h h0
    · have : j = k := by omega
      subst this
      rw [hk] at h0 ⊢
      rw [widOf_get hx]
      unfold foldX at h0 ⊢
      split
      · rename_i hc
        obtain ⟨hk2, hok⟩ := app_okF hG hI hx hc
        exact appK_in hk2 hok
      · rename_i hc
        rw [if_neg hc] at h0
        obtain ⟨ho, hw, hl, ha, hv, hf⟩ := nodeE_iff (hG j x hx)
        have hw' := within_iff.1 hw
        unfold valE at hv
        rw [if_pos h0] at hv
        have hfi := (unlE_z (by decide)).1 hv
        unfold fitsB at hfi
        simp only [Bool.and_eq_true, decide_eq_true_eq] at hfi
        have := within_iff.1 hfi.2
        exact ⟨this.1, by omega⟩
theorem FoldOk.zero (nodes : List Nod) : FoldOk nodes 0 [] := ⟨rfl, fun j hj => absurd hj (by simp), fun j hj => absurd hj (by simp)⟩
theorem foldN_len (nodes : List Nod) : ∀ (l out : List Nod), (foldN nodes l out).length = out.length + l.length
  | [], out => by simp [foldN]
  | x :: r, out => by rw [foldN, foldN_len nodes r]; simp; omega
def coneN : List Bool → List Nod → List Nod → List Int → List Nod × List Int
  | b :: B, x :: r, out, to => if b = true then coneN B r (out ++ [byN to x]) (to ++ [(out.length : Int)]) else coneN B r out (to ++ [0])
  | _, _, out, to => (out, to)
theorem getD_zeros (to : List Int) (k j : Nat) : (to ++ List.replicate k 0).getD j 0 = to.getD j 0 := by
  rw [List.getD_eq_getElem?_getD, List.getD_eq_getElem?_getD]
  rcases Nat.lt_or_ge j to.length with h | h
  · rw [List.getElem?_append_left h]
  · rw [List.getElem?_append_right h, List.getElem?_replicate, List.getElem?_eq_none h]
    split <;> rfl
theorem byN_zeros (to : List Int) (k : Nat) (x : Nod) : byN (to ++ List.replicate k 0) x = byN to x := by
  unfold byN
  congr 1
  exact List.map_congr_left fun n _ => getD_zeros to k n.toNat
end Go.Proofs.YtglelclmlkeheabGreatDoor.V

/- The values of all nodes, in the program. -/
namespace Go.Proofs.YtglelclmlkeheabGreatDoor.V
open Go (IntKind BinOp UnOp)
variable {π : Id}
@[simp] theorem idsL_p : ∀ l : List PV, AV.ids.AV.idsL (l.map AV.p) = []
  | [] => rfl
  | x :: r => by rw [List.map_cons]; simp only [AV.ids.AV.idsL, AV.ids, idsL_p r]; rfl
theorem mapM_p11 (s : Sto) : ∀ l : List PV, l.mapM (toPV s 11 ∘ AV.p) = some l
  | [] => rfl
  | x :: r => by
    rw [List.mapM_cons, mapM_p11 s r]; rfl
@[simp] theorem kill_p (i : Id) : (AV.kill i ∘ AV.p) = AV.p := rfl
abbrev boxOps : Blk := .box false (opsPV.map AV.p)
theorem valued_loop (fl : Option Bool) {leaves L : List Int} {nodes : List Nod} (hnl : nodes.length ≤ 1000) (hal : ∀ x ∈ nodes, x.args.length ≤ 1000) (hll : leaves.length ≤ 1000) (hG : ∀ i x, nodes[i]? = some x → nodeE leaves nodes i x = 0) (hL : LeafOk leaves L) :
    ∀ (suf pre : List Nod) (vs : List Int) (y : Env × Sto), nodes = pre ++ suf → InvV nodes pre.length vs →
    mask [0, 1, 5, 6, 11, 12, 13] [] y = some ([(0, .p (encNodes nodes)), (1, .p (.sl 1 fl (ints L))), (5, .ref (5 :: π) 0), (6, .ap (1006 :: π)), (11, .p (encNodes nodes)), (12, .p (I nodes.length)), (13, .p (I pre.length))], [rowI (1006 :: π) (flagE pre) vs, (5 :: π, boxOps)]) →
    kpO [6] [4] [] (bkO 0 (iter (round EE iter π [] [0, 1, 5, 6, 11, 12, 13] c_graph_valued_L0) y)) = some (.nm, [(6, .ap (1006 :: π))], [rowI (1006 :: π) (flagE nodes) (valsN nodes L suf vs)])
  | [], pre, vs, y, h, hI, hm => by
    rw [loop_eq hm]
    have : nodes = pre := by simpa using h
    simp [u_graph_valued_L0, b_graph_valued_L0, valsN, ← this]
  | z :: suf, pre, vs, y, h, hI, hm => by
    rw [loop_eq hm]
    have hlen : pre.length < nodes.length := by rw [h]; simp
    have hz := hal z (by rw [h]; simp)
    have hx : nodes[pre.length]? = some z := by rw [h]; simp
    have hvl := hI.len
    have hws := w_succ hlen (show nodes.length ≤ top63 by simp only [top63]; omega)
    have hroom : vs.length + 1 ≤ room := by simp only [room]; omega
    have hnext := valued_loop fl hnl hal hll hG hL suf (pre ++ [z]) (vs ++ [valN nodes L vs z])
    rw [show (pre ++ [z]).length = pre.length + 1 by simp, flagE_snoc] at hnext
    have hnext := fun y e => hnext y e (inv_step hG hL hI hx)
    obtain ⟨ho, hw, hl2, ha, hv, hf⟩ := nodeE_iff (hG _ z hx)
    have ho' := within_iff.1 ho
    have hrs : valsN nodes L (z :: suf) vs = valsN nodes L suf (vs ++ [valN nodes L vs z]) := rfl
    rw [hrs]
    generalize valsN nodes L suf (vs ++ [valN nodes L vs z]) = RR at *
    by_cases h1 : z.op = 1
    · unfold valE at hv
      rw [if_neg (by omega), if_pos h1] at hv
      split at hv
      · rename_i hin
        have hin' := within_iff.1 hin
        have hLl := hL.len
        have hlt : z.value.toNat < L.length := by omega
        have hlt' : z.value < (L.length : Int) := by omega
        have hval : valN nodes L vs z = L[z.value.toNat] := by unfold valN; rw [if_pos h1]; simp [List.getD, hlt]
        rw [hval] at hnext
        simp [u_graph_valued_L0, b_graph_valued_L0, lt_mid h, get_mid _ h, h1, hin'.1, hlt, hlt', hroom]
        exact hnext _ (by simp [h]) (by simp [hws])
      · exact absurd hv (by decide)
    · have hap := fun π => e_applied (π := π) nodes vs z hz (fun n hn => by
        have := within_iff.1 (List.all_eq_true.1 ha n hn)
        omega) ⟨ho'.1, by omega⟩ h1 (fun h0 => app_ok hG hI hx h1 (by omega))
      have hval : valN nodes L vs z = appK z.op.toNat z (widsOf nodes z.args) (argsOf vs z.args) := by unfold valN; rw [if_neg h1]
      rw [← hval] at hap
      generalize valN nodes L vs z = r at *
      simp [u_graph_valued_L0, b_graph_valued_L0, lt_mid h, get_mid _ h, h1, hap, hroom, mapM_p11, ops_fg, freeze, evRO]
      exact hnext _ (by simp [h]) (by simp [hws])
theorem e_valued {fl : Option Bool} {leaves L : List Int} {nodes : List Nod} (hnl : nodes.length ≤ 1000) (hal : ∀ x ∈ nodes, x.args.length ≤ 1000) (hll : leaves.length ≤ 1000) (hG : ∀ i x, nodes[i]? = some x → nodeE leaves nodes i x = 0) (hL : LeafOk leaves L) :
    EE π n_graph_valued [.p (encNodes nodes), .p (.sl 1 fl (ints L))] [] = some (.ap (1006 :: π), [rowI (1006 :: π) (flagE nodes) (valsN nodes L nodes [])]) := by
  have hlp := valued_loop (π := π) fl hnl hal hll hG hL nodes [] []
  generalize valsN nodes L nodes [] = RR at *
  simp [-freeze, -PV.cell1, ops_c1, c1_sl, c1_int, e_graph_valued, run_eq, c_graph_valued, e_operations, freeze_ops, freeze_p, mapM_p', ops_fg, opsPV_len, evRO, thaw, thaw1]
  rw [hlp _ rfl ⟨rfl, fun j hj => absurd hj (by simp)⟩ (by simp [flagE])]
  simp
end Go.Proofs.YtglelclmlkeheabGreatDoor.V

/- A graph folded, in the program. -/
namespace Go.Proofs.YtglelclmlkeheabGreatDoor.V
open Go (IntKind BinOp UnOp)
variable {π : Id}
theorem fgL_M (l : List Nod) : PV.fg.PV.fgL (l.map encM) = l.map encNode := by
  induction l with
  | nil => rfl
  | cons x r ih => simp only [List.map_cons, PV.fg.PV.fgL, ih]; simp
theorem e_folded1 (n : Int) : EE π n_graph_FoldedOf_1 [.p (I n)] [] = some (.p (I n), []) := by
  simp [e_graph_FoldedOf_1, run_eq, c_graph_FoldedOf_1]
theorem e_folded2 (out : List Nod) (n : Int) (h : 0 ≤ n ∧ n < out.length) : EE π n_graph_FoldedOf_2 [.p (I n), .p (.ptr [encNodes out])] [] = some (.p (.bool (!isC out n)), []) := by
  have hlt : n.toNat < out.length := by omega
  have hgd : outAt out n = out[n.toNat] := by simp [outAt, List.getD, hlt]
  unfold isC
  rw [hgd]
  simp [e_graph_FoldedOf_2, run_eq, c_graph_FoldedOf_2, h.1, h.2, hlt]
theorem closed_any (out : List Nod) (x : Nod) : closedB out x = (decide (x.args ≠ []) && !x.args.any fun n => !isC out n) := by
  unfold closedB
  rw [List.not_any_eq_all_not]
  simp
abbrev stFA (π : Id) (fl : Option Bool) (V : List Int) (RM : List PV) : Sto := [rowI (1009 :: π) fl V, rowN (100008 :: π) fl RM, (8 :: π, .box false [.ap (100008 :: π)]), (7 :: π, boxOps)]
abbrev stFB (π : Id) (fl : Option Bool) (V : List Int) (RM : List PV) : Sto := [rowN (100008 :: π) fl RM, (8 :: π, .box false [.ap (100008 :: π)]), rowI (1009 :: π) fl V, (7 :: π, boxOps)]
theorem folded_round {leaves : List Int} {nodes : List Nod} (hG : ∀ i x, nodes[i]? = some x → nodeE leaves nodes i x = 0) (hnl : nodes.length ≤ 400) (hal : ∀ x ∈ nodes, x.args.length ≤ 1000)
    (z : Nod) (suf pre out : List Nod) (h : nodes = pre ++ z :: suf) (hI : FoldOk nodes pre.length out) (S : Sto) (hS : S = stFA π (flagE out) (valsOf out) (out.map encM) ∨ S = stFB π (flagE out) (valsOf out) (out.map encM)) (y : Env × Sto)
    (hm : mask [1, 7, 8, 9, 21, 22, 23] [] y = some ([(1, .p (encNodes nodes)), (7, .ref (7 :: π) 0), (8, .ref (8 :: π) 0), (9, .ap (1009 :: π)), (21, .p (encNodes nodes)), (22, .p (I nodes.length)), (23, .p (I pre.length))], S))
    (R : Ex × Env × Sto) (hnext : ∀ y, mask [1, 7, 8, 9, 21, 22, 23] [] y = some ([(1, .p (encNodes nodes)), (7, .ref (7 :: π) 0), (8, .ref (8 :: π) 0), (9, .ap (1009 :: π)), (21, .p (encNodes nodes)), (22, .p (I nodes.length)), (23, .p (I (pre.length + 1)))], stFB π (flagE (out ++ [foldX nodes out z])) (valsOf (out ++ [foldX nodes out z])) ((out ++ [foldX nodes out z]).map encM)) →
      kpO [8] [4, 5] [] (bkO 0 (iter (round EE iter π [] [1, 7, 8, 9, 21, 22, 23] c_graph_FoldedOf_L0) y)) = some R) :
    kpO [8] [4, 5] [] (bkO 0 (iter (round EE iter π [] [1, 7, 8, 9, 21, 22, 23] c_graph_FoldedOf_L0) y)) = some R := by
  rw [loop_eq hm]
  have hlen : pre.length < nodes.length := by rw [h]; simp
  have hx : nodes[pre.length]? = some z := by rw [h]; simp
  have hza := hal z (by rw [h]; simp)
  have hws := w_succ hlen (show nodes.length ≤ top63 by simp only [top63]; omega)
  have hol := hI.len
  have hroom : out.length + 1 ≤ room := by simp only [room]; omega
  have hRl : (out.map encM).length = out.length := by simp
  have hVl : (valsOf out).length = out.length := by simp
  have hzi : ∀ n ∈ z.args, 0 ≤ n ∧ n < (out.length : Int) := fun n hn => by
    have := within_iff.1 (List.all_eq_true.1 (nodeE_iff (hG _ z hx)).2.2.2.1 n hn)
    omega
  have hmv := fun π => e_moved (π := π) z hza (f := n_graph_FoldedOf_1) (caps := []) (g := fun n => n) (fun n _ => by simpa using e_folded1 n)
  simp only [List.map_id'] at hmv
  have hcf := fun π => e_ContainsFuncI (π := π) z.args (by simp only [top63]; omega) (f := n_graph_FoldedOf_2) (caps := [.ptr [encNodes out]]) (p := fun n => !isC out n) (fun n hn => by
    simpa using e_folded2 (π := 16 :: 7 :: π) out n (hzi n hn))
  have hRf := fgL_M out
  have hca := (closed_any out z).symm
  rw [flagE_snoc, show (out ++ [foldX nodes out z]).map encM = out.map encM ++ [encM (foldX nodes out z)] by simp, show valsOf (out ++ [foldX nodes out z]) = valsOf out ++ [(foldX nodes out z).value] by simp] at hnext
  cases hc : closedB out z with
  | true =>
    obtain ⟨hk, hok⟩ := app_okF hG hI hx hc
    rw [hc] at hca
    simp only [Bool.and_eq_true, decide_eq_true_eq, Bool.not_eq_true'] at hca
    obtain ⟨hne, hb⟩ := hca
    have hp : 0 < z.args.length := List.length_pos_iff.2 hne
    rw [hb] at hcf
    have hap := fun π => e_applied (π := π) nodes (valsOf out) z hza (fun n hn => by have := hzi n hn; omega) ⟨by omega, by omega⟩ (by omega) (fun _ => hok)
    have hfx : foldX nodes out z = ⟨0, z.width, [], appK z.op.toNat z (widsOf nodes z.args) (argsOf (valsOf out) z.args)⟩ := by unfold foldX; rw [if_pos hc]
    rw [hfx] at hnext
    generalize appK z.op.toNat z (widsOf nodes z.args) (argsOf (valsOf out) z.args) = r at *
    have hcs := fun π => e_constant (π := π) z.width r
    generalize valsOf out = V at *
    generalize out.map encM = RM at *
    rcases hS with rfl | rfl
    · simp [u_graph_FoldedOf_L0, b_graph_FoldedOf_L0, lt_mid h, get_mid _ h, hmv, hcf, hRf, hp, hap, hcs, hroom, hRl, hVl, mapM_p11, ops_fg, freeze, evRO]
      exact hnext _ (by simp [hws, flagE])
    · simp [u_graph_FoldedOf_L0, b_graph_FoldedOf_L0, lt_mid h, get_mid _ h, hmv, hcf, hRf, hp, hap, hcs, hroom, hRl, hVl, mapM_p11, ops_fg, freeze, evRO]
      exact hnext _ (by simp [hws, flagE])
  | false =>
    have hfx : foldX nodes out z = z := by unfold foldX; rw [if_neg (by simp [hc])]
    rw [hfx] at hnext
    rw [hc] at hca
    generalize valsOf out = V at *
    generalize out.map encM = RM at *
    by_cases hne : z.args = []
    · have hp : z.args.length = 0 := by rw [hne]; rfl
      rcases hS with rfl | rfl
      · simp [u_graph_FoldedOf_L0, b_graph_FoldedOf_L0, lt_mid h, get_mid _ h, hmv, hcf, hRf, hp, hroom, hRl, hVl, mapM_p11, ops_fg, freeze, evRO]
        exact hnext _ (by simp [hws])
      · simp [u_graph_FoldedOf_L0, b_graph_FoldedOf_L0, lt_mid h, get_mid _ h, hmv, hcf, hRf, hp, hroom, hRl, hVl, mapM_p11, ops_fg, freeze, evRO]
        exact hnext _ (by simp [hws])
    · have hp : 0 < z.args.length := List.length_pos_iff.2 hne
      have hb : (z.args.any fun n => !isC out n) = true := by
        cases hbb : (z.args.any fun n => !isC out n) with
        | true => rfl
        | false => rw [hbb] at hca; simp [hne] at hca
      rw [hb] at hcf
      rcases hS with rfl | rfl
      · simp [u_graph_FoldedOf_L0, b_graph_FoldedOf_L0, lt_mid h, get_mid _ h, hmv, hcf, hRf, hp, hroom, hRl, hVl, mapM_p11, ops_fg, freeze, evRO]
        exact hnext _ (by simp [hws])
      · simp [u_graph_FoldedOf_L0, b_graph_FoldedOf_L0, lt_mid h, get_mid _ h, hmv, hcf, hRf, hp, hroom, hRl, hVl, mapM_p11, ops_fg, freeze, evRO]
        exact hnext _ (by simp [hws])
theorem folded_loop {leaves : List Int} {nodes : List Nod} (hG : ∀ i x, nodes[i]? = some x → nodeE leaves nodes i x = 0) (hnl : nodes.length ≤ 400) (hal : ∀ x ∈ nodes, x.args.length ≤ 1000) :
    ∀ (suf pre out : List Nod) (S : Sto) (y : Env × Sto), nodes = pre ++ suf → FoldOk nodes pre.length out → (S = stFA π (flagE out) (valsOf out) (out.map encM) ∨ S = stFB π (flagE out) (valsOf out) (out.map encM)) →
    mask [1, 7, 8, 9, 21, 22, 23] [] y = some ([(1, .p (encNodes nodes)), (7, .ref (7 :: π) 0), (8, .ref (8 :: π) 0), (9, .ap (1009 :: π)), (21, .p (encNodes nodes)), (22, .p (I nodes.length)), (23, .p (I pre.length))], S) →
    kpO [8] [4, 5] [] (bkO 0 (iter (round EE iter π [] [1, 7, 8, 9, 21, 22, 23] c_graph_FoldedOf_L0) y)) = some (.nm, [(8, .ref (8 :: π) 0)], [rowN (100008 :: π) (flagE (foldN nodes suf out)) ((foldN nodes suf out).map encM), (8 :: π, .box false [.ap (100008 :: π)])])
  | [], pre, out, S, y, h, hI, hS, hm => by
    rw [loop_eq hm]
    have : nodes = pre := by simpa using h
    rcases hS with rfl | rfl <;> simp [u_graph_FoldedOf_L0, b_graph_FoldedOf_L0, ← this, foldN]
  | z :: suf, pre, out, S, y, h, hI, hS, hm => by
    have hx : nodes[pre.length]? = some z := by rw [h]; simp
    have hnext := folded_loop hG hnl hal suf (pre ++ [z]) (out ++ [foldX nodes out z])
    rw [foldN]
    refine folded_round hG hnl hal z suf pre out h hI S hS y hm _ fun y' hm' => ?_
    exact hnext _ y' (by simp [h]) (by rw [List.length_append]; exact fold_step hG hI hx) (.inr rfl) (by rw [hm']; simp)
theorem e_FoldedOf (leaves : List Int) (nodes : List Nod) (hal : ∀ x ∈ nodes, x.args.length ≤ 1000) :
    EE π n_graph_FoldedOf [.p (encInts leaves), .p (encNodes nodes)] [] = if (checkE leaves nodes).2 = 0 then some (.tup [.ap (100008 :: π), .p (I 0)], [rowN (100008 :: π) (flagE (foldN nodes nodes [])) ((foldN nodes nodes []).map encM)])
      else some (.p (.tup [.sl 4 (some true) [], I (checkE leaves nodes).2]), []) := by
  have hge := fun π => e_graphErr (π := π) leaves nodes hal
  have hlp : (checkE leaves nodes).2 = 0 → _ := fun h => folded_loop (π := π) (leaves := leaves) (checkE_nodes h) (checkE_leaves h).2.1 hal nodes [] []
  generalize (checkE leaves nodes).2 = c at *
  by_cases hc : c = 0
  · have hlp := hlp hc
    rw [if_pos hc]
    generalize foldN nodes nodes [] = R at *
    simp [-freeze, -PV.cell1, ops_c1, c1_sl, c1_int, e_graph_FoldedOf, run_eq, c_graph_FoldedOf, hge, hc, e_operations, freeze_ops, freeze_p, mapM_p', ops_fg, opsPV_len, evRO, thaw, thaw1]
    rw [hlp _ _ rfl (FoldOk.zero nodes) (.inl rfl) (by simp [flagE])]
    simp
  · rw [if_neg hc]
    simp [e_graph_FoldedOf, run_eq, c_graph_FoldedOf, hge, hc, freeze, evRO]
end Go.Proofs.YtglelclmlkeheabGreatDoor.V

/- A graph shared: in plain terms; keys of nodes. -/
namespace Go.Proofs.YtglelclmlkeheabGreatDoor.V
open Go (IntKind BinOp UnOp Value Lit)
variable {π : Id}
def sameN (a b : Nod) : Bool := decide (a.op = b.op) && decide (a.width = b.width) && decide (a.value = b.value) && decide (a.args = b.args)
theorem sameN_iff {a b : Nod} : sameN a b = true ↔ a = b := by
  obtain ⟨a1, a2, a3, a4⟩ := a
  obtain ⟨b1, b2, b3, b4⟩ := b
  simp only [sameN, Bool.and_eq_true, decide_eq_true_eq, Nod.mk.injEq]
  constructor
  · rintro ⟨⟨⟨rfl, rfl⟩, rfl⟩, rfl⟩; exact ⟨rfl, rfl, rfl, rfl⟩
  · rintro ⟨rfl, rfl, rfl, rfl⟩; exact ⟨⟨⟨rfl, rfl⟩, rfl⟩, rfl⟩
def findN (y : Nod) : Nat → List Nod → Option Nat
  | _, [] => none
  | i, z :: r => if sameN z y = true then some i else findN y (i + 1) r
def sharedN : List Nod → List Nod → List Int → List Nod × List Int
  | [], out, to => (out, to)
  | x :: r, out, to => match findN (byN to x) 0 out with
    | some k => sharedN r out (to ++ [(k : Int)])
    | none => sharedN r (out ++ [byN to x]) (to ++ [(out.length : Int)])
theorem findN_lt {y : Nod} : ∀ {l : List Nod} {i k : Nat}, findN y i l = some k → k < i + l.length
  | [], i, k, h => by simp [findN] at h
  | z :: r, i, k, h => by
    unfold findN at h
    split at h
    · simp at h; subst h; simp
    · have := findN_lt h
      simp; omega
abbrev keyP (y : Nod) : PV := .agg [I y.op, I y.width, I y.value, I (y.args.getD 0 0), I (y.args.getD 1 0), I (y.args.getD 2 0)]
abbrev IV (n : Int) : Value := .int .i64 n
def keyU (y : Nod) : Value := .agg #[IV y.op, IV y.width, IV y.value, IV (y.args.getD 0 0), IV (y.args.getD 1 0), IV (y.args.getD 2 0)]
def zU : Value := .agg #[IV 0, IV 0, IV 0, IV 0, IV 0, IV 0]
structure KeyOk (y : Nod) : Prop where
  op : ok64 y.op
  width : ok64 y.width
  value : ok64 y.value
  args : ∀ n ∈ y.args, ok64 n
  len : y.args.length = argc y.op.toNat
theorem getD_ok {y : Nod} (h : KeyOk y) (i : Nat) : ok64 (y.args.getD i 0) := by
  rw [List.getD_eq_getElem?_getD]
  cases hi : y.args[i]? with
  | none => exact ⟨by decide, by decide⟩
  | some n => exact h.args n (List.mem_of_getElem? hi)
theorem wf64 {n : Int} (h : ok64 n) : (Lit.int .i64 n).wf = true := by
  have : (Lit.int .i64 n).wf = (decide (-9223372036854775808 ≤ n) && decide (n ≤ 9223372036854775807)) := rfl
  rw [this]
  simp [h.1, h.2]
theorem keyV6 {a b c d e f : Int} (ha : ok64 a) (hb : ok64 b) (hc : ok64 c) (hd : ok64 d) (he : ok64 e) (hf : ok64 f) : keyV (.agg [I a, I b, I c, I d, I e, I f]) = some (.agg #[IV a, IV b, IV c, IV d, IV e, IV f]) := by
  simp [keyV, cellOf, I, wf64 ha, wf64 hb, wf64 hc, wf64 hd, wf64 he, wf64 hf, IV]
theorem like6 {a b c d e f : Int} (ha : ok64 a) (hb : ok64 b) (hc : ok64 c) (hd : ok64 d) (he : ok64 e) (hf : ok64 f) : likeV zU (.agg #[IV a, IV b, IV c, IV d, IV e, IV f]) = true := by
  simp [likeV, zU, IV, isAgg', cellsV, alikeB, wf64 ha, wf64 hb, wf64 hc, wf64 hd, wf64 he, wf64 hf]
theorem keyV_keyP {y : Nod} (h : KeyOk y) : keyV (keyP y) = some (keyU y) := keyV6 h.op h.width h.value (getD_ok h 0) (getD_ok h 1) (getD_ok h 2)
theorem likeV_keyU {y : Nod} (h : KeyOk y) : likeV zU (keyU y) = true := like6 h.op h.width h.value (getD_ok h 0) (getD_ok h 1) (getD_ok h 2)
theorem argc_le3 (k : Nat) : argc k ≤ 3 := by
  unfold argc; split <;> decide
theorem sameV_keyU {a b : Nod} (ha : KeyOk a) (hb : KeyOk b) : sameV (keyU a) (keyU b) = sameN a b := by
  obtain ⟨a1, a2, a3, a4⟩ := a
  obtain ⟨b1, b2, b3, b4⟩ := b
  have hla := ha.len
  have hlb := hb.len
  simp only at hla hlb
  rw [Bool.eq_iff_iff, sameN_iff]
  simp only [sameV, keyU, cellsV, sameB, IV, Bool.and_eq_true, decide_eq_true_eq, and_true, Nod.mk.injEq]
  constructor
  · rintro ⟨rfl, rfl, rfl, h1, h2, h3⟩
    refine ⟨rfl, rfl, ?_, rfl⟩
    have h3' := argc_le3 a1.toNat
    apply List.ext_getElem?
    intro i
    rcases Nat.lt_or_ge i a3.length with hi | hi
    · have hi' : i < b3.length := by omega
      have e : a3.getD i 0 = b3.getD i 0 := by
        match i with
        | 0 => exact h1
        | 1 => exact h2
        | 2 => exact h3
        | i + 3 => omega
      simp [List.getD, hi, hi'] at e
      simp [hi, hi', e]
    · rw [List.getElem?_eq_none hi, List.getElem?_eq_none (by omega)]
  · rintro ⟨rfl, rfl, rfl, rfl⟩
    exact ⟨rfl, rfl, rfl, rfl, rfl, rfl⟩
def entsF : Nat → List Nod → List (PV × PV)
  | _, [] => []
  | i, y :: r => (keyP y, I i) :: entsF (i + 1) r
theorem entsF_snoc : ∀ (l : List Nod) (i : Nat) (y : Nod), entsF i (l ++ [y]) = entsF i l ++ [(keyP y, I ((i + l.length : Nat) : Int))]
  | [], i, y => by simp [entsF]
  | z :: r, i, y => by
    simp only [List.cons_append, entsF]
    rw [entsF_snoc r (i + 1) y, List.length_cons, show i + 1 + r.length = i + (r.length + 1) by omega]
theorem keysLike_ents : ∀ {l : List Nod} {i : Nat}, (∀ y ∈ l, KeyOk y) → keysLike zU (entsF i l) = true
  | [], i, _ => rfl
  | y :: r, i, h => by
    have h1 := keysLike_ents (l := r) (i := i + 1) fun z hz => h z (by simp [hz])
    unfold keysLike at h1 ⊢
    simp only [entsF, List.all_cons, keyV_keyP (h y (by simp)), likeV_keyU (h y (by simp)), Bool.true_and]
    exact h1
theorem lookE_ents {y : Nod} (hy : KeyOk y) : ∀ {l : List Nod} {i j : Nat}, (∀ y ∈ l, KeyOk y) → lookE (keyU y) i (entsF j l) = some ((findN y j l).map fun k => (k - j + i, I k))
  | [], i, j, _ => rfl
  | z :: r, i, j, h => by
    have ih := lookE_ents hy (l := r) (i := i + 1) (j := j + 1) fun z hz => h z (by simp [hz])
    unfold lookE findN entsF
    simp only [keyV_keyP (h z (by simp)), sameV_keyU (h z (by simp)) hy]
    split
    · simp
    · rw [ih]
      cases hf : findN y (j + 1) r with
      | none => rfl
      | some k =>
        have : j + 1 ≤ k := by
          clear ih
          have mono : ∀ (l : List Nod) (i k : Nat), findN y i l = some k → i ≤ k := by
            intro l
            induction l with
            | nil => intro i k h; simp [findN] at h
            | cons z r ih =>
              intro i k h
              unfold findN at h
              split at h
              · simp at h; omega
              · have := ih (i + 1) k h; omega
          exact mono r _ _ hf
        simp
        omega
end Go.Proofs.YtglelclmlkeheabGreatDoor.V

/- A graph shared, in the program. -/
namespace Go.Proofs.YtglelclmlkeheabGreatDoor.V
open Go (IntKind BinOp UnOp Value Lit)
variable {π : Id}
theorem e_mapped1 (n : Int) (D : List Int) (nl : Option Bool) (h : 0 ≤ n ∧ n < D.length) : EE π n_graph_mapped_1 [.p (I n), .p (.ptr [.sl 1 nl (ints D)])] [] = some (.p (I (D.getD n.toNat 0)), []) := by
  have hlt : n.toNat < D.length := by omega
  have hgd : D.getD n.toNat 0 = D[n.toNat] := by simp [List.getD, hlt]
  rw [hgd]
  simp [e_graph_mapped_1, run_eq, c_graph_mapped_1, h.1, h.2, hlt]
def stepS (x : Nod) (r : List Nod × List Int) : List Nod × List Int := match findN (byN r.2 x) 0 r.1 with
  | some k => (r.1, r.2 ++ [(k : Int)])
  | none => (r.1 ++ [byN r.2 x], r.2 ++ [(r.1.length : Int)])
theorem sharedN_step (x : Nod) (l out : List Nod) (to : List Int) : sharedN (x :: l) out to = sharedN l (stepS x (out, to)).1 (stepS x (out, to)).2 := by
  unfold stepS
  rw [sharedN]
  cases findN (byN to x) 0 out <;> rfl
structure ShOk (k : Nat) (out : List Nod) (to : List Int) : Prop where
  len : to.length = k
  in_ : ∀ n ∈ to, 0 ≤ n ∧ n < (out.length : Int)
  le : out.length ≤ k
  key : ∀ z ∈ out, KeyOk z
theorem ShOk.step {k : Nat} {out : List Nod} {to : List Int} (h : ShOk k out to) {x : Nod} (hk : KeyOk (byN to x)) : ShOk (k + 1) (stepS x (out, to)).1 (stepS x (out, to)).2 := by
  unfold stepS
  cases hf : findN (byN to x) 0 out with
  | some i =>
    have := findN_lt hf
    refine ⟨by simp [h.len], fun n hn => ?_, by have := h.le; simp only; omega, h.key⟩
    simp only [List.mem_append, List.mem_singleton] at hn
    rcases hn with hn | rfl
    · exact h.in_ n hn
    · simp only; omega
  | none =>
    refine ⟨by simp [h.len], fun n hn => ?_, by have := h.le; simp only [List.length_append, List.length_singleton]; omega, fun z hz => ?_⟩
    · simp only [List.mem_append, List.mem_singleton] at hn
      simp only [List.length_append, List.length_singleton]
      rcases hn with hn | rfl
      · have := h.in_ n hn; omega
      · omega
    · simp only [List.mem_append, List.mem_singleton] at hz
      rcases hz with hz | rfl
      · exact h.key z hz
      · exact hk
theorem key_byN {leaves : List Int} {nodes : List Nod} {i : Nat} {x : Nod} (h : nodeE leaves nodes i x = 0) (hv : ok64 x.value) {k : Nat} (hk : k ≤ 1000) {out : List Nod} {to : List Int} (hs : ShOk k out to) : KeyOk (byN to x) := by
  obtain ⟨ho, hw, hl, _⟩ := nodeE_iff h
  have ho := within_iff.1 ho
  have hw := within_iff.1 hw
  refine ⟨⟨by show -9223372036854775808 ≤ x.op; omega, by show x.op ≤ 9223372036854775807; omega⟩, ⟨by show -9223372036854775808 ≤ x.width; omega, by show x.width ≤ 9223372036854775807; omega⟩, hv, fun n hn => ?_, ?_⟩
  · obtain ⟨m, _, rfl⟩ := List.mem_map.1 hn
    rw [List.getD_eq_getElem?_getD]
    cases hi : to[m.toNat]? with
    | none => exact ⟨by decide, by decide⟩
    | some n =>
      have := hs.in_ n (List.mem_of_getElem? hi)
      have := hs.le
      exact ⟨by simp only [Option.getD_some]; omega, by simp only [Option.getD_some]; omega⟩
  · show (x.args.map _).length = _
    rw [List.length_map]
    exact hl
theorem shape3 {x : Nod} {k : Nat} (h : x.args.length = argc k) : (∃ o w v, x = ⟨o, w, [], v⟩) ∨ (∃ o w a v, x = ⟨o, w, [a], v⟩) ∨ (∃ o w a b v, x = ⟨o, w, [a, b], v⟩) ∨ (∃ o w a b c v, x = ⟨o, w, [a, b, c], v⟩) := by
  have := argc_le3 k
  obtain ⟨o, w, l, v⟩ := x
  match l, h with
  | [], _ => exact .inl ⟨o, w, v, rfl⟩
  | [a], _ => exact .inr (.inl ⟨o, w, a, v, rfl⟩)
  | [a, b], _ => exact .inr (.inr (.inl ⟨o, w, a, b, v, rfl⟩))
  | [a, b, c], _ => exact .inr (.inr (.inr ⟨o, w, a, b, c, v, rfl⟩))
  | _ :: _ :: _ :: _ :: _, h => simp at h; omega
theorem keyV_zK : keyV (.agg [I 0, I 0, I 0, I 0, I 0, I 0]) = some zU := keyV6 (by decide) (by decide) (by decide) (by decide) (by decide) (by decide)
set_option maxHeartbeats 1000000 in
theorem shared_loop {leaves : List Int} {nodes : List Nod} (hG : ∀ i x, nodes[i]? = some x → nodeE leaves nodes i x = 0) (hnl : nodes.length ≤ 400) (hv : ∀ x ∈ nodes, ok64 x.value) :
    ∀ (suf pre out : List Nod) (to : List Int) (y : Env × Sto), nodes = pre ++ suf → ShOk pre.length out to →
    mask [8, 9, 10, 24, 25, 26] [] y = some ([(8, .mp (23 :: π)), (9, .ap (1009 :: π)), (10, .ap (1010 :: π)), (24, .p (encNodes nodes)), (25, .p (I nodes.length)), (26, .p (I pre.length))], [rowI (1010 :: π) (flagE to) to, rowN (1009 :: π) (flagE out) (out.map encM), (23 :: π, .mpb (entsF 0 out))]) →
    kpO [9, 10] [4, 5, 6] [] (bkO 0 (iter (round EE iter π [] [8, 9, 10, 24, 25, 26] c_graph_SharedOf_L0) y)) = some (.nm, [(9, .ap (1009 :: π)), (10, .ap (1010 :: π))], [rowI (1010 :: π) (flagE (sharedN suf out to).2) (sharedN suf out to).2, rowN (1009 :: π) (flagE (sharedN suf out to).1) ((sharedN suf out to).1.map encM)])
  | [], pre, out, to, y, h, hs, hm => by
    rw [loop_eq hm]
    have : nodes = pre := by simpa using h
    simp [u_graph_SharedOf_L0, b_graph_SharedOf_L0, ← this, sharedN]
  | z :: suf, pre, out, to, y, h, hs, hm => by
    rw [loop_eq hm]
    have hlen : pre.length < nodes.length := by rw [h]; simp
    have hz := hG pre.length z (by rw [h]; simp)
    have hkz := key_byN hz (hv z (by rw [h]; simp)) (by omega) hs
    have hs' := hs.step hkz
    have hnext := shared_loop hG hnl hv suf (pre ++ [z]) (stepS z (out, to)).1 (stepS z (out, to)).2
    have hkl := keysLike_ents (i := 0) hs.key
    have hlook := lookE_ents hkz (i := 0) (j := 0) hs.key
    have hke := keyV_keyP hkz
    have hli := likeV_keyU hkz
    have hle := hs.le
    have htl := hs.len
    have hws := w_succ hlen (show nodes.length ≤ top63 by simp only [top63]; omega)
    have hroomO : (out.map encM).length + 1 ≤ room := by rw [List.length_map]; simp only [room]; omega
    have hroomT : to.length + 1 ≤ room := by simp only [room]; omega
    rw [sharedN_step]
    have hin : ∀ n ∈ z.args, 0 ≤ n ∧ n < to.length := fun n hn => by
      have := within_iff.1 (List.all_eq_true.1 (nodeE_iff hz).2.2.2.1 n hn)
      omega
    have hmv := fun π => e_moved (π := π) z (by have := (nodeE_iff hz).2.2.1; have := argc_le3 z.op.toNat; omega) (f := n_graph_mapped_1) (caps := [.ptr [.sl 1 none (ints to)]]) (g := fun n => to.getD n.toNat 0) (fun n hn => by simpa using e_mapped1 n to none (hin n hn))
    rw [show (pre ++ [z]).length = pre.length + 1 by simp] at hnext
    rcases shape3 (nodeE_iff hz).2.2.1 with ⟨o, w, v, rfl⟩ | ⟨o, w, a, v, rfl⟩ | ⟨o, w, a, b, v, rfl⟩ | ⟨o, w, a, b, c, v, rfl⟩
    · unfold stepS at hs' hnext ⊢
      simp only [byN, List.map_cons, List.map_nil] at hkz hs' hnext hke hli hlook hmv ⊢
      simp [keyP] at hke
      simp only [encNode, encInts, ints, List.map_cons, List.map_nil] at hmv
      cases hf : findN ⟨o, w, [], v⟩ 0 out with
      | none =>
        simp only [hf, Option.map_none] at hlook hs' hnext ⊢
        simp only [List.map_append, List.map_cons, List.map_nil, flagE_snoc, entsF_snoc, Nat.zero_add] at hnext
        have hRl : (out.map encM).length = out.length := by simp
        generalize entsF 0 out = EN at *
        generalize out.map encM = R at *
        simp [u_graph_SharedOf_L0, b_graph_SharedOf_L0, lt_mid h, get_mid _ h, hmv, hroomO, hroomT, freeze, evRO, toPV, reach, hke, hli, hkl, hlook, keyV_zK, AV.clean, AV.clean.AV.cleanL, Blk.clean, PV.clean]
        exact hnext _ (by simp [h]) hs' (by simp [hws, hRl, putE, flagE])
      | some k =>
        simp only [hf, Option.map_some] at hlook hs' hnext ⊢
        simp only [flagE_snoc] at hnext
        generalize entsF 0 out = EN at *
        generalize out.map encM = R at *
        simp [u_graph_SharedOf_L0, b_graph_SharedOf_L0, lt_mid h, get_mid _ h, hmv, hroomO, hroomT, freeze, evRO, toPV, reach, hke, hli, hkl, hlook, keyV_zK, AV.clean, AV.clean.AV.cleanL, Blk.clean, PV.clean]
        exact hnext _ (by simp [h]) hs' (by simp [hws])
    · unfold stepS at hs' hnext ⊢
      simp only [byN, List.map_cons, List.map_nil] at hkz hs' hnext hke hli hlook hmv ⊢
      generalize to.getD a.toNat 0 = a' at *
      simp [keyP] at hke
      simp only [encNode, encInts, ints, List.map_cons, List.map_nil] at hmv
      cases hf : findN ⟨o, w, [a'], v⟩ 0 out with
      | none =>
        simp only [hf, Option.map_none] at hlook hs' hnext ⊢
        simp only [List.map_append, List.map_cons, List.map_nil, flagE_snoc, entsF_snoc, Nat.zero_add] at hnext
        have hRl : (out.map encM).length = out.length := by simp
        generalize entsF 0 out = EN at *
        generalize out.map encM = R at *
        simp [u_graph_SharedOf_L0, b_graph_SharedOf_L0, lt_mid h, get_mid _ h, hmv, hroomO, hroomT, freeze, evRO, toPV, reach, hke, hli, hkl, hlook, keyV_zK, AV.clean, AV.clean.AV.cleanL, Blk.clean, PV.clean]
        exact hnext _ (by simp [h]) hs' (by simp [hws, hRl, putE, flagE])
      | some k =>
        simp only [hf, Option.map_some] at hlook hs' hnext ⊢
        simp only [flagE_snoc] at hnext
        generalize entsF 0 out = EN at *
        generalize out.map encM = R at *
        simp [u_graph_SharedOf_L0, b_graph_SharedOf_L0, lt_mid h, get_mid _ h, hmv, hroomO, hroomT, freeze, evRO, toPV, reach, hke, hli, hkl, hlook, keyV_zK, AV.clean, AV.clean.AV.cleanL, Blk.clean, PV.clean]
        exact hnext _ (by simp [h]) hs' (by simp [hws])
    · unfold stepS at hs' hnext ⊢
      simp only [byN, List.map_cons, List.map_nil] at hkz hs' hnext hke hli hlook hmv ⊢
      generalize to.getD a.toNat 0 = a' at *
      generalize to.getD b.toNat 0 = b' at *
      simp [keyP] at hke
      simp only [encNode, encInts, ints, List.map_cons, List.map_nil] at hmv
      cases hf : findN ⟨o, w, [a', b'], v⟩ 0 out with
      | none =>
        simp only [hf, Option.map_none] at hlook hs' hnext ⊢
        simp only [List.map_append, List.map_cons, List.map_nil, flagE_snoc, entsF_snoc, Nat.zero_add] at hnext
        have hRl : (out.map encM).length = out.length := by simp
        generalize entsF 0 out = EN at *
        generalize out.map encM = R at *
        simp [u_graph_SharedOf_L0, b_graph_SharedOf_L0, lt_mid h, get_mid _ h, hmv, hroomO, hroomT, freeze, evRO, toPV, reach, hke, hli, hkl, hlook, keyV_zK, AV.clean, AV.clean.AV.cleanL, Blk.clean, PV.clean]
        exact hnext _ (by simp [h]) hs' (by simp [hws, hRl, putE, flagE])
      | some k =>
        simp only [hf, Option.map_some] at hlook hs' hnext ⊢
        simp only [flagE_snoc] at hnext
        generalize entsF 0 out = EN at *
        generalize out.map encM = R at *
        simp [u_graph_SharedOf_L0, b_graph_SharedOf_L0, lt_mid h, get_mid _ h, hmv, hroomO, hroomT, freeze, evRO, toPV, reach, hke, hli, hkl, hlook, keyV_zK, AV.clean, AV.clean.AV.cleanL, Blk.clean, PV.clean]
        exact hnext _ (by simp [h]) hs' (by simp [hws])
    · unfold stepS at hs' hnext ⊢
      simp only [byN, List.map_cons, List.map_nil] at hkz hs' hnext hke hli hlook hmv ⊢
      generalize to.getD a.toNat 0 = a' at *
      generalize to.getD b.toNat 0 = b' at *
      generalize to.getD c.toNat 0 = c' at *
      simp [keyP] at hke
      simp only [encNode, encInts, ints, List.map_cons, List.map_nil] at hmv
      cases hf : findN ⟨o, w, [a', b', c'], v⟩ 0 out with
      | none =>
        simp only [hf, Option.map_none] at hlook hs' hnext ⊢
        simp only [List.map_append, List.map_cons, List.map_nil, flagE_snoc, entsF_snoc, Nat.zero_add] at hnext
        have hRl : (out.map encM).length = out.length := by simp
        generalize entsF 0 out = EN at *
        generalize out.map encM = R at *
        simp [u_graph_SharedOf_L0, b_graph_SharedOf_L0, lt_mid h, get_mid _ h, hmv, hroomO, hroomT, freeze, evRO, toPV, reach, hke, hli, hkl, hlook, keyV_zK, AV.clean, AV.clean.AV.cleanL, Blk.clean, PV.clean]
        exact hnext _ (by simp [h]) hs' (by simp [hws, hRl, putE, flagE])
      | some k =>
        simp only [hf, Option.map_some] at hlook hs' hnext ⊢
        simp only [flagE_snoc] at hnext
        generalize entsF 0 out = EN at *
        generalize out.map encM = R at *
        simp [u_graph_SharedOf_L0, b_graph_SharedOf_L0, lt_mid h, get_mid _ h, hmv, hroomO, hroomT, freeze, evRO, toPV, reach, hke, hli, hkl, hlook, keyV_zK, AV.clean, AV.clean.AV.cleanL, Blk.clean, PV.clean]
        exact hnext _ (by simp [h]) hs' (by simp [hws])
end Go.Proofs.YtglelclmlkeheabGreatDoor.V

/- A graph shared, in the program, and by the reference. -/
namespace Go.Proofs.YtglelclmlkeheabGreatDoor.V
open Go (IntKind BinOp UnOp Value Lit)
variable {π : Id}
theorem e_SharedOf (leaves : List Int) (nodes : List Nod) (hal : ∀ x ∈ nodes, x.args.length ≤ 1000) (hv : ∀ x ∈ nodes, ok64 x.value) :
    EE π n_graph_SharedOf [.p (encInts leaves), .p (encNodes nodes)] [] = if (checkE leaves nodes).2 = 0 then some (.tup [.ap (1009 :: π), .ap (1010 :: π), .p (I 0)], [rowI (1010 :: π) (flagE (sharedN nodes [] []).2) (sharedN nodes [] []).2, rowN (1009 :: π) (flagE (sharedN nodes [] []).1) ((sharedN nodes [] []).1.map encM)])
      else some (.p (.tup [.sl 4 (some true) [], .sl 1 (some true) [], I (checkE leaves nodes).2]), []) := by
  have hge := fun π => e_graphErr (π := π) leaves nodes hal
  have hlp : (checkE leaves nodes).2 = 0 → _ := fun h => shared_loop (π := π) (leaves := leaves) (checkE_nodes h) (checkE_leaves h).2.1 hv nodes [] [] []
  generalize (checkE leaves nodes).2 = c at *
  by_cases hc : c = 0
  · have hlp := hlp hc
    rw [if_pos hc]
    generalize sharedN nodes [] [] = R at *
    simp [e_graph_SharedOf, run_eq, c_graph_SharedOf, hge, hc, freeze, evRO, thaw, thaw1]
    rw [hlp _ rfl ⟨rfl, by simp, by simp, by simp⟩ (by simp [flagE, entsF])]
    simp
  · rw [if_neg hc]
    simp [e_graph_SharedOf, run_eq, c_graph_SharedOf, hge, hc, freeze, evRO]
theorem e_Same1 (a b : Nod) (ha : a.args.length ≤ 1000) : EE π n_ratchetbase_SameNodes [.p (.sl 4 none [encNode a]), .p (.sl 4 none [encNode b])] [] = some (.p (.bool (sameN a b)), []) := by
  have hin := fun π => e_Ints (π := π) a.args b.args (by simp only [top63]; omega)
  unfold sameN
  have l0 : ∀ (y : Env × Sto), mask [0, 1, 5] [] y = some ([(0, .p (.sl 4 none [encNode a])), (1, .p (.sl 4 none [encNode b])), (5, .p (I 0))], []) →
      kpO [] [4] [] (bkO 0 (iter (round EE iter π [] [0, 1, 5] c_ratchetbase_SameNodes_L0) y)) = if sameN a b = true then some (.nm, [], []) else some (.rt, [(4, .p (.bool false))], []) := by
    intro y hm
    have l1 : ∀ (y : Env × Sto), mask [0, 1, 5] [] y = some ([(0, .p (.sl 4 none [encNode a])), (1, .p (.sl 4 none [encNode b])), (5, .p (I 1))], []) →
        kpO [] [4] [] (bkO 0 (iter (round EE iter π [] [0, 1, 5] c_ratchetbase_SameNodes_L0) y)) = some (.nm, [], []) := by
      intro y hm
      rw [loop_eq hm]
      simp [u_ratchetbase_SameNodes_L0, b_ratchetbase_SameNodes_L0]
    rw [loop_eq hm]
    unfold sameN
    by_cases h1 : a.op = b.op
    · by_cases h2 : a.width = b.width
      · by_cases h3 : a.value = b.value
        · by_cases h4 : a.args = b.args
          · rw [h4] at hin
            simp [u_ratchetbase_SameNodes_L0, b_ratchetbase_SameNodes_L0, hin, h1, h2, h3, h4]
            exact l1 _ (by simp; rfl)
          · simp [u_ratchetbase_SameNodes_L0, b_ratchetbase_SameNodes_L0, hin, h1, h2, h3, h4]
        · simp [u_ratchetbase_SameNodes_L0, b_ratchetbase_SameNodes_L0, hin, h1, h2, h3]
      · simp [u_ratchetbase_SameNodes_L0, b_ratchetbase_SameNodes_L0, hin, h1, h2]
    · simp [u_ratchetbase_SameNodes_L0, b_ratchetbase_SameNodes_L0, hin, h1]
  simp [e_ratchetbase_SameNodes, run_eq, c_ratchetbase_SameNodes]
  rw [l0 _ (by simp)]
  unfold sameN
  cases h : (decide (a.op = b.op) && decide (a.width = b.width) && decide (a.value = b.value) && decide (a.args = b.args)) <;> simp
theorem zeros_set (to : List Int) (k : Nat) (c : Int) : (to ++ List.replicate (k + 1) 0).set to.length c = (to ++ [c]) ++ List.replicate k 0 := by
  rw [List.set_append_right _ _ (Nat.le_refl _)]
  simp [List.replicate_succ]
end Go.Proofs.YtglelclmlkeheabGreatDoor.V
