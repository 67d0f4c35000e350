/- The value of a node by those before it, in the program. The values of all nodes, in plain terms. The values of all nodes, in the program. The values of a graph, in the program. The values of all nodes, by the reference. The values of all nodes, by the reference: a round of the inner loop. The values -/
import Derived.Test.YtglelclmlkeheaaGreatDoorS2
import Derived.Test.YtglelclmlkeheaaGreatDoorS1

set_option linter.unusedSimpArgs false
set_option linter.unusedVariables false

/- The value of a node by those before it, in the program. -/
namespace Go.Proofs.YtglelclmlkeheaaGreatDoor.V
open Go (IntKind BinOp UnOp)
variable {π : Id}

abbrev argsOf (vs : List Int) (args : List Int) : List Int := args.map fun n => vs.getD n.toNat 0
theorem applied_loop (nodes : List Nod) (vs : List Int) (x : Nod) (hal : x.args.length ≤ 1000) (hin : ∀ n ∈ x.args, 0 ≤ n ∧ n < nodes.length ∧ n < vs.length) :
    ∀ (suf pre : List Int) (y : Env × Sto), x.args = pre ++ suf →
    mask [0, 1, 3, 6, 9, 10, 14, 15, 16] [] y = some ([(0, .p (.ptr opsPV)), (1, .p (encNodes nodes)), (3, .p (encInts vs)), (6, .ref (6 :: π) 0), (9, .ap (1009 :: π)), (10, .ap (1010 :: π)), (14, .p (encInts x.args)), (15, .p (I x.args.length)), (16, .p (I pre.length))], [rowI (1009 :: π) (flagE pre) (widsOf nodes pre), rowI (1010 :: π) (flagE pre) (argsOf vs pre), (6 :: π, boxNd x)]) →
    kpO [0, 6, 9, 10] [8] [] (bkO 0 (iter (round EE iter π [] [0, 1, 3, 6, 9, 10, 14, 15, 16] c_graph_applied_L0) y)) = some (.nm, [(0, .p (.ptr opsPV)), (6, .ref (6 :: π) 0), (9, .ap (1009 :: π)), (10, .ap (1010 :: π))], [rowI (1009 :: π) (flagE x.args) (widsOf nodes x.args), rowI (1010 :: π) (flagE x.args) (argsOf vs x.args), (6 :: π, boxNd x)])
  | [], pre, y, h, hm => by
    rw [loop_eq hm]
    have : x.args = pre := by simpa using h
    simp [u_graph_applied_L0, b_graph_applied_L0, ← this]
  | z :: suf, pre, y, h, hm => by
    rw [loop_eq hm]
    have hlen : pre.length < x.args.length := by rw [h]; simp
    obtain ⟨hz0, hz1, hz2⟩ := hin z (by rw [h]; simp)
    have hlt : z.toNat < nodes.length := by omega
    have hlv : z.toNat < vs.length := by omega
    have hwid : widOf nodes z = nodes[z.toNat].width := by unfold widOf; simp [List.getD, hlt]
    have hgd : vs.getD z.toNat 0 = vs[z.toNat] := by simp [List.getD, hlv]
    have hws := w_succ hlen (show x.args.length ≤ top63 by simp only [top63]; omega)
    have hroom : (widsOf nodes pre).length + 1 ≤ room := by rw [List.length_map]; simp only [room]; omega
    have hroomA : (argsOf vs pre).length + 1 ≤ room := by rw [List.length_map]; simp only [room]; omega
    have hnext := applied_loop nodes vs x hal hin suf (pre ++ [z])
    rw [show (pre ++ [z]).length = pre.length + 1 by simp, flagE_snoc, show widsOf nodes (pre ++ [z]) = widsOf nodes pre ++ [widOf nodes z] by simp, hwid, show argsOf vs (pre ++ [z]) = argsOf vs pre ++ [vs.getD z.toNat 0] by simp, hgd] at hnext
    generalize widsOf nodes pre = R at *
    generalize widsOf nodes x.args = RR at *
    generalize argsOf vs pre = A at *
    generalize argsOf vs x.args = AA at *
    simp [u_graph_applied_L0, b_graph_applied_L0, lt_mid h, get_mid _ h, hz0, hz1, hz2, hlt, hlv, hroom, hroomA, freeze, evRO]
    exact hnext _ (by simp [h]) (by simp [hws])

theorem e_applied (nodes : List Nod) (vs : List Int) (x : Nod) (hal : x.args.length ≤ 1000) (hin : ∀ n ∈ x.args, 0 ≤ n ∧ n < nodes.length ∧ n < vs.length) (ho : 0 ≤ x.op ∧ x.op < 19) (h1 : x.op ≠ 1)
    (hok : x.op.toNat ≠ 0 → AppOk x.op.toNat x (widsOf nodes x.args) (argsOf vs x.args)) :
    EE π n_graph_applied [.p (.ptr opsPV), .p (encNodes nodes), .p (encNode x), .p (encInts vs)] [] = some (.p (I (appK x.op.toNat x (widsOf nodes x.args) (argsOf vs x.args))), []) := by
  have hlp := applied_loop (π := π) nodes vs x hal hin x.args []
  have hk : x.op.toNat < 19 := by omega
  have hrow := ops_row x.op.toNat hk
  rw [opRow_eq hk] at hrow
  have hdl : 5 ≤ opsPV.length - x.op.toNat * 5 := by rw [opsPV_len]; omega
  have hget : opsPV[x.op.toNat * 5 + 4]? = some (.fn (runN x.op.toNat) (runC x.op.toNat)) := by
    have := congrArg (fun l => l[4]?) hrow
    simpa [List.getElem?_take, List.getElem?_drop] using this
  have hrun := fun π => e_run (π := π) hk (by omega) hok
  generalize appK x.op.toNat x (widsOf nodes x.args) (argsOf vs x.args) = r at *
  generalize widsOf nodes x.args = W at *
  generalize argsOf vs x.args = A at *
  simp [e_graph_applied, run_eq, c_graph_applied, thaw, thaw1, ops_fg]
  rw [hlp _ rfl (by simp [flagE])]
  simp [ho.1, ho.2, hdl, hget, hrun, freeze, evRO]

end Go.Proofs.YtglelclmlkeheaaGreatDoor.V

/- The values of all nodes, in plain terms. -/
namespace Go.Proofs.YtglelclmlkeheaaGreatDoor.V
open Go (IntKind BinOp UnOp)
variable {π : Id}

/-- The value of a node by those before it, and by those of the leaves. -/
def valN (nodes : List Nod) (L vs : List Int) (x : Nod) : Int :=
  if x.op = 1 then L.getD x.value.toNat 0 else appK x.op.toNat x (widsOf nodes x.args) (argsOf vs x.args)
def valsN (nodes : List Nod) (L : List Int) : List Nod → List Int → List Int
  | [], vs => vs
  | x :: r, vs => valsN nodes L r (vs ++ [valN nodes L vs x])

structure InvV (nodes : List Nod) (k : Nat) (vs : List Int) : Prop where
  len : vs.length = k
  ok : ∀ j, j < k → Okv (vs.getD j 0) (widOf nodes (j : Int))
structure LeafOk (leaves L : List Int) : Prop where
  len : L.length = leaves.length
  ok : ∀ j, j < leaves.length → Okv (L.getD j 0) (leaves.getD j 0)

theorem widOf_get {nodes : List Nod} {j : Nat} {y : Nod} (h : nodes[j]? = some y) : widOf nodes (j : Int) = y.width := by
  unfold widOf
  simp [List.getD, h]

theorem app_ok {leaves : List Int} {nodes : List Nod} (hG : ∀ i x, nodes[i]? = some x → nodeE leaves nodes i x = 0) {k : Nat} {vs : List Int} (hI : InvV nodes k vs) {x : Nod} (hx : nodes[k]? = some x) (h1 : x.op ≠ 1) (h0 : x.op ≠ 0) :
    AppOk x.op.toNat x (widsOf nodes x.args) (argsOf vs x.args) := by
  obtain ⟨ho, hw, hl, ha, hv, hf⟩ := nodeE_iff (hG k x hx)
  have ho' := within_iff.1 ho
  have hw' := within_iff.1 hw
  refine ⟨hw', by rw [List.length_map]; exact hl, by rw [List.length_map]; exact hl, fun i hi => ?_, hf, fun h14 => ?_⟩
  · have hil : i < x.args.length := by omega
    have hn := within_iff.1 (List.all_eq_true.1 ha x.args[i] (List.getElem_mem hil))
    have e1 : (widsOf nodes x.args).getD i 0 = widOf nodes x.args[i] := by simp [List.getD, hil]
    have e2 : (argsOf vs x.args).getD i 0 = vs.getD x.args[i].toNat 0 := by simp [List.getD, hil]
    rw [e1, e2]
    have hj : x.args[i].toNat < k := by omega
    have hkl := (List.getElem?_eq_some_iff.1 hx).1
    have hjl : x.args[i].toNat < nodes.length := by omega
    have hy : nodes[x.args[i].toNat]? = some nodes[x.args[i].toNat] := List.getElem?_eq_getElem hjl
    have hcast : ((x.args[i].toNat : Nat) : Int) = x.args[i] := by omega
    have e3 := widOf_get hy
    rw [hcast] at e3
    have hwj := within_iff.1 (nodeE_iff (hG _ _ hy)).2.1
    have hok := hI.ok _ hj
    rw [hcast] at hok
    exact ⟨by rw [e3]; exact hwj, hok⟩
  · unfold valE at hv
    rw [if_neg h0, if_neg h1, if_pos (by omega)] at hv
    exact within_iff.1 ((unlE_z (by decide)).1 hv)

theorem val_in {leaves L : List Int} {nodes : List Nod} (hG : ∀ i x, nodes[i]? = some x → nodeE leaves nodes i x = 0) (hL : LeafOk leaves L) {k : Nat} {vs : List Int} (hI : InvV nodes k vs) {x : Nod} (hx : nodes[k]? = some x) : Okv (valN nodes L vs x) x.width := by
  obtain ⟨ho, hw, hl, ha, hv, hf⟩ := nodeE_iff (hG k x hx)
  have ho' := within_iff.1 ho
  have hw' := within_iff.1 hw
  unfold valN
  split
  · rename_i h1
    unfold valE at hv
    rw [if_neg (by omega), if_pos h1] at hv
    split at hv
    · rename_i hin
      have hin' := within_iff.1 hin
      have hwd : leaves.getD x.value.toNat 0 = x.width := by simpa using (unlE_z (by decide)).1 hv
      have := hL.ok x.value.toNat (by omega)
      rw [hwd] at this
      exact this
    · exact absurd hv (by decide)
  · rename_i h1
    by_cases h0 : x.op = 0
    · unfold valE at hv
      rw [if_pos h0] at hv
      have hfi := (unlE_z (by decide)).1 hv
      unfold fitsB at hfi
      simp only [Bool.and_eq_true, decide_eq_true_eq] at hfi
      have := within_iff.1 hfi.2
      have e : appK x.op.toNat x (widsOf nodes x.args) (argsOf vs x.args) = x.value := by rw [h0]; rfl
      rw [e]
      exact ⟨this.1, by omega⟩
    · exact appK_in ⟨by omega, by omega⟩ (app_ok hG hI hx h1 h0)

theorem inv_step {leaves L : List Int} {nodes : List Nod} (hG : ∀ i x, nodes[i]? = some x → nodeE leaves nodes i x = 0) (hL : LeafOk leaves L) {k : Nat} {vs : List Int} (hI : InvV nodes k vs) {x : Nod} (hx : nodes[k]? = some x) : InvV nodes (k + 1) (vs ++ [valN nodes L vs x]) := by
  have hlen := hI.len
  refine ⟨by simp [hlen], fun j hj => ?_⟩
  by_cases h : j < k
  · rw [show (vs ++ [valN nodes L vs x]).getD j 0 = vs.getD j 0 by simp [List.getD, List.getElem?_append_left (show j < vs.length by omega)]]
    exact hI.ok j h
  · have : j = k := by omega
    subst this
    rw [show (vs ++ [valN nodes L vs x]).getD j 0 = valN nodes L vs x by simp [List.getD, ← hlen], widOf_get hx]
    exact val_in hG hL hI hx

end Go.Proofs.YtglelclmlkeheaaGreatDoor.V

/- The values of all nodes, in the program. -/
namespace Go.Proofs.YtglelclmlkeheaaGreatDoor.V
open Go (IntKind BinOp UnOp)
variable {π : Id}

@[simp] theorem idsL_p : ∀ l : List PV, AV.ids.AV.idsL (l.map AV.p) = []
  | [] => rfl
  | x :: r => by rw [List.map_cons]; simp only [AV.ids.AV.idsL, AV.ids, idsL_p r]; rfl
theorem mapM_p11 (s : Sto) : ∀ l : List PV, l.mapM (toPV s 11 ∘ AV.p) = some l
  | [] => rfl
  | x :: r => by
    rw [List.mapM_cons, mapM_p11 s r]; rfl
@[simp] theorem kill_p (i : Id) : (AV.kill i ∘ AV.p) = AV.p := rfl
abbrev boxOps : Blk := .box false (opsPV.map AV.p)
theorem valued_loop {leaves L : List Int} {nodes : List Nod} (hnl : nodes.length ≤ 1000) (hal : ∀ x ∈ nodes, x.args.length ≤ 1000) (hll : leaves.length ≤ 1000) (hG : ∀ i x, nodes[i]? = some x → nodeE leaves nodes i x = 0) (hL : LeafOk leaves L) :
    ∀ (suf pre : List Nod) (vs : List Int) (y : Env × Sto), nodes = pre ++ suf → InvV nodes pre.length vs →
    mask [0, 1, 5, 6, 11, 12, 13] [] y = some ([(0, .p (encNodes nodes)), (1, .p (encInts L)), (5, .ref (5 :: π) 0), (6, .ap (1006 :: π)), (11, .p (encNodes nodes)), (12, .p (I nodes.length)), (13, .p (I pre.length))], [rowI (1006 :: π) (flagE pre) vs, (5 :: π, boxOps)]) →
    kpO [6] [4] [] (bkO 0 (iter (round EE iter π [] [0, 1, 5, 6, 11, 12, 13] c_graph_valued_L0) y)) = some (.nm, [(6, .ap (1006 :: π))], [rowI (1006 :: π) (flagE nodes) (valsN nodes L suf vs)])
  | [], pre, vs, y, h, hI, hm => by
    rw [loop_eq hm]
    have : nodes = pre := by simpa using h
    simp [u_graph_valued_L0, b_graph_valued_L0, valsN, ← this]
  | z :: suf, pre, vs, y, h, hI, hm => by
    rw [loop_eq hm]
    have hlen : pre.length < nodes.length := by rw [h]; simp
    have hz := hal z (by rw [h]; simp)
    have hx : nodes[pre.length]? = some z := by rw [h]; simp
    have hvl := hI.len
    have hws := w_succ hlen (show nodes.length ≤ top63 by simp only [top63]; omega)
    have hroom : vs.length + 1 ≤ room := by simp only [room]; omega
    have hnext := valued_loop hnl hal hll hG hL suf (pre ++ [z]) (vs ++ [valN nodes L vs z])
    rw [show (pre ++ [z]).length = pre.length + 1 by simp, flagE_snoc] at hnext
    have hnext := fun y e => hnext y e (inv_step hG hL hI hx)
    obtain ⟨ho, hw, hl2, ha, hv, hf⟩ := nodeE_iff (hG _ z hx)
    have ho' := within_iff.1 ho
    have hrs : valsN nodes L (z :: suf) vs = valsN nodes L suf (vs ++ [valN nodes L vs z]) := rfl
    rw [hrs]
    generalize valsN nodes L suf (vs ++ [valN nodes L vs z]) = RR at *
    by_cases h1 : z.op = 1
    · unfold valE at hv
      rw [if_neg (by omega), if_pos h1] at hv
      split at hv
      · rename_i hin
        have hin' := within_iff.1 hin
        have hLl := hL.len
        have hlt : z.value.toNat < L.length := by omega
        have hlt' : z.value < (L.length : Int) := by omega
        have hval : valN nodes L vs z = L[z.value.toNat] := by unfold valN; rw [if_pos h1]; simp [List.getD, hlt]
        rw [hval] at hnext
        simp [u_graph_valued_L0, b_graph_valued_L0, lt_mid h, get_mid _ h, h1, hin'.1, hlt, hlt', hroom]
        exact hnext _ (by simp [h]) (by simp [hws])
      · exact absurd hv (by decide)
    · have hap := fun π => e_applied (π := π) nodes vs z hz (fun n hn => by
        have := within_iff.1 (List.all_eq_true.1 ha n hn)
        omega) ⟨ho'.1, by omega⟩ h1 (fun h0 => app_ok hG hI hx h1 (by omega))
      have hval : valN nodes L vs z = appK z.op.toNat z (widsOf nodes z.args) (argsOf vs z.args) := by unfold valN; rw [if_neg h1]
      rw [← hval] at hap
      generalize valN nodes L vs z = r at *
      simp [u_graph_valued_L0, b_graph_valued_L0, lt_mid h, get_mid _ h, h1, hap, hroom, mapM_p11, ops_fg, freeze, evRO]
      exact hnext _ (by simp [h]) (by simp [hws])

theorem e_valued {leaves L : List Int} {nodes : List Nod} (hnl : nodes.length ≤ 1000) (hal : ∀ x ∈ nodes, x.args.length ≤ 1000) (hll : leaves.length ≤ 1000) (hG : ∀ i x, nodes[i]? = some x → nodeE leaves nodes i x = 0) (hL : LeafOk leaves L) :
    EE π n_graph_valued [.p (encNodes nodes), .p (encInts L)] [] = some (.ap (1006 :: π), [rowI (1006 :: π) (flagE nodes) (valsN nodes L nodes [])]) := by
  have hlp := valued_loop (π := π) hnl hal hll hG hL nodes [] []
  generalize valsN nodes L nodes [] = RR at *
  simp [-freeze, -PV.cell1, ops_c1, c1_sl, c1_int, e_graph_valued, run_eq, c_graph_valued, e_operations, freeze_ops, freeze_p, mapM_p', ops_fg, opsPV_len, evRO, thaw, thaw1]
  rw [hlp _ rfl ⟨rfl, fun j hj => absurd hj (by simp)⟩ (by simp [flagE])]
  simp

end Go.Proofs.YtglelclmlkeheaaGreatDoor.V

/- The values of a graph, in the program. -/
namespace Go.Proofs.YtglelclmlkeheaaGreatDoor.V
open Go (IntKind BinOp UnOp)
variable {π : Id}

def fitE (leaves : List Int) (i : Nat) (n : Int) : Int := unlE (fitsB n (leaves.getD i 0)) 2
theorem e_ValuesOf1 (leaves : List Int) (hlw : ∀ n ∈ leaves, 1 ≤ n ∧ n ≤ 16) (i : Nat) (hi : i < leaves.length) (n : Int) :
    EE π n_graph_ValuesOf_1 [.p (I i), .p (I n), .p (.ptr [encInts leaves])] [] = some (.p (I (fitE leaves i n)), []) := by
  have hgd : leaves.getD i 0 = leaves[i] := by simp [List.getD, hi]
  have hfi := fun π => e_fitsG (π := π) n leaves[i] (hlw _ (List.getElem_mem hi)).2
  unfold fitE
  rw [hgd]
  generalize fitsB n leaves[i] = b at *
  simp [e_graph_ValuesOf_1, run_eq, c_graph_ValuesOf_1, hi, hfi, e_unlessG]

def valuesE (leaves values : List Int) : Int := if values.length ≠ leaves.length then 10 else (eachE (fitE leaves) 0 values).2
theorem leafOk_of {leaves values : List Int} (h : valuesE leaves values = 0) : LeafOk leaves values := by
  unfold valuesE at h
  split at h
  · exact absurd h (by decide)
  · rename_i hl
    have hl : values.length = leaves.length := by simpa using hl
    refine ⟨hl, fun j hj => ?_⟩
    have hv : values[j]? = some (values.getD j 0) := by simp [List.getD, show j < values.length by omega]
    have := eachE_all h j _ hv
    unfold fitE at this
    rw [Nat.zero_add] at this
    have hf := (unlE_z (by decide)).1 this
    unfold fitsB at hf
    simp only [Bool.and_eq_true, decide_eq_true_eq] at hf
    have h2 := within_iff.1 hf.2
    exact ⟨h2.1, by omega⟩

theorem e_ValuesOf (leaves : List Int) (nodes : List Nod) (values : List Int) (hll : leaves.length ≤ 1000) (hnl : nodes.length ≤ 1000) (hvl : values.length ≤ 1000) (hal : ∀ x ∈ nodes, x.args.length ≤ 1000) :
    EE π n_graph_ValuesOf [.p (encInts leaves), .p (encNodes nodes), .p (encInts values)] [] =
      (if (checkE leaves nodes).2 ≠ 0 then some (.p (.tup [.sl 1 (some true) [], I (checkE leaves nodes).2]), []) else if valuesE leaves values ≠ 0 then some (.p (.tup [.sl 1 (some true) [], I (valuesE leaves values)]), [])
        else some (.tup [.ap (1006 :: 36 :: π), .p (I 0)], [rowI (1006 :: 36 :: π) (flagE nodes) (valsN nodes values nodes [])])) := by
  have hge := fun π => e_graphErr (π := π) leaves nodes hal
  by_cases hc : (checkE leaves nodes).2 = 0
  · obtain ⟨_, _, hlw⟩ := checkE_leaves hc
    have hG := checkE_nodes hc
    rw [hc] at hge
    rw [if_neg (by simp [hc])]
    by_cases hl : values.length = leaves.length
    · have hl' : (values.length : Int) = leaves.length := by omega
      have hea := fun π => e_eachG (π := π) values (by simp only [top63]; omega) (f := n_graph_ValuesOf_1) (caps := [.ptr [encInts leaves]]) (err := fitE leaves) (fun i x hx => by
        have := (List.getElem?_eq_some_iff.1 hx).1
        simpa using e_ValuesOf1 leaves hlw i (by omega) x)
      by_cases hv : valuesE leaves values = 0
      · have hva := fun π => e_valued (π := π) hnl hal hll hG (leafOk_of hv)
        have hv2 : (eachE (fitE leaves) 0 values).2 = 0 := by unfold valuesE at hv; rwa [if_neg (by simp [hl])] at hv
        generalize valsN nodes values nodes [] = R at *
        generalize eachE (fitE leaves) 0 values = q at *
        simp [e_graph_ValuesOf, run_eq, c_graph_ValuesOf, hge, hl', e_unlessG, e_first2G, unlE, firstE, hea, hv, hv2, hva, freeze, evRO]
      · have hv2 : valuesE leaves values = (eachE (fitE leaves) 0 values).2 := by unfold valuesE; rw [if_neg (by simp [hl])]
        rw [hv2] at hv ⊢
        generalize eachE (fitE leaves) 0 values = q at *
        simp [e_graph_ValuesOf, run_eq, c_graph_ValuesOf, hge, hl', e_unlessG, e_first2G, unlE, firstE, hea, hv, freeze, evRO]
    · have hl' : ¬ (values.length : Int) = leaves.length := by omega
      have hv2 : valuesE leaves values = 10 := by unfold valuesE; rw [if_pos (by simpa using hl)]
      rw [hv2]
      simp [e_graph_ValuesOf, run_eq, c_graph_ValuesOf, hge, hl', e_unlessG, e_first2G, unlE, firstE, freeze, evRO]
  · generalize (checkE leaves nodes).2 = c at *
    simp [e_graph_ValuesOf, run_eq, c_graph_ValuesOf, hge, hc, e_unlessG, e_first2G, firstE, freeze, evRO]

end Go.Proofs.YtglelclmlkeheaaGreatDoor.V

/- The values of all nodes, by the reference. -/
namespace Go.Proofs.YtglelclmlkeheaaGreatDoor.V
open Go (IntKind BinOp UnOp)
variable {π : Id}

theorem stepsH_app {E : Call} {s0 : Sto} {H : List Id} {lg : Bool} {n2 : Nat} {l2 : List Ins} : ∀ (l1 : List Ins) {n1 k : Nat} {e : Env} {s : Sto} {p : List (Id × Blk)} {A : List Apx} {U : List (Nat × List AV)} {C : List (Nat × Id)} {h : HSt}, l1.length = n1 → stepsH E π s0 H lg k n1 l1 e s p A U C = some (h, []) →
    stepsH E π s0 H lg k (n1 + n2) (l1 ++ l2) e s p A U C = stepsH E π s0 H lg (k + n1) n2 l2 h.e h.s h.p h.A h.U h.C
  | [], n1, k, e, s, p, A, U, C, h, hl, hs => by
    subst hl
    simp [stepsH] at hs
    subst hs
    simp
  | o :: r, n1, k, e, s, p, A, U, C, h, hl, hs => by
    obtain ⟨m, rfl⟩ : ∃ m, n1 = m + 1 := ⟨r.length, by simpa using hl.symm⟩
    have hl' : r.length = m := by simpa using hl
    rw [show m + 1 + n2 = (m + n2) + 1 by omega, List.cons_append]
    rw [show k + (m + 1) = k + 1 + m by omega]
    generalize hR : stepsH E π s0 H lg (k + 1 + m) n2 l2 h.e h.s h.p h.A h.U h.C = R
    unfold stepsH at hs ⊢
    split
    · rename_i x hx
      rw [hx] at hs
      simp only at hs
      split at hs
      · rename_i hc
        rw [if_pos hc]
        rw [← hR]; exact stepsH_app r hl' hs
      · cases hs
    · rename_i hx
      rw [hx] at hs
      simp only at hs
      split
      · rename_i y hy
        rw [hy] at hs
        simp only at hs
        split at hs
        · rename_i hc
          rw [if_pos hc]
          rw [← hR]; exact stepsH_app r hl' hs
        · cases hs
      · rename_i hy
        rw [hy] at hs
        simp only at hs
        split
        · rename_i z hz
          rw [hz] at hs
          simp only at hs
          split
          · rename_i hlg
            rw [if_pos hlg] at hs
            split at hs
            · rename_i hc
              rw [if_pos hc]
              rw [← hR]; exact stepsH_app r hl' hs
            · cases hs
          · rename_i hlg
            rw [if_neg hlg] at hs
            rw [← hR]; exact stepsH_app r hl' hs
        · rename_i hz
          rw [hz] at hs
          cases hs

/-- What an operation saw does not touch a row that is appended to. -/
def okU (a : Apx) (u : Nat × List AV) : Bool := u.1 == a.k || (u.2.all fun v => !v.ids.contains a.id) || a.anc.contains u.1
theorem okU_mk (a : Apx) (k : Nat) (l : List AV) : okU a (k, l) = (k == a.k || (l.all fun v => !v.ids.contains a.id) || a.anc.contains k) := rfl
theorem apxOk1 {e : Env} {s0 s : Sto} {p : List (Id × Blk)} {a : Apx} {U : List (Nat × List AV)} : apxOk s0 ⟨e, s, p, [a], U, []⟩ = (U.all (okU a) && (p ++ s ++ s0).all fun x => !x.2.ids.contains a.id) := by
  simp only [apxOk, List.all_cons, List.all_nil, Bool.and_true]; rfl
theorem apxE1 {e : Env} {s : Sto} {p : List (Id × Blk)} {a : Apx} {U : List (Nat × List AV)} {t : Nat} : (apxE ⟨e, s, p, [a], U, []⟩).lookup t = if t = a.d then some (.ap a.id) else (e.lookup t).map fun v => if v.ids.contains a.id then .top else v := by
  have key : ∀ l : Env, (l.map fun x => (x.1, if x.2.ids.any (fun i => [a].any fun b => b.id == i) then AV.top else x.2)).lookup t = (l.lookup t).map fun v => if v.ids.contains a.id then .top else v := by
    intro l
    induction l with
    | nil => rfl
    | cons y r ih =>
      obtain ⟨k, v⟩ := y
      simp only [List.map_cons, List.lookup_cons, ih]
      have hb : v.ids.any (fun i => [a].any fun b => b.id == i) = v.ids.contains a.id := by
        rw [List.contains_eq_any_beq]
        congr 1
        funext i
        simp
      rw [hb]
      cases t == k <;> rfl
  show List.lookup t ((a.d, AV.ap a.id) :: _) = _
  rw [List.lookup_cons]
  by_cases h : t = a.d
  · rw [if_pos h, h]; simp
  · rw [if_neg h, show (t == a.d) = false by simpa using h]
    exact key e

def nvReg : List Ins := match b_ratchetbase_NodeValues_L1 with | .sq _ (.sq (.bk _ (.op _ l _)) _) => l | _ => []
def nvA : List Ins := nvReg.take 14
def nvB : List Ins := nvReg.drop 14

theorem nv_chunkA (cells VC AC WC zs : List PV) (L : PV) (i p : Nat) (z v a b d : Int) (nl : Option Bool) (h1 : cells[i]? = some (.agg [I a, I b, .sl 1 none zs, I d])) (hp : zs[p]? = some (I z)) (hz : 0 ≤ z)
    (hvl : z.toNat < VC.length) (hv : VC[z.toNat] = I v) (hA : AC.length + 1 ≤ room) : 
    ∃ e1 U1, stepsH EE π [(1007 :: π, .row false t_int 1 nl AC), (1008 :: π, .row false t_int 1 nl WC), (12 :: π, .row false t_int 1 (some false) VC)] [1007 :: π] true 0 14 nvA
      [(0, .p (.sl 4 none cells)), (1, .p L), (5, .ap (12 :: π)), (6, .p (I i)), (7, .ap (1007 :: π)), (8, .ap (1008 :: π)), (9, .p (I p)), (26, .p (.bool true))] [(1008 :: π, .row false t_int 1 nl WC), (12 :: π, .row false t_int 1 (some false) VC)] [] [] [] [] =
      some (⟨e1, [(41 :: π, .row false t_int 1 (some false) [I v]), (1008 :: π, .row false t_int 1 nl WC), (12 :: π, .row false t_int 1 (some false) VC)], [(1007 :: π, .row false t_int 1 (some false) (AC ++ [I v]))], [⟨1007 :: π, 42, 13, [0, 1, 2, 3, 4, 5, 6, 7, 8, 9, 10, 11, 12]⟩], U1, []⟩, []) ∧
      (e1.lookup 0 = some (.p (.sl 4 none cells)) ∧ e1.lookup 1 = some (.p L) ∧ e1.lookup 5 = some (.ap (12 :: π)) ∧ e1.lookup 6 = some (.p (I i)) ∧ e1.lookup 8 = some (.ap (1008 :: π)) ∧ e1.lookup 9 = some (.p (I p))) ∧
      U1.all (okU ⟨1007 :: π, 42, 13, [0, 1, 2, 3, 4, 5, 6, 7, 8, 9, 10, 11, 12]⟩) = true := by
  obtain ⟨r, hr⟩ : ∃ r, stepsH EE π [(1007 :: π, .row false t_int 1 nl AC), (1008 :: π, .row false t_int 1 nl WC), (12 :: π, .row false t_int 1 (some false) VC)] [1007 :: π] true 0 14 nvA
      [(0, .p (.sl 4 none cells)), (1, .p L), (5, .ap (12 :: π)), (6, .p (I i)), (7, .ap (1007 :: π)), (8, .ap (1008 :: π)), (9, .p (I p)), (26, .p (.bool true))] [(1008 :: π, .row false t_int 1 nl WC), (12 :: π, .row false t_int 1 (some false) VC)] [] [] [] [] = r := ⟨_, rfl⟩
  have h2 := hr
  simp [nvA, nvReg, b_ratchetbase_NodeValues_L1, h1, hp, hz, hv, hvl, hA] at h2
  subst h2
  refine ⟨_, _, hr, by simp, ?_⟩
  simp [-List.contains_cons, okU_mk]
end Go.Proofs.YtglelclmlkeheaaGreatDoor.V

/- The values of all nodes, by the reference: a round of the inner loop. -/
namespace Go.Proofs.YtglelclmlkeheaaGreatDoor.V
open Go (IntKind BinOp UnOp)
variable {π : Id}

theorem kill_lookup (id : Id) (t : Nat) : ∀ e : Env, (Env.kill e id).lookup t = (e.lookup t).map (AV.kill id)
  | [] => rfl
  | (k, v) :: r => by
    have ih := kill_lookup id t r
    unfold Env.kill at ih ⊢
    rw [List.map_cons, List.lookup_cons, List.lookup_cons, ih]
    cases t == k <;> rfl

theorem nv_hid (cells VC AC WC zs : List PV) (L : PV) (i p : Nat) (z v w a b d a2 d2 : Int) (q : PV) (nl : Option Bool) (h1 : cells[i]? = some (.agg [I a, I b, .sl 1 none zs, I d])) (hp : zs[p]? = some (I z)) (hz : 0 ≤ z)
    (h2 : cells[z.toNat]? = some (.agg [I a2, I w, q, I d2])) (hvl : z.toNat < VC.length) (hv : VC[z.toNat] = I v) :
    hidA EE π 28 nvReg [(0, .p (.sl 4 none cells)), (1, .p L), (5, .ap (12 :: π)), (6, .p (I i)), (7, .ap (1007 :: π)), (8, .ap (1008 :: π)), (9, .p (I p)), (26, .p (.bool true))] [(1007 :: π, .row false t_int 1 nl AC), (1008 :: π, .row false t_int 1 nl WC), (12 :: π, .row false t_int 1 (some false) VC)] [] = some [1007 :: π] := by
  simp [nvReg, b_ratchetbase_NodeValues_L1, h1, hp, hz, h2, hv, hvl]

theorem nv_region (cells VC AC WC zs : List PV) (L : PV) (i p : Nat) (z v w a b d a2 d2 : Int) (q : PV) (nl : Option Bool) (h1 : cells[i]? = some (.agg [I a, I b, .sl 1 none zs, I d])) (hp : zs[p]? = some (I z)) (hz : 0 ≤ z)
    (h2 : cells[z.toNat]? = some (.agg [I a2, I w, q, I d2])) (hvl : z.toNat < VC.length) (hv : VC[z.toNat] = I v) (hA : AC.length + 1 ≤ room) (hW : WC.length + 1 ≤ room) :
    opO (some [0, 1, 5, 6, 7, 8, 9]) (evRO EE π 28 nvReg [(0, .p (.sl 4 none cells)), (1, .p L), (5, .ap (12 :: π)), (6, .p (I i)), (7, .ap (1007 :: π)), (8, .ap (1008 :: π)), (9, .p (I p)), (26, .p (.bool true))] [(1007 :: π, .row false t_int 1 nl AC), (1008 :: π, .row false t_int 1 nl WC), (12 :: π, .row false t_int 1 (some false) VC)]
      (hidOf [(0, .p (.sl 4 none cells)), (1, .p L), (5, .ap (12 :: π)), (6, .p (I i)), (7, .ap (1007 :: π)), (8, .ap (1008 :: π)), (9, .p (I p)), (26, .p (.bool true))] 28 nvReg [])) = some (.nm, [(0, .p (.sl 4 none cells)), (1, .p L), (5, .ap (12 :: π)), (6, .p (I i)), (7, .ap (1007 :: π)), (8, .ap (1008 :: π)), (9, .p (I p))], [(1007 :: π, .row false t_int 1 (some false) (AC ++ [I v])), (56 :: π, .row false t_int 1 (some false) [I w]), (41 :: π, .row false t_int 1 (some false) [I v]), (1008 :: π, .row false t_int 1 (some false) (WC ++ [I w])), (12 :: π, .row false t_int 1 (some false) VC)]) := by
  obtain ⟨e1, U1, hs, ⟨l0, l1, l5, l6, l8, l9⟩, hU⟩ := nv_chunkA (π := π) cells VC AC WC zs L i p z v a b d nl h1 hp hz hvl hv hA
  have hh0 : hidOf [(0, .p (.sl 4 none cells)), (1, .p L), (5, .ap (12 :: π)), (6, .p (I i)), (7, .ap (1007 :: π)), (8, .ap (1008 :: π)), (9, .p (I p)), (26, .p (.bool true))] 28 nvReg [] = none := by rfl
  have hh := nv_hid (π := π) cells VC AC WC zs L i p z v w a b d a2 d2 q nl h1 hp hz h2 hvl hv
  rw [hh0]
  unfold evRO
  simp only
  rw [hh]
  simp only
  unfold evHO
  have hst := stepsH_app (n1 := 14) (n2 := 14) (l2 := nvB) nvA rfl hs
  have hf : ([(1007 :: π, Blk.row false t_int 1 nl AC), (1008 :: π, .row false t_int 1 nl WC), (12 :: π, .row false t_int 1 (some false) VC)].filter fun x => !([1007 :: π].contains x.1)) = [(1008 :: π, .row false t_int 1 nl WC), (12 :: π, .row false t_int 1 (some false) VC)] := by simp
  rw [hf, show nvReg = nvA ++ nvB from rfl, show (28 : Nat) = 14 + 14 from rfl, hst]
  simp [-apxOk, -apxE, -Env.kill, kill_lookup, -List.contains_cons, apxOk1, apxE1, okU_mk, hU, l0, l1, l5, l6, l8, l9, nvB, nvReg, b_ratchetbase_NodeValues_L1, h1, hp, hz, h2, hW]

def nvH : IR := match b_ratchetbase_NodeValues_L1 with | .sq a _ => a | x => x
def nvT : IR := match b_ratchetbase_NodeValues_L1 with | .sq _ (.sq _ a) => a | x => x
theorem nv_body {E : Call} {L : Loop} {k0 : List Id} {e : Env} {s : Sto} : evC E L π k0 c_ratchetbase_NodeValues_L1 e s = evC E L π k0 (.sq nvH (.sq (.bk 3 (.op 28 nvReg (some [0, 1, 5, 6, 7, 8, 9]))) nvT)) e s := rfl

theorem nv_loop1 (nodes : List Nod) (L : PV) (V : List Int) (i : Nat) (x : Nod) (hx : nodes[i]? = some x) (hal : x.args.length ≤ 1000) (hin : ∀ n ∈ x.args, 0 ≤ n ∧ n < nodes.length ∧ n < V.length) :
    ∀ (suf pre : List Int) (y : Env × Sto), x.args = pre ++ suf →
    mask [0, 1, 5, 6, 7, 8, 9] [] y = some ([(0, .p (encNodes nodes)), (1, .p L), (5, .ap (12 :: π)), (6, .p (I i)), (7, .ap (1007 :: π)), (8, .ap (1008 :: π)), (9, .p (I pre.length))], [rowI (1007 :: π) (flagE pre) (argsOf V pre), rowI (1008 :: π) (flagE pre) (widsOf nodes pre), rowI (12 :: π) (some false) V]) →
    kpO [0, 1, 5, 6, 7, 8] [4] [] (bkO 2 (iter (round EE iter π [] [0, 1, 5, 6, 7, 8, 9] c_ratchetbase_NodeValues_L1) y)) = some (.nm, [(0, .p (encNodes nodes)), (1, .p L), (5, .ap (12 :: π)), (6, .p (I i)), (7, .ap (1007 :: π)), (8, .ap (1008 :: π))], [rowI (1007 :: π) (flagE x.args) (argsOf V x.args), rowI (1008 :: π) (flagE x.args) (widsOf nodes x.args), rowI (12 :: π) (some false) V])
  | [], pre, y, h, hm => by
    rw [loop_eq hm]
    have : x.args = pre := by simpa using h
    have hi := (List.getElem?_eq_some_iff.1 hx).1
    have hx2 := (List.getElem?_eq_some_iff.1 hx).2
    simp [u_ratchetbase_NodeValues_L1, b_ratchetbase_NodeValues_L1, hi, hx2, ← this]
  | z :: suf, pre, y, h, hm => by
    rw [loop_eq hm]
    have hi := (List.getElem?_eq_some_iff.1 hx).1
    have hx2 := (List.getElem?_eq_some_iff.1 hx).2
    have hlen : pre.length < x.args.length := by rw [h]; simp
    obtain ⟨hz0, hz1, hz2⟩ := hin z (by rw [h]; simp)
    have hlt : z.toNat < nodes.length := by omega
    have hlv : z.toNat < V.length := by omega
    have hwid : widOf nodes z = nodes[z.toNat].width := by unfold widOf; simp [List.getD, hlt]
    have hgd : V.getD z.toNat 0 = V[z.toNat] := by simp [List.getD, hlv]
    have hws := w_succ hlen (show x.args.length ≤ top63 by simp only [top63]; omega)
    have hroom : (ints (widsOf nodes pre)).length + 1 ≤ room := by rw [List.length_map, List.length_map]; simp only [room]; omega
    have hroomA : (ints (argsOf V pre)).length + 1 ≤ room := by rw [List.length_map, List.length_map]; simp only [room]; omega
    have hreg := nv_region (π := π) (nodes.map encNode) (ints V) (ints (argsOf V pre)) (ints (widsOf nodes pre)) (ints x.args) L i pre.length z V[z.toNat] nodes[z.toNat].width x.op x.width x.value nodes[z.toNat].op nodes[z.toNat].value (encInts nodes[z.toNat].args) (flagE pre)
      (by rw [List.getElem?_map, hx]; rfl) (by rw [h]; simp) hz0 (by rw [List.getElem?_map, List.getElem?_eq_getElem hlt]; rfl) (by simpa using hlv) (by simp) hroomA hroom
    have hnext := nv_loop1 nodes L V i x hx hal hin suf (pre ++ [z])
    rw [show (pre ++ [z]).length = pre.length + 1 by simp, flagE_snoc, show widsOf nodes (pre ++ [z]) = widsOf nodes pre ++ [widOf nodes z] by simp, hwid, show argsOf V (pre ++ [z]) = argsOf V pre ++ [V.getD z.toNat 0] by simp, hgd] at hnext
    generalize widsOf nodes pre = R at *
    generalize widsOf nodes x.args = RR at *
    generalize argsOf V pre = A at *
    generalize argsOf V x.args = AA at *
    simp [nv_body, nvH, nvT, b_ratchetbase_NodeValues_L1, hi, hx2, lt_mid h, hreg]
    refine hnext _ (by simp [h]) ?_
    simp [hws]

end Go.Proofs.YtglelclmlkeheaaGreatDoor.V

/- The values of all nodes, by the reference: all of them. -/
namespace Go.Proofs.YtglelclmlkeheaaGreatDoor.V
open Go (IntKind BinOp UnOp)
variable {π : Id}

theorem e_ApplyN {leaves L : List Int} {nodes : List Nod} (hG : ∀ i x, nodes[i]? = some x → nodeE leaves nodes i x = 0) (hL : LeafOk leaves L) {k : Nat} {vs : List Int} (hI : InvV nodes k vs) {x : Nod} (hx : nodes[k]? = some x) :
    EE π n_ratchetbase_Apply [.p (encNode x), .p (encInts (argsOf vs x.args)), .p (encInts (widsOf nodes x.args)), .p (encInts L)] [] = some (.p (I (valN nodes L vs x)), []) := by
  obtain ⟨ho, hw, hl, ha, hv, hf⟩ := nodeE_iff (hG k x hx)
  have ho' := within_iff.1 ho
  have hw' := within_iff.1 hw
  unfold valN
  by_cases h1 : x.op = 1
  · rw [if_pos h1]
    unfold valE at hv
    rw [if_neg (by omega), if_pos h1] at hv
    split at hv
    · rename_i hin
      have hin' := within_iff.1 hin
      have hLl := hL.len
      exact e_Apply1 x ⟨by omega, by omega⟩ _ _ L h1 ⟨by omega, by omega⟩
    · exact absurd hv (by decide)
  · rw [if_neg h1]
    by_cases h0 : x.op = 0
    · rw [e_Apply0 x ⟨by omega, by omega⟩ _ _ _ h0, h0]; rfl
    · exact e_ApplyK (k := x.op.toNat) ⟨by omega, by omega⟩ (by omega) (app_ok hG hI hx h1 h0) _

theorem argsOf_app (vs zs : List Int) (l : List Int) (h : ∀ n ∈ l, n.toNat < vs.length) : argsOf (vs ++ zs) l = argsOf vs l := by
  apply List.map_congr_left
  intro n hn
  simp [List.getD, List.getElem?_append_left (h n hn)]
theorem set_zero (vs : List Int) (k : Nat) (r : Int) : (ints (vs ++ List.replicate (k + 1) 0)).set vs.length (I r) = ints ((vs ++ [r]) ++ List.replicate k 0) := by
  rw [List.replicate_succ]
  simp [List.set_append]

theorem nv_loop0 {leaves L : List Int} {nodes : List Nod} (hnl : nodes.length ≤ 1000) (hal : ∀ x ∈ nodes, x.args.length ≤ 1000) (hG : ∀ i x, nodes[i]? = some x → nodeE leaves nodes i x = 0) (hL : LeafOk leaves L) :
    ∀ (suf pre : List Nod) (vs : List Int) (y : Env × Sto), nodes = pre ++ suf → InvV nodes pre.length vs →
    mask [0, 1, 5, 6] [] y = some ([(0, .p (encNodes nodes)), (1, .p (encInts L)), (5, .ap (12 :: π)), (6, .p (I pre.length))], [rowI (12 :: π) (some false) (vs ++ List.replicate suf.length 0)]) →
    kpO [5] [4] [] (bkO 0 (iter (round EE iter π [] [0, 1, 5, 6] c_ratchetbase_NodeValues_L0) y)) = some (.nm, [(5, .ap (12 :: π))], [rowI (12 :: π) (some false) (valsN nodes L suf vs)])
  | [], pre, vs, y, h, hI, hm => by
    rw [loop_eq hm]
    have : nodes = pre := by simpa using h
    simp [u_ratchetbase_NodeValues_L0, b_ratchetbase_NodeValues_L0, valsN, ← this]
  | z :: suf, pre, vs, y, h, hI, hm => by
    rw [loop_eq hm]
    have hlen : pre.length < nodes.length := by rw [h]; simp
    have hz := hal z (by rw [h]; simp)
    have hx : nodes[pre.length]? = some z := by rw [h]; simp
    have hvl := hI.len
    have hws := w_succ hlen (show nodes.length ≤ top63 by simp only [top63]; omega)
    obtain ⟨ho, hw, hl2, ha, hv, hf⟩ := nodeE_iff (hG _ z hx)
    have hin : ∀ n ∈ z.args, 0 ≤ n ∧ n < (pre.length : Int) := fun n hn => by
      have := within_iff.1 (List.all_eq_true.1 ha n hn); omega
    have hap := fun π => e_ApplyN (π := π) hG hL hI hx
    have hl1 := nv_loop1 (π := π) nodes (encInts L) (vs ++ List.replicate (suf.length + 1) 0) pre.length z hx hz (fun n hn => by
      have := hin n hn
      exact ⟨this.1, by omega, by simp; omega⟩) z.args []
    rw [argsOf_app _ _ z.args (fun n hn => by have := hin n hn; omega)] at hl1
    have hnext := nv_loop0 hnl hal hG hL suf (pre ++ [z]) (vs ++ [valN nodes L vs z])
    rw [show (pre ++ [z]).length = pre.length + 1 by simp] at hnext
    have hnext := fun y e => hnext y e (inv_step hG hL hI hx)
    have hset := set_zero vs suf.length (valN nodes L vs z)
    rw [hvl] at hset
    have hlt : pre.length < (vs ++ List.replicate (suf.length + 1) (0 : Int)).length := by simp; omega
    have hrs : valsN nodes L (z :: suf) vs = valsN nodes L suf (vs ++ [valN nodes L vs z]) := rfl
    rw [hrs]
    simp only [List.length_cons] at hm hl1 ⊢
    generalize valsN nodes L suf (vs ++ [valN nodes L vs z]) = RR at *
    generalize valN nodes L vs z = r at *
    generalize (vs ++ [r]) ++ List.replicate suf.length (0 : Int) = V2 at *
    generalize vs ++ List.replicate (suf.length + 1) (0 : Int) = V at *
    generalize argsOf vs z.args = A at *
    generalize widsOf nodes z.args = W at *
    have hgm := get_mid encNode h
    simp [u_ratchetbase_NodeValues_L0, b_ratchetbase_NodeValues_L0, lt_mid h, thaw, thaw1]
    rw [hl1 _ rfl (by simp [flagE])]
    simp [get_mid _ h, hap, hlt, freeze]
    refine hnext _ (by simp [h]) ?_
    simp [hws]
    exact hset

theorem e_NodeValues {leaves L : List Int} {nodes : List Nod} (hnl : nodes.length ≤ 1000) (hal : ∀ x ∈ nodes, x.args.length ≤ 1000) (hG : ∀ i x, nodes[i]? = some x → nodeE leaves nodes i x = 0) (hL : LeafOk leaves L) :
    EE π n_ratchetbase_NodeValues [.p (encNodes nodes), .p (encInts L)] [] = some (.ap (12 :: π), [rowI (12 :: π) (some false) (valsN nodes L nodes [])]) := by
  have hlp := nv_loop0 (π := π) hnl hal hG hL nodes [] []
  have hro : nodes.length ≤ room := by simp only [room]; omega
  have hrep : List.replicate nodes.length (PV.int .i64 0) = ints (List.replicate nodes.length 0) := by simp
  simp only [List.nil_append] at hlp
  generalize List.replicate nodes.length (0 : Int) = o at *
  generalize valsN nodes L nodes [] = RR at *
  simp [e_ratchetbase_NodeValues, run_eq, c_ratchetbase_NodeValues, hro, hrep]
  rw [hlp _ trivial ⟨rfl, fun j hj => absurd hj (by simp)⟩ (by simp)]
  simp

end Go.Proofs.YtglelclmlkeheaaGreatDoor.V
