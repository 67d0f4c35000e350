/- The value of a node by those before it, in the program. The values of all nodes, in plain terms. The values of all nodes, in the program. The values of a graph, in the program. The values of all nodes, by the reference. The values of all nodes, by the reference: a round of the inner loop. The values -/
import Derived.Test.YtglelclmlkeheaaGreatDoorS2
import Derived.Test.YtglelclmlkeheaaGreatDoorS1

set_option linter.unusedSimpArgs false
set_option linter.unusedVariables false

/- The value of a node by those before it, in the program. -/
namespace Go.Proofs.YtglelclmlkeheaaGreatDoor.V
open Go (IntKind BinOp UnOp)
variable {π : Id}

abbrev argsOf (vs : List Int) (args : List Int) : List Int := args.map fun n => vs.getD n.toNat 0
theorem applied_loop (nodes : List Nod) (vs : List Int) (x : Nod) (hal : x.args.length ≤ 1000) (hin : ∀ n ∈ x.args, 0 ≤ n ∧ n < nodes.length ∧ n < vs.length) :
    ∀ (suf pre : List Int) (y : Env × Sto), x.args = pre ++ suf →
    mask [0, 1, 3, 6, 9, 10, 14, 15, 16] [] y = some ([(0, .p (.ptr opsPV)), (1, .p (encNodes nodes)), (3, .p (encInts vs)), (6, .ref (6 :: π) 0), (9, .ap (1009 :: π)), (10, .ap (1010 :: π)), (14, .p (encInts x.args)), (15, .p (I x.args.length)), (16, .p (I pre.length))], [rowI (1009 :: π) (flagE pre) (widsOf nodes pre), rowI (1010 :: π) (flagE pre) (argsOf vs pre), (6 :: π, boxNd x)]) →
    kpO [0, 6, 9, 10] [8] [] (bkO 0 (iter (round EE iter π [] [0, 1, 3, 6, 9, 10, 14, 15, 16] c_graph_applied_L0) y)) = some (.nm, [(0, .p (.ptr opsPV)), (6, .ref (6 :: π) 0), (9, .ap (1009 :: π)), (10, .ap (1010 :: π))], [rowI (1009 :: π) (flagE x.args) (widsOf nodes x.args), rowI (1010 :: π) (flagE x.args) (argsOf vs x.args), (6 :: π, boxNd x)])
  | [], pre, y, h, hm => by
    rw [loop_eq hm]
    have : x.args = pre := by simpa using h
    simp [u_graph_applied_L0, b_graph_applied_L0, ← this]
  | z :: suf, pre, y, h, hm => by
    rw [loop_eq hm]
    have hlen : pre.length < x.args.length := by rw [h]; simp
    obtain ⟨hz0, hz1, hz2⟩ := hin z (by rw [h]; simp)
    have hlt : z.toNat < nodes.length := by omega
    have hlv : z.toNat < vs.length := by omega
    have hwid : widOf nodes z = nodes[z.toNat].width := by unfold widOf; simp [List.getD, hlt]
    have hgd : vs.getD z.toNat 0 = vs[z.toNat] := by simp [List.getD, hlv]
    have hws := w_succ hlen (show x.args.length ≤ top63 by simp only [top63]; omega)
    have hroom : (widsOf nodes pre).length + 1 ≤ room := by rw [List.length_map]; simp only [room]; omega
    have hroomA : (argsOf vs pre).length + 1 ≤ room := by rw [List.length_map]; simp only [room]; omega
    have hnext := applied_loop nodes vs x hal hin suf (pre ++ [z])
    rw [show (pre ++ [z]).length = pre.length + 1 by simp, flagE_snoc, show widsOf nodes (pre ++ [z]) = widsOf nodes pre ++ [widOf nodes z] by simp, hwid, show argsOf vs (pre ++ [z]) = argsOf vs pre ++ [vs.getD z.toNat 0] by simp, hgd] at hnext
    generalize widsOf nodes pre = R at *
    generalize widsOf nodes x.args = RR at *
    generalize argsOf vs pre = A at *
    generalize argsOf vs x.args = AA at *
    simp [u_graph_applied_L0, b_graph_applied_L0, lt_mid h, get_mid _ h, hz0, hz1, hz2, hlt, hlv, hroom, hroomA, freeze, evRO]
    exact hnext _ (by simp [h]) (by simp [hws])

theorem e_applied (nodes : List Nod) (vs : List Int) (x : Nod) (hal : x.args.length ≤ 1000) (hin : ∀ n ∈ x.args, 0 ≤ n ∧ n < nodes.length ∧ n < vs.length) (ho : 0 ≤ x.op ∧ x.op < 19) (h1 : x.op ≠ 1)
    (hok : x.op.toNat ≠ 0 → AppOk x.op.toNat x (widsOf nodes x.args) (argsOf vs x.args)) :
    EE π n_graph_applied [.p (.ptr opsPV), .p (encNodes nodes), .p (encNode x), .p (encInts vs)] [] = some (.p (I (appK x.op.toNat x (widsOf nodes x.args) (argsOf vs x.args))), []) := by
  have hlp := applied_loop (π := π) nodes vs x hal hin x.args []
  have hk : x.op.toNat < 19 := by omega
  have hrow := ops_row x.op.toNat hk
  rw [opRow_eq hk] at hrow
  have hdl : 5 ≤ opsPV.length - x.op.toNat * 5 := by rw [opsPV_len]; omega
  have hget : opsPV[x.op.toNat * 5 + 4]? = some (.fn (runN x.op.toNat) (runC x.op.toNat)) := by
    have := congrArg (fun l => l[4]?) hrow
    simpa [List.getElem?_take, List.getElem?_drop] using this
  have hrun := fun π => e_run (π := π) hk (by omega) hok
  generalize appK x.op.toNat x (widsOf nodes x.args) (argsOf vs x.args) = r at *
  generalize widsOf nodes x.args = W at *
  generalize argsOf vs x.args = A at *
  simp [e_graph_applied, run_eq, c_graph_applied, thaw, thaw1, ops_fg]
  rw [hlp _ rfl (by simp [flagE])]
  simp [ho.1, ho.2, hdl, hget, hrun, freeze, evRO]

end Go.Proofs.YtglelclmlkeheaaGreatDoor.V

/- The values of all nodes, in plain terms. -/
namespace Go.Proofs.YtglelclmlkeheaaGreatDoor.V
open Go (IntKind BinOp UnOp)
variable {π : Id}

/-- The value of a node by those before it, and by those of the leaves. -/
def valN (nodes : List Nod) (L vs : List Int) (x : Nod) : Int :=
  if x.op = 1 then L.getD x.value.toNat 0 else appK x.op.toNat x (widsOf nodes x.args) (argsOf vs x.args)
def valsN (nodes : List Nod) (L : List Int) : List Nod → List Int → List Int
  | [], vs => vs
  | x :: r, vs => valsN nodes L r (vs ++ [valN nodes L vs x])

structure InvV (nodes : List Nod) (k : Nat) (vs : List Int) : Prop where
  len : vs.length = k
  ok : ∀ j, j < k → Okv (vs.getD j 0) (widOf nodes (j : Int))
structure LeafOk (leaves L : List Int) : Prop where
  len : L.length = leaves.length
  ok : ∀ j, j < leaves.length → Okv (L.getD j 0) (leaves.getD j 0)

theorem widOf_get {nodes : List Nod} {j : Nat} {y : Nod} (h : nodes[j]? = some y) : widOf nodes (j : Int) = y.width := by
  unfold widOf
  simp [List.getD, h]

theorem app_ok {leaves : List Int} {nodes : List Nod} (hG : ∀ i x, nodes[i]? = some x → nodeE leaves nodes i x = 0) {k : Nat} {vs : List Int} (hI : InvV nodes k vs) {x : Nod} (hx : nodes[k]? = some x) (h1 : x.op ≠ 1) (h0 : x.op ≠ 0) :
    AppOk x.op.toNat x (widsOf nodes x.args) (argsOf vs x.args) := by
  obtain ⟨ho, hw, hl, ha, hv, hf⟩ := nodeE_iff (hG k x hx)
  have ho' := within_iff.1 ho
  have hw' := within_iff.1 hw
  refine ⟨hw', by rw [List.length_map]; exact hl, by rw [List.length_map]; exact hl, fun i hi => ?_, hf, fun h14 => ?_⟩
  · have hil : i < x.args.length := by omega
    have hn := within_iff.1 (List.all_eq_true.1 ha x.args[i] (List.getElem_mem hil))
    have e1 : (widsOf nodes x.args).getD i 0 = widOf nodes x.args[i] := by simp [List.getD, hil]
    have e2 : (argsOf vs x.args).getD i 0 = vs.getD x.args[i].toNat 0 := by simp [List.getD, hil]
    rw [e1, e2]
    have hj : x.args[i].toNat < k := by omega
    have hkl := (List.getElem?_eq_some_iff.1 hx).1
    have hjl : x.args[i].toNat < nodes.length := by omega
    have hy : nodes[x.args[i].toNat]? = some nodes[x.args[i].toNat] := List.getElem?_eq_getElem hjl
    have hcast : ((x.args[i].toNat : Nat) : Int) = x.args[i] := by omega
    have e3 := widOf_get hy
    rw [hcast] at e3
    have hwj := within_iff.1 (nodeE_iff (hG _ _ hy)).2.1
    have hok := hI.ok _ hj
    rw [hcast] at hok
    exact ⟨by rw [e3]; exact hwj, hok⟩
  · unfold valE at hv
    rw [if_neg h0, if_neg h1, if_pos (by omega)] at hv
    exact within_iff.1 ((unlE_z (by decide)).1 hv)

theorem val_in {leaves L : List Int} {nodes : List Nod} (hG : ∀ i x, nodes[i]? = some x → nodeE leaves nodes i x = 0) (hL : LeafOk leaves L) {k : Nat} {vs : List Int} (hI : InvV nodes k vs) {x : Nod} (hx : nodes[k]? = some x) : Okv (valN nodes L vs x) x.width := by
  obtain ⟨ho, hw, hl, ha, hv, hf⟩ := nodeE_iff (hG k x hx)
  have ho' := within_iff.1 ho
  have hw' := within_iff.1 hw
  unfold valN
  split
  · rename_i h1
    unfold valE at hv
    rw [if_neg (by omega), if_pos h1] at hv
    split at hv
    · rename_i hin
      have hin' := within_iff.1 hin
      have hwd : leaves.getD x.value.toNat 0 = x.width := by simpa using (unlE_z (by decide)).1 hv
      have := hL.ok x.value.toNat (by omega)
      rw [hwd] at this
      exact this
    · exact absurd hv (by decide)
  · rename_i h1
    by_cases h0 : x.op = 0
    · unfold valE at hv
      rw [if_pos h0] at hv
      have hfi := (unlE_z (by decide)).1 hv
      unfold fitsB at hfi
      simp only [Bool.and_eq_true, decide_eq_true_eq] at hfi
      have := within_iff.1 hfi.2
      have e : appK x.op.toNat x (widsOf nodes x.args) (argsOf vs x.args) = x.value := by rw [h0]; rfl
      rw [e]
      exact ⟨this.1, by omega⟩
    · exact appK_in ⟨by omega, by omega⟩ (app_ok hG hI hx h1 h0)

theorem inv_step {leaves L : List Int} {nodes : List Nod} (hG : ∀ i x, nodes[i]? = some x → nodeE leaves nodes i x = 0) (hL : LeafOk leaves L) {k : Nat} {vs : List Int} (hI : InvV nodes k vs) {x : Nod} (hx : nodes[k]? = some x) : InvV nodes (k + 1) (vs ++ [valN nodes L vs x]) := by
  have hlen := hI.len
  refine ⟨by simp [hlen], fun j hj => ?_⟩
  by_cases h : j < k
  · rw [show (vs ++ [valN nodes L vs x]).getD j 0 = vs.getD j 0 by simp [List.getD, List.getElem?_append_left (show j < vs.length by omega)]]
    exact hI.ok j h
  · have : j = k := by omega
    subst this
    rw [show (vs ++ [valN nodes L vs x]).getD j 0 = valN nodes L vs x by simp [List.getD, ← hlen], widOf_get hx]
    exact val_in hG hL hI hx

end Go.Proofs.YtglelclmlkeheaaGreatDoor.V

/- The values of all nodes, in the program. -/
namespace Go.Proofs.YtglelclmlkeheaaGreatDoor.V
open Go (IntKind BinOp UnOp)
variable {π : Id}

@[simp] theorem idsL_p : ∀ l : List PV, AV.ids.AV.idsL (l.map AV.p) = []
  | [] => rfl
  | x :: r => by rw [List.map_cons]; simp only [AV.ids.AV.idsL, AV.ids, idsL_p r]; rfl
theorem mapM_p11 (s : Sto) : ∀ l : List PV, l.mapM (toPV s 11 ∘ AV.p) = some l
  | [] => rfl
  | x :: r => by
    rw [List.mapM_cons, mapM_p11 s r]; rfl
@[simp] theorem kill_p (i : Id) : (AV.kill i ∘ AV.p) = AV.p := rfl
abbrev boxOps : Blk := .box false (opsPV.map AV.p)
theorem valued_loop (fl : Option Bool) {leaves L : List Int} {nodes : List Nod} (hnl : nodes.length ≤ 1000) (hal : ∀ x ∈ nodes, x.args.length ≤ 1000) (hll : leaves.length ≤ 1000) (hG : ∀ i x, nodes[i]? = some x → nodeE leaves nodes i x = 0) (hL : LeafOk leaves L) :
    ∀ (suf pre : List Nod) (vs : List Int) (y : Env × Sto), nodes = pre ++ suf → InvV nodes pre.length vs →
    mask [0, 1, 5, 6, 11, 12, 13] [] y = some ([(0, .p (encNodes nodes)), (1, .p (.sl 1 fl (ints L))), (5, .ref (5 :: π) 0), (6, .ap (1006 :: π)), (11, .p (encNodes nodes)), (12, .p (I nodes.length)), (13, .p (I pre.length))], [rowI (1006 :: π) (flagE pre) vs, (5 :: π, boxOps)]) →
    kpO [6] [4] [] (bkO 0 (iter (round EE iter π [] [0, 1, 5, 6, 11, 12, 13] c_graph_valued_L0) y)) = some (.nm, [(6, .ap (1006 :: π))], [rowI (1006 :: π) (flagE nodes) (valsN nodes L suf vs)])
  | [], pre, vs, y, h, hI, hm => by
    rw [loop_eq hm]
    have : nodes = pre := by simpa using h
    simp [u_graph_valued_L0, b_graph_valued_L0, valsN, ← this]
  | z :: suf, pre, vs, y, h, hI, hm => by
    rw [loop_eq hm]
    have hlen : pre.length < nodes.length := by rw [h]; simp
    have hz := hal z (by rw [h]; simp)
    have hx : nodes[pre.length]? = some z := by rw [h]; simp
    have hvl := hI.len
    have hws := w_succ hlen (show nodes.length ≤ top63 by simp only [top63]; omega)
    have hroom : vs.length + 1 ≤ room := by simp only [room]; omega
    have hnext := valued_loop fl hnl hal hll hG hL suf (pre ++ [z]) (vs ++ [valN nodes L vs z])
    rw [show (pre ++ [z]).length = pre.length + 1 by simp, flagE_snoc] at hnext
    have hnext := fun y e => hnext y e (inv_step hG hL hI hx)
    obtain ⟨ho, hw, hl2, ha, hv, hf⟩ := nodeE_iff (hG _ z hx)
    have ho' := within_iff.1 ho
    have hrs : valsN nodes L (z :: suf) vs = valsN nodes L suf (vs ++ [valN nodes L vs z]) := rfl
    rw [hrs]
    generalize valsN nodes L suf (vs ++ [valN nodes L vs z]) = RR at *
    by_cases h1 : z.op = 1
    · unfold valE at hv
      rw [if_neg (by omega), if_pos h1] at hv
      split at hv
      · rename_i hin
        have hin' := within_iff.1 hin
        have hLl := hL.len
        have hlt : z.value.toNat < L.length := by omega
        have hlt' : z.value < (L.length : Int) := by omega
        have hval : valN nodes L vs z = L[z.value.toNat] := by unfold valN; rw [if_pos h1]; simp [List.getD, hlt]
        rw [hval] at hnext
        simp [u_graph_valued_L0, b_graph_valued_L0, lt_mid h, get_mid _ h, h1, hin'.1, hlt, hlt', hroom]
        exact hnext _ (by simp [h]) (by simp [hws])
      · exact absurd hv (by decide)
    · have hap := fun π => e_applied (π := π) nodes vs z hz (fun n hn => by
        have := within_iff.1 (List.all_eq_true.1 ha n hn)
        omega) ⟨ho'.1, by omega⟩ h1 (fun h0 => app_ok hG hI hx h1 (by omega))
      have hval : valN nodes L vs z = appK z.op.toNat z (widsOf nodes z.args) (argsOf vs z.args) := by unfold valN; rw [if_neg h1]
      rw [← hval] at hap
      generalize valN nodes L vs z = r at *
      simp [u_graph_valued_L0, b_graph_valued_L0, lt_mid h, get_mid _ h, h1, hap, hroom, mapM_p11, ops_fg, freeze, evRO]
      exact hnext _ (by simp [h]) (by simp [hws])

theorem e_valued {fl : Option Bool} {leaves L : List Int} {nodes : List Nod} (hnl : nodes.length ≤ 1000) (hal : ∀ x ∈ nodes, x.args.length ≤ 1000) (hll : leaves.length ≤ 1000) (hG : ∀ i x, nodes[i]? = some x → nodeE leaves nodes i x = 0) (hL : LeafOk leaves L) :
    EE π n_graph_valued [.p (encNodes nodes), .p (.sl 1 fl (ints L))] [] = some (.ap (1006 :: π), [rowI (1006 :: π) (flagE nodes) (valsN nodes L nodes [])]) := by
  have hlp := valued_loop (π := π) fl hnl hal hll hG hL nodes [] []
  generalize valsN nodes L nodes [] = RR at *
  simp [-freeze, -PV.cell1, ops_c1, c1_sl, c1_int, e_graph_valued, run_eq, c_graph_valued, e_operations, freeze_ops, freeze_p, mapM_p', ops_fg, opsPV_len, evRO, thaw, thaw1]
  rw [hlp _ rfl ⟨rfl, fun j hj => absurd hj (by simp)⟩ (by simp [flagE])]
  simp

end Go.Proofs.YtglelclmlkeheaaGreatDoor.V

/- The values of a graph, in the program. -/
namespace Go.Proofs.YtglelclmlkeheaaGreatDoor.V
open Go (IntKind BinOp UnOp)
variable {π : Id}

def fitE (leaves : List Int) (i : Nat) (n : Int) : Int := unlE (fitsB n (leaves.getD i 0)) 2
theorem e_ValuesOf1 (leaves : List Int) (hlw : ∀ n ∈ leaves, 1 ≤ n ∧ n ≤ 16) (i : Nat) (hi : i < leaves.length) (n : Int) :
    EE π n_graph_ValuesOf_1 [.p (I i), .p (I n), .p (.ptr [encInts leaves])] [] = some (.p (I (fitE leaves i n)), []) := by
  have hgd : leaves.getD i 0 = leaves[i] := by simp [List.getD, hi]
  have hfi := fun π => e_fitsG (π := π) n leaves[i] (hlw _ (List.getElem_mem hi)).2
  unfold fitE
  rw [hgd]
  generalize fitsB n leaves[i] = b at *
  simp [e_graph_ValuesOf_1, run_eq, c_graph_ValuesOf_1, hi, hfi, e_unlessG]

def valuesE (leaves values : List Int) : Int := if values.length ≠ leaves.length then 10 else (eachE (fitE leaves) 0 values).2
theorem leafOk_of {leaves values : List Int} (h : valuesE leaves values = 0) : LeafOk leaves values := by
  unfold valuesE at h
  split at h
  · exact absurd h (by decide)
  · rename_i hl
    have hl : values.length = leaves.length := by simpa using hl
    refine ⟨hl, fun j hj => ?_⟩
    have hv : values[j]? = some (values.getD j 0) := by simp [List.getD, show j < values.length by omega]
    have := eachE_all h j _ hv
    unfold fitE at this
    rw [Nat.zero_add] at this
    have hf := (unlE_z (by decide)).1 this
    unfold fitsB at hf
    simp only [Bool.and_eq_true, decide_eq_true_eq] at hf
    have h2 := within_iff.1 hf.2
    exact ⟨h2.1, by omega⟩

theorem e_ValuesOf (leaves : List Int) (nodes : List Nod) (values : List Int) (hll : leaves.length ≤ 1000) (hnl : nodes.length ≤ 1000) (hvl : values.length ≤ 1000) (hal : ∀ x ∈ nodes, x.args.length ≤ 1000) :
    EE π n_graph_ValuesOf [.p (encInts leaves), .p (encNodes nodes), .p (encInts values)] [] =
      (if (checkE leaves nodes).2 ≠ 0 then some (.p (.tup [.sl 1 (some true) [], I (checkE leaves nodes).2]), []) else if valuesE leaves values ≠ 0 then some (.p (.tup [.sl 1 (some true) [], I (valuesE leaves values)]), [])
        else some (.tup [.ap (1006 :: 36 :: π), .p (I 0)], [rowI (1006 :: 36 :: π) (flagE nodes) (valsN nodes values nodes [])])) := by
  have hge := fun π => e_graphErr (π := π) leaves nodes hal
  by_cases hc : (checkE leaves nodes).2 = 0
  · obtain ⟨_, _, hlw⟩ := checkE_leaves hc
    have hG := checkE_nodes hc
    rw [hc] at hge
    rw [if_neg (by simp [hc])]
    by_cases hl : values.length = leaves.length
    · have hl' : (values.length : Int) = leaves.length := by omega
      have hea := fun π => e_eachG (π := π) values (by simp only [top63]; omega) (f := n_graph_ValuesOf_1) (caps := [.ptr [encInts leaves]]) (err := fitE leaves) (fun i x hx => by
        have := (List.getElem?_eq_some_iff.1 hx).1
        simpa using e_ValuesOf1 leaves hlw i (by omega) x)
      by_cases hv : valuesE leaves values = 0
      · have hva := fun π => e_valued (π := π) (fl := none) hnl hal hll hG (leafOk_of hv)
        have hv2 : (eachE (fitE leaves) 0 values).2 = 0 := by unfold valuesE at hv; rwa [if_neg (by simp [hl])] at hv
        generalize valsN nodes values nodes [] = R at *
        generalize eachE (fitE leaves) 0 values = q at *
        simp [e_graph_ValuesOf, run_eq, c_graph_ValuesOf, hge, hl', e_unlessG, e_first2G, unlE, firstE, hea, hv, hv2, hva, freeze, evRO]
      · have hv2 : valuesE leaves values = (eachE (fitE leaves) 0 values).2 := by unfold valuesE; rw [if_neg (by simp [hl])]
        rw [hv2] at hv ⊢
        generalize eachE (fitE leaves) 0 values = q at *
        simp [e_graph_ValuesOf, run_eq, c_graph_ValuesOf, hge, hl', e_unlessG, e_first2G, unlE, firstE, hea, hv, freeze, evRO]
    · have hl' : ¬ (values.length : Int) = leaves.length := by omega
      have hv2 : valuesE leaves values = 10 := by unfold valuesE; rw [if_pos (by simpa using hl)]
      rw [hv2]
      simp [e_graph_ValuesOf, run_eq, c_graph_ValuesOf, hge, hl', e_unlessG, e_first2G, unlE, firstE, freeze, evRO]
  · generalize (checkE leaves nodes).2 = c at *
    simp [e_graph_ValuesOf, run_eq, c_graph_ValuesOf, hge, hc, e_unlessG, e_first2G, firstE, freeze, evRO]

end Go.Proofs.YtglelclmlkeheaaGreatDoor.V

/- The values of all nodes, by the reference. -/
namespace Go.Proofs.YtglelclmlkeheaaGreatDoor.V
open Go (IntKind BinOp UnOp)
variable {π : Id}

theorem stepsH_app {E : Call} {s0 : Sto} {H : List Id} {lg : Bool} {n2 : Nat} {l2 : List Ins} : ∀ (l1 : List Ins) {n1 k : Nat} {e : Env} {s : Sto} {p : List (Id × Blk)} {A : List Apx} {U : List (Nat × List AV)} {C : List (Nat × Id)} {h : HSt}, l1.length = n1 → stepsH E π s0 H lg k n1 l1 e s p A U C = some (h, []) →
    stepsH E π s0 H lg k (n1 + n2) (l1 ++ l2) e s p A U C = stepsH E π s0 H lg (k + n1) n2 l2 h.e h.s h.p h.A h.U h.C
  | [], n1, k, e, s, p, A, U, C, h, hl, hs => by
    subst hl
    simp [stepsH] at hs
    subst hs
    simp
  | o :: r, n1, k, e, s, p, A, U, C, h, hl, hs => by
    obtain ⟨m, rfl⟩ : ∃ m, n1 = m + 1 := ⟨r.length, by simpa using hl.symm⟩
    have hl' : r.length = m := by simpa using hl
    rw [show m + 1 + n2 = (m + n2) + 1 by omega, List.cons_append]
    rw [show k + (m + 1) = k + 1 + m by omega]
    generalize hR : stepsH E π s0 H lg (k + 1 + m) n2 l2 h.e h.s h.p h.A h.U h.C = R
    unfold stepsH at hs ⊢
    split
    · rename_i x hx
      rw [hx] at hs
      simp only at hs
      split at hs
      · rename_i hc
        rw [if_pos hc]
        rw [← hR]; exact stepsH_app r hl' hs
      · cases hs
    · rename_i hx
      rw [hx] at hs
      simp only at hs
      split
      · rename_i y hy
        rw [hy] at hs
        simp only at hs
        split at hs
        · rename_i hc
          rw [if_pos hc]
          rw [← hR]; exact stepsH_app r hl' hs
        · cases hs
      · rename_i hy
        rw [hy] at hs
        simp only at hs
        split
        · rename_i z hz
          rw [hz] at hs
          simp only at hs
          split
          · rename_i hlg
            rw [if_pos hlg] at hs
            split at hs
            · rename_i hc
              rw [if_pos hc]
              rw [← hR]; exact stepsH_app r hl' hs
            · cases hs
          · rename_i hlg
            rw [if_neg hlg] at hs
            rw [← hR]; exact stepsH_app r hl' hs
        · rename_i hz
          rw [hz] at hs
          cases hs

/-- What an operation saw does not touch a row that is appended to. -/
def okU (a : Apx) (u : Nat × List AV) : Bool := u.1 == a.k || (u.2.all fun v => !v.ids.contains a.id) || a.anc.contains u.1
theorem okU_mk (a : Apx) (k : Nat) (l : List AV) : okU a (k, l) = (k == a.k || (l.all fun v => !v.ids.contains a.id) || a.anc.contains k) := rfl
theorem apxOk1 {e : Env} {s0 s : Sto} {p : List (Id × Blk)} {a : Apx} {U : List (Nat × List AV)} : apxOk s0 ⟨e, s, p, [a], U, []⟩ = (U.all (okU a) && (p ++ s ++ s0).all fun x => !x.2.ids.contains a.id) := by
  simp only [apxOk, List.all_cons, List.all_nil, Bool.and_true]; rfl
theorem apxE1 {e : Env} {s : Sto} {p : List (Id × Blk)} {a : Apx} {U : List (Nat × List AV)} {t : Nat} : (apxE ⟨e, s, p, [a], U, []⟩).lookup t = if t = a.d then some (.ap a.id) else (e.lookup t).map fun v => if v.ids.contains a.id then .top else v := by
  have key : ∀ l : Env, (l.map fun x => (x.1, if x.2.ids.any (fun i => [a].any fun b => b.id == i) then AV.top else x.2)).lookup t = (l.lookup t).map fun v => if v.ids.contains a.id then .top else v := by
    intro l
    induction l with
    | nil => rfl
    | cons y r ih =>
      obtain ⟨k, v⟩ := y
      simp only [List.map_cons, List.lookup_cons, ih]
      have hb : v.ids.any (fun i => [a].any fun b => b.id == i) = v.ids.contains a.id := by
        rw [List.contains_eq_any_beq]
        congr 1
        funext i
        simp
      rw [hb]
      cases t == k <;> rfl
  show List.lookup t ((a.d, AV.ap a.id) :: _) = _
  rw [List.lookup_cons]
  by_cases h : t = a.d
  · rw [if_pos h, h]; simp
  · rw [if_neg h, show (t == a.d) = false by simpa using h]
    exact key e

def nvReg : List Ins := match b_ratchetbase_NodeValues_L1 with | .sq _ (.sq (.bk _ (.op _ l _)) _) => l | _ => []
def nvA : List Ins := nvReg.take 14
def nvB : List Ins := nvReg.drop 14

theorem nv_chunkA (cells VC AC WC zs : List PV) (L : PV) (i p : Nat) (z v a b d : Int) (nl : Option Bool) (h1 : cells[i]? = some (.agg [I a, I b, .sl 1 none zs, I d])) (hp : zs[p]? = some (I z)) (hz : 0 ≤ z)
    (hvl : z.toNat < VC.length) (hv : VC[z.toNat] = I v) (hA : AC.length + 1 ≤ room) : 
    ∃ e1 U1, stepsH EE π [(1007 :: π, .row false t_int 1 nl AC), (1008 :: π, .row false t_int 1 nl WC), (12 :: π, .row false t_int 1 (some false) VC)] [1007 :: π] true 0 14 nvA
      [(0, .p (.sl 4 none cells)), (1, .p L), (5, .ap (12 :: π)), (6, .p (I i)), (7, .ap (1007 :: π)), (8, .ap (1008 :: π)), (9, .p (I p)), (26, .p (.bool true))] [(1008 :: π, .row false t_int 1 nl WC), (12 :: π, .row false t_int 1 (some false) VC)] [] [] [] [] =
      some (⟨e1, [(41 :: π, .row false t_int 1 (some false) [I v]), (1008 :: π, .row false t_int 1 nl WC), (12 :: π, .row false t_int 1 (some false) VC)], [(1007 :: π, .row false t_int 1 (some false) (AC ++ [I v]))], [⟨1007 :: π, 42, 13, [0, 1, 2, 3, 4, 5, 6, 7, 8, 9, 10, 11, 12]⟩], U1, []⟩, []) ∧
      (e1.lookup 0 = some (.p (.sl 4 none cells)) ∧ e1.lookup 1 = some (.p L) ∧ e1.lookup 5 = some (.ap (12 :: π)) ∧ e1.lookup 6 = some (.p (I i)) ∧ e1.lookup 8 = some (.ap (1008 :: π)) ∧ e1.lookup 9 = some (.p (I p))) ∧
      U1.all (okU ⟨1007 :: π, 42, 13, [0, 1, 2, 3, 4, 5, 6, 7, 8, 9, 10, 11, 12]⟩) = true := by
  obtain ⟨r, hr⟩ : ∃ r, stepsH EE π [(1007 :: π, .row false t_int 1 nl AC), (1008 :: π, .row false t_int 1 nl WC), (12 :: π, .row false t_int 1 (some false) VC)] [1007 :: π] true 0 14 nvA
      [(0, .p (.sl 4 none cells)), (1, .p L), (5, .ap (12 :: π)), (6, .p (I i)), (7, .ap (1007 :: π)), (8, .ap (1008 :: π)), (9, .p (I p)), (26, .p (.bool true))] [(1008 :: π, .row false t_int 1 nl WC), (12 :: π, .row false t_int 1 (some false) VC)] [] [] [] [] = r := ⟨_, rfl⟩
  have h2 := hr
  simp [nvA, nvReg, b_ratchetbase_NodeValues_L1, h1, hp, hz, hv, hvl, hA] at h2
  subst h2
  refine ⟨_, _, hr, by simp, ?_⟩
  simp [-List.contains_cons, okU_mk]
end Go.Proofs.YtglelclmlkeheaaGreatDoor.V

/- The values of all nodes, by the reference: a round of the inner loop. -/
namespace Go.Proofs.YtglelclmlkeheaaGreatDoor.V
open Go (IntKind BinOp UnOp)
variable {π : Id}

theorem kill_lookup (id : Id) (t : Nat) : ∀ e : Env, (Env.kill e id).lookup t = (e.lookup t).map (AV.kill id)
  | [] => rfl
  | (k, v) :: r => by
    have ih := kill_lookup id t r
    unfold Env.kill at ih ⊢
    rw [List.map_cons, List.lookup_cons, List.lookup_cons, ih]
    cases t == k <;> rfl

theorem nv_hid (cells VC AC WC zs : List PV) (L : PV) (i p : Nat) (z v w a b d a2 d2 : Int) (q : PV) (nl : Option Bool) (h1 : cells[i]? = some (.agg [I a, I b, .sl 1 none zs, I d])) (hp : zs[p]? = some (I z)) (hz : 0 ≤ z)
    (h2 : cells[z.toNat]? = some (.agg [I a2, I w, q, I d2])) (hvl : z.toNat < VC.length) (hv : VC[z.toNat] = I v) :
    hidA EE π 28 nvReg [(0, .p (.sl 4 none cells)), (1, .p L), (5, .ap (12 :: π)), (6, .p (I i)), (7, .ap (1007 :: π)), (8, .ap (1008 :: π)), (9, .p (I p)), (26, .p (.bool true))] [(1007 :: π, .row false t_int 1 nl AC), (1008 :: π, .row false t_int 1 nl WC), (12 :: π, .row false t_int 1 (some false) VC)] [] = some [1007 :: π] := by
  simp [nvReg, b_ratchetbase_NodeValues_L1, h1, hp, hz, h2, hv, hvl]

theorem nv_region (cells VC AC WC zs : List PV) (L : PV) (i p : Nat) (z v w a b d a2 d2 : Int) (q : PV) (nl : Option Bool) (h1 : cells[i]? = some (.agg [I a, I b, .sl 1 none zs, I d])) (hp : zs[p]? = some (I z)) (hz : 0 ≤ z)
    (h2 : cells[z.toNat]? = some (.agg [I a2, I w, q, I d2])) (hvl : z.toNat < VC.length) (hv : VC[z.toNat] = I v) (hA : AC.length + 1 ≤ room) (hW : WC.length + 1 ≤ room) :
    opO (some [0, 1, 5, 6, 7, 8, 9]) (evRO EE π 28 nvReg [(0, .p (.sl 4 none cells)), (1, .p L), (5, .ap (12 :: π)), (6, .p (I i)), (7, .ap (1007 :: π)), (8, .ap (1008 :: π)), (9, .p (I p)), (26, .p (.bool true))] [(1007 :: π, .row false t_int 1 nl AC), (1008 :: π, .row false t_int 1 nl WC), (12 :: π, .row false t_int 1 (some false) VC)]
      (hidOf [(0, .p (.sl 4 none cells)), (1, .p L), (5, .ap (12 :: π)), (6, .p (I i)), (7, .ap (1007 :: π)), (8, .ap (1008 :: π)), (9, .p (I p)), (26, .p (.bool true))] 28 nvReg [])) = some (.nm, [(0, .p (.sl 4 none cells)), (1, .p L), (5, .ap (12 :: π)), (6, .p (I i)), (7, .ap (1007 :: π)), (8, .ap (1008 :: π)), (9, .p (I p))], [(1007 :: π, .row false t_int 1 (some false) (AC ++ [I v])), (56 :: π, .row false t_int 1 (some false) [I w]), (41 :: π, .row false t_int 1 (some false) [I v]), (1008 :: π, .row false t_int 1 (some false) (WC ++ [I w])), (12 :: π, .row false t_int 1 (some false) VC)]) := by
  obtain ⟨e1, U1, hs, ⟨l0, l1, l5, l6, l8, l9⟩, hU⟩ := nv_chunkA (π := π) cells VC AC WC zs L i p z v a b d nl h1 hp hz hvl hv hA
  have hh0 : hidOf [(0, .p (.sl 4 none cells)), (1, .p L), (5, .ap (12 :: π)), (6, .p (I i)), (7, .ap (1007 :: π)), (8, .ap (1008 :: π)), (9, .p (I p)), (26, .p (.bool true))] 28 nvReg [] = none := by rfl
  have hh := nv_hid (π := π) cells VC AC WC zs L i p z v w a b d a2 d2 q nl h1 hp hz h2 hvl hv
  rw [hh0]
  unfold evRO
  simp only
  rw [hh]
  simp only
  unfold evHO
  have hst := stepsH_app (n1 := 14) (n2 := 14) (l2 := nvB) nvA rfl hs
  have hf : ([(1007 :: π, Blk.row false t_int 1 nl AC), (1008 :: π, .row false t_int 1 nl WC), (12 :: π, .row false t_int 1 (some false) VC)].filter fun x => !([1007 :: π].contains x.1)) = [(1008 :: π, .row false t_int 1 nl WC), (12 :: π, .row false t_int 1 (some false) VC)] := by simp
  rw [hf, show nvReg = nvA ++ nvB from rfl, show (28 : Nat) = 14 + 14 from rfl, hst]
  simp [-apxOk, -apxE, -Env.kill, kill_lookup, -List.contains_cons, apxOk1, apxE1, okU_mk, hU, l0, l1, l5, l6, l8, l9, nvB, nvReg, b_ratchetbase_NodeValues_L1, h1, hp, hz, h2, hW]

def nvH : IR := match b_ratchetbase_NodeValues_L1 with | .sq a _ => a | x => x
def nvT : IR := match b_ratchetbase_NodeValues_L1 with | .sq _ (.sq _ a) => a | x => x
theorem nv_body {E : Call} {L : Loop} {k0 : List Id} {e : Env} {s : Sto} : evC E L π k0 c_ratchetbase_NodeValues_L1 e s = evC E L π k0 (.sq nvH (.sq (.bk 3 (.op 28 nvReg (some [0, 1, 5, 6, 7, 8, 9]))) nvT)) e s := rfl

theorem nv_loop1 (nodes : List Nod) (L : PV) (V : List Int) (i : Nat) (x : Nod) (hx : nodes[i]? = some x) (hal : x.args.length ≤ 1000) (hin : ∀ n ∈ x.args, 0 ≤ n ∧ n < nodes.length ∧ n < V.length) :
    ∀ (suf pre : List Int) (y : Env × Sto), x.args = pre ++ suf →
    mask [0, 1, 5, 6, 7, 8, 9] [] y = some ([(0, .p (encNodes nodes)), (1, .p L), (5, .ap (12 :: π)), (6, .p (I i)), (7, .ap (1007 :: π)), (8, .ap (1008 :: π)), (9, .p (I pre.length))], [rowI (1007 :: π) (flagE pre) (argsOf V pre), rowI (1008 :: π) (flagE pre) (widsOf nodes pre), rowI (12 :: π) (some false) V]) →
    kpO [0, 1, 5, 6, 7, 8] [4] [] (bkO 2 (iter (round EE iter π [] [0, 1, 5, 6, 7, 8, 9] c_ratchetbase_NodeValues_L1) y)) = some (.nm, [(0, .p (encNodes nodes)), (1, .p L), (5, .ap (12 :: π)), (6, .p (I i)), (7, .ap (1007 :: π)), (8, .ap (1008 :: π))], [rowI (1007 :: π) (flagE x.args) (argsOf V x.args), rowI (1008 :: π) (flagE x.args) (widsOf nodes x.args), rowI (12 :: π) (some false) V])
  | [], pre, y, h, hm => by
    rw [loop_eq hm]
    have : x.args = pre := by simpa using h
    have hi := (List.getElem?_eq_some_iff.1 hx).1
    have hx2 := (List.getElem?_eq_some_iff.1 hx).2
    simp [u_ratchetbase_NodeValues_L1, b_ratchetbase_NodeValues_L1, hi, hx2, ← this]
  | z :: suf, pre, y, h, hm => by
    rw [loop_eq hm]
    have hi := (List.getElem?_eq_some_iff.1 hx).1
    have hx2 := (List.getElem?_eq_some_iff.1 hx).2
    have hlen : pre.length < x.args.length := by rw [h]; simp
    obtain ⟨hz0, hz1, hz2⟩ := hin z (by rw [h]; simp)
    have hlt : z.toNat < nodes.length := by omega
    have hlv : z.toNat < V.length := by omega
    have hwid : widOf nodes z = nodes[z.toNat].width := by unfold widOf; simp [List.getD, hlt]
    have hgd : V.getD z.toNat 0 = V[z.toNat] := by simp [List.getD, hlv]
    have hws := w_succ hlen (show x.args.length ≤ top63 by simp only [top63]; omega)
    have hroom : (ints (widsOf nodes pre)).length + 1 ≤ room := by rw [List.length_map, List.length_map]; simp only [room]; omega
    have hroomA : (ints (argsOf V pre)).length + 1 ≤ room := by rw [List.length_map, List.length_map]; simp only [room]; omega
    have hreg := nv_region (π := π) (nodes.map encNode) (ints V) (ints (argsOf V pre)) (ints (widsOf nodes pre)) (ints x.args) L i pre.length z V[z.toNat] nodes[z.toNat].width x.op x.width x.value nodes[z.toNat].op nodes[z.toNat].value (encInts nodes[z.toNat].args) (flagE pre)
      (by rw [List.getElem?_map, hx]; rfl) (by rw [h]; simp) hz0 (by rw [List.getElem?_map, List.getElem?_eq_getElem hlt]; rfl) (by simpa using hlv) (by simp) hroomA hroom
    have hnext := nv_loop1 nodes L V i x hx hal hin suf (pre ++ [z])
    rw [show (pre ++ [z]).length = pre.length + 1 by simp, flagE_snoc, show widsOf nodes (pre ++ [z]) = widsOf nodes pre ++ [widOf nodes z] by simp, hwid, show argsOf V (pre ++ [z]) = argsOf V pre ++ [V.getD z.toNat 0] by simp, hgd] at hnext
    generalize widsOf nodes pre = R at *
    generalize widsOf nodes x.args = RR at *
    generalize argsOf V pre = A at *
    generalize argsOf V x.args = AA at *
    simp [nv_body, nvH, nvT, b_ratchetbase_NodeValues_L1, hi, hx2, lt_mid h, hreg]
    refine hnext _ (by simp [h]) ?_
    simp [hws]

end Go.Proofs.YtglelclmlkeheaaGreatDoor.V

/- The values of all nodes, by the reference: all of them. -/
namespace Go.Proofs.YtglelclmlkeheaaGreatDoor.V
open Go (IntKind BinOp UnOp)
variable {π : Id}

theorem e_ApplyN {leaves L : List Int} {nodes : List Nod} (hG : ∀ i x, nodes[i]? = some x → nodeE leaves nodes i x = 0) (hL : LeafOk leaves L) {k : Nat} {vs : List Int} (hI : InvV nodes k vs) {x : Nod} (hx : nodes[k]? = some x) :
    EE π n_ratchetbase_Apply [.p (encNode x), .p (encInts (argsOf vs x.args)), .p (encInts (widsOf nodes x.args)), .p (encInts L)] [] = some (.p (I (valN nodes L vs x)), []) := by
  obtain ⟨ho, hw, hl, ha, hv, hf⟩ := nodeE_iff (hG k x hx)
  have ho' := within_iff.1 ho
  have hw' := within_iff.1 hw
  unfold valN
  by_cases h1 : x.op = 1
  · rw [if_pos h1]
    unfold valE at hv
    rw [if_neg (by omega), if_pos h1] at hv
    split at hv
    · rename_i hin
      have hin' := within_iff.1 hin
      have hLl := hL.len
      exact e_Apply1 x ⟨by omega, by omega⟩ _ _ L h1 ⟨by omega, by omega⟩
    · exact absurd hv (by decide)
  · rw [if_neg h1]
    by_cases h0 : x.op = 0
    · rw [e_Apply0 x ⟨by omega, by omega⟩ _ _ _ h0, h0]; rfl
    · exact e_ApplyK (k := x.op.toNat) ⟨by omega, by omega⟩ (by omega) (app_ok hG hI hx h1 h0) _

theorem argsOf_app (vs zs : List Int) (l : List Int) (h : ∀ n ∈ l, n.toNat < vs.length) : argsOf (vs ++ zs) l = argsOf vs l := by
  apply List.map_congr_left
  intro n hn
  simp [List.getD, List.getElem?_append_left (h n hn)]
theorem set_zero (vs : List Int) (k : Nat) (r : Int) : (ints (vs ++ List.replicate (k + 1) 0)).set vs.length (I r) = ints ((vs ++ [r]) ++ List.replicate k 0) := by
  rw [List.replicate_succ]
  simp [List.set_append]

theorem nv_loop0 {leaves L : List Int} {nodes : List Nod} (hnl : nodes.length ≤ 1000) (hal : ∀ x ∈ nodes, x.args.length ≤ 1000) (hG : ∀ i x, nodes[i]? = some x → nodeE leaves nodes i x = 0) (hL : LeafOk leaves L) :
    ∀ (suf pre : List Nod) (vs : List Int) (y : Env × Sto), nodes = pre ++ suf → InvV nodes pre.length vs →
    mask [0, 1, 5, 6] [] y = some ([(0, .p (encNodes nodes)), (1, .p (encInts L)), (5, .ap (12 :: π)), (6, .p (I pre.length))], [rowI (12 :: π) (some false) (vs ++ List.replicate suf.length 0)]) →
    kpO [5] [4] [] (bkO 0 (iter (round EE iter π [] [0, 1, 5, 6] c_ratchetbase_NodeValues_L0) y)) = some (.nm, [(5, .ap (12 :: π))], [rowI (12 :: π) (some false) (valsN nodes L suf vs)])
  | [], pre, vs, y, h, hI, hm => by
    rw [loop_eq hm]
    have : nodes = pre := by simpa using h
    simp [u_ratchetbase_NodeValues_L0, b_ratchetbase_NodeValues_L0, valsN, ← this]
  | z :: suf, pre, vs, y, h, hI, hm => by
    rw [loop_eq hm]
    have hlen : pre.length < nodes.length := by rw [h]; simp
    have hz := hal z (by rw [h]; simp)
    have hx : nodes[pre.length]? = some z := by rw [h]; simp
    have hvl := hI.len
    have hws := w_succ hlen (show nodes.length ≤ top63 by simp only [top63]; omega)
    obtain ⟨ho, hw, hl2, ha, hv, hf⟩ := nodeE_iff (hG _ z hx)
    have hin : ∀ n ∈ z.args, 0 ≤ n ∧ n < (pre.length : Int) := fun n hn => by
      have := within_iff.1 (List.all_eq_true.1 ha n hn); omega
    have hap := fun π => e_ApplyN (π := π) hG hL hI hx
    have hl1 := nv_loop1 (π := π) nodes (encInts L) (vs ++ List.replicate (suf.length + 1) 0) pre.length z hx hz (fun n hn => by
      have := hin n hn
      exact ⟨this.1, by omega, by simp; omega⟩) z.args []
    rw [argsOf_app _ _ z.args (fun n hn => by have := hin n hn; omega)] at hl1
    have hnext := nv_loop0 hnl hal hG hL suf (pre ++ [z]) (vs ++ [valN nodes L vs z])
    rw [show (pre ++ [z]).length = pre.length + 1 by simp] at hnext
    have hnext := fun y e => hnext y e (inv_step hG hL hI hx)
    have hset := set_zero vs suf.length (valN nodes L vs z)
    rw [hvl] at hset
    have hlt : pre.length < (vs ++ List.replicate (suf.length + 1) (0 : Int)).length := by simp; omega
    have hrs : valsN nodes L (z :: suf) vs = valsN nodes L suf (vs ++ [valN nodes L vs z]) := rfl
    rw [hrs]
    simp only [List.length_cons] at hm hl1 ⊢
    generalize valsN nodes L suf (vs ++ [valN nodes L vs z]) = RR at *
    generalize valN nodes L vs z = r at *
    generalize (vs ++ [r]) ++ List.replicate suf.length (0 : Int) = V2 at *
    generalize vs ++ List.replicate (suf.length + 1) (0 : Int) = V at *
    generalize argsOf vs z.args = A at *
    generalize widsOf nodes z.args = W at *
    have hgm := get_mid encNode h
    simp [u_ratchetbase_NodeValues_L0, b_ratchetbase_NodeValues_L0, lt_mid h, thaw, thaw1]
    rw [hl1 _ rfl (by simp [flagE])]
    simp [get_mid _ h, hap, hlt, freeze]
    refine hnext _ (by simp [h]) ?_
    simp [hws]
    exact hset

theorem e_NodeValues {leaves L : List Int} {nodes : List Nod} (hnl : nodes.length ≤ 1000) (hal : ∀ x ∈ nodes, x.args.length ≤ 1000) (hG : ∀ i x, nodes[i]? = some x → nodeE leaves nodes i x = 0) (hL : LeafOk leaves L) :
    EE π n_ratchetbase_NodeValues [.p (encNodes nodes), .p (encInts L)] [] = some (.ap (12 :: π), [rowI (12 :: π) (some false) (valsN nodes L nodes [])]) := by
  have hlp := nv_loop0 (π := π) hnl hal hG hL nodes [] []
  have hro : nodes.length ≤ room := by simp only [room]; omega
  have hrep : List.replicate nodes.length (PV.int .i64 0) = ints (List.replicate nodes.length 0) := by simp
  simp only [List.nil_append] at hlp
  generalize List.replicate nodes.length (0 : Int) = o at *
  generalize valsN nodes L nodes [] = RR at *
  simp [e_ratchetbase_NodeValues, run_eq, c_ratchetbase_NodeValues, hro, hrep]
  rw [hlp _ trivial ⟨rfl, fun j hj => absurd hj (by simp)⟩ (by simp)]
  simp

end Go.Proofs.YtglelclmlkeheaaGreatDoor.V

/- Depths, what is below some nodes, and their leaves: in plain terms. -/
namespace Go.Proofs.YtglelclmlkeheaaGreatDoor.V

/-! Depths. -/
def depStep (i : Nat) (o : List Int) (n : Int) : List Int := o.set i (if o.getD i 0 < o.getD n.toNat 0 + 1 then o.getD n.toNat 0 + 1 else o.getD i 0)
def depArgs (i : Nat) : List Int → List Int → List Int
  | [], o => o
  | n :: r, o => depArgs i r (depStep i o n)
def depN : Nat → List Nod → List Int → List Int
  | _, [], o => o
  | i, x :: r, o => depN (i + 1) r (depArgs i x.args o)
structure DepI (k : Nat) (o : List Int) : Prop where
  len : o.length = k
  ok : ∀ j : Nat, j < k → 0 ≤ o.getD j 0 ∧ o.getD j 0 ≤ j
theorem getD_set {α : Type} (o : List α) (i j : Nat) (v d : α) (hi : i < o.length) : (o.set i v).getD j d = if i = j then v else o.getD j d := by
  simp only [List.getD, List.getElem?_set]
  by_cases h : i = j
  · subst h; simp [hi]
  · simp [h]
theorem DepI.step {k : Nat} {o : List Int} (h : DepI k o) {i : Nat} {n : Int} (hi : i < k) (hn : 0 ≤ n ∧ n < i) : DepI k (depStep i o n) := by
  have hl := h.len
  refine ⟨by unfold depStep; simp [hl], fun j hj => ?_⟩
  unfold depStep
  rw [getD_set _ _ _ _ _ (by omega)]
  have h1 := h.ok i hi
  have h2 := h.ok n.toNat (by omega)
  have h3 := h.ok j hj
  split
  · subst j
    split <;> omega
  · exact h3
theorem DepI.args {k : Nat} {i : Nat} (hi : i < k) : ∀ (l : List Int) {o : List Int}, DepI k o → (∀ n ∈ l, 0 ≤ n ∧ n < (i : Int)) → DepI k (depArgs i l o)
  | [], _, h, _ => h
  | n :: r, _, h, hn => DepI.args hi r (h.step hi (hn n (by simp))) fun m hm => hn m (by simp [hm])
theorem DepI.zero (k : Nat) : DepI k (List.replicate k 0) := ⟨by simp, fun j hj => by simp [List.getD, hj]⟩

/-! Below. -/
def markAll : List Int → List Bool → List Bool
  | [], o => o
  | n :: r, o => markAll r (o.set n.toNat true)
theorem markAll_len : ∀ (l : List Int) (o : List Bool), (markAll l o).length = o.length
  | [], _ => rfl
  | n :: r, o => by rw [markAll, markAll_len r]; simp
theorem markAll_get : ∀ (l : List Int) (o : List Bool) (j : Nat), j < o.length → (markAll l o).getD j false = (o.getD j false || l.any fun n => n.toNat = j)
  | [], o, j, h => by simp [markAll]
  | n :: r, o, j, h => by
    rw [markAll, markAll_get r _ j (by simpa using h)]
    by_cases hn : n.toNat = j
    · rw [getD_set _ _ _ _ _ (by omega)]; simp [hn]
    · have : (o.set n.toNat true).getD j false = o.getD j false := by simp only [List.getD, List.getElem?_set]; simp [hn]
      rw [this]; simp [hn]
def belDown (nodes : List Nod) : Nat → List Bool → List Bool
  | 0, o => o
  | k + 1, o => belDown nodes k (match nodes[k]? with | some x => if o.getD k false then markAll x.args o else o | none => o)
theorem belDown_len (nodes : List Nod) : ∀ (k : Nat) (o : List Bool), (belDown nodes k o).length = o.length
  | 0, _ => rfl
  | k + 1, o => by
    rw [belDown, belDown_len nodes k]
    split
    · split
      · exact markAll_len _ _
      · rfl
    · rfl
/-- Which nodes are below some nodes. -/
def belN (nodes : List Nod) (from_ : List Int) : List Bool := belDown nodes nodes.length (markAll from_ (List.replicate nodes.length false))
theorem belN_len (nodes : List Nod) (from_ : List Int) : (belN nodes from_).length = nodes.length := by
  unfold belN; rw [belDown_len, markAll_len]; simp

/-- The places of those that are true. -/
def trues : Nat → List Bool → List Int
  | _, [] => []
  | i, b :: r => if b then (i : Int) :: trues (i + 1) r else trues (i + 1) r
theorem mem_trues : ∀ (l : List Bool) (i : Nat) (n : Int), n ∈ trues i l ↔ ∃ j, j < l.length ∧ n = ((i + j : Nat) : Int) ∧ l.getD j false = true
  | [], i, n => by simp [trues]
  | b :: r, i, n => by
    have ih := mem_trues r (i + 1) n
    have h : n ∈ trues i (b :: r) ↔ (b = true ∧ n = (i : Int)) ∨ n ∈ trues (i + 1) r := by
      rw [trues]; split <;> simp [*]
    rw [h, ih]
    constructor
    · rintro (⟨hb, hn⟩ | ⟨j, hj, hn, hv⟩)
      · exact ⟨0, by simp, by simpa using hn, by simpa [List.getD] using hb⟩
      · exact ⟨j + 1, by simpa using hj, by rw [hn]; omega, by simpa [List.getD] using hv⟩
    · rintro ⟨j, hj, hn, hv⟩
      cases j with
      | zero => exact .inl ⟨by simpa [List.getD] using hv, by simpa using hn⟩
      | succ j => exact .inr ⟨j, by simpa using hj, by rw [hn]; omega, by simpa [List.getD] using hv⟩
theorem trues_len : ∀ (l : List Bool) (i : Nat), (trues i l).length ≤ l.length
  | [], _ => by simp [trues]
  | b :: r, i => by
    have := trues_len r (i + 1)
    rw [trues]; split <;> simp <;> omega
theorem trues_sorted : ∀ (l : List Bool) (i : Nat), (trues i l).Pairwise (· < ·)
  | [], _ => by simp [trues]
  | b :: r, i => by
    have ih := trues_sorted r (i + 1)
    rw [trues]
    split
    · refine List.pairwise_cons.2 ⟨fun n hn => ?_, ih⟩
      obtain ⟨j, _, hn, _⟩ := (mem_trues r (i + 1) n).1 hn
      omega
    · exact ih

/-! Leaves below. -/
def lvOf : List Bool → List Nod → List Int
  | b :: bs, x :: r => if b = true ∧ x.op = 1 then x.value :: lvOf bs r else lvOf bs r
  | _, _ => []
theorem lvOf_mem : ∀ (B : List Bool) (l : List Nod) (n : Int), n ∈ lvOf B l → ∃ x ∈ l, x.op = 1 ∧ x.value = n
  | b :: bs, x :: r, n, h => by
    rw [lvOf] at h
    split at h
    · rename_i hb
      rcases List.mem_cons.1 h with h | h
      · exact ⟨x, by simp, hb.2, h.symm⟩
      · obtain ⟨y, hy, e⟩ := lvOf_mem bs r n h
        exact ⟨y, by simp [hy], e⟩
    · obtain ⟨y, hy, e⟩ := lvOf_mem bs r n h
      exact ⟨y, by simp [hy], e⟩
  | [], _, n, h => by simp [lvOf] at h
  | _ :: _, [], n, h => by simp [lvOf] at h
theorem lvOf_len : ∀ (B : List Bool) (l : List Nod), (lvOf B l).length ≤ l.length
  | b :: bs, x :: r => by
    have := lvOf_len bs r
    rw [lvOf]; split <;> simp <;> omega
  | [], _ => by simp [lvOf]
  | _ :: _, [] => by simp [lvOf]

theorem mem_cmpI : ∀ (l : List Int) (n : Int), n ∈ cmpI l ↔ n ∈ l
  | [], n => by simp [cmpI]
  | [x], n => by simp [cmpI]
  | x :: y :: r, n => by
    have ih := mem_cmpI (y :: r) n
    rw [cmpI]
    split
    · rename_i h; rw [ih]; subst h; simp
    · rw [List.mem_cons, ih, List.mem_cons (a := n) (b := x)]
theorem cmpI_sorted : ∀ (l : List Int), l.Pairwise (· ≤ ·) → (cmpI l).Pairwise (· < ·)
  | [], _ => by simp [cmpI]
  | [x], _ => by simp [cmpI]
  | x :: y :: r, h => by
    have h' := List.pairwise_cons.1 h
    have ih := cmpI_sorted (y :: r) h'.2
    rw [cmpI]
    split
    · exact ih
    · rename_i hne
      refine List.pairwise_cons.2 ⟨fun n hn => ?_, ih⟩
      have hn := (mem_cmpI (y :: r) n).1 hn
      have h1 := h'.1 y (by simp)
      rcases List.mem_cons.1 hn with rfl | hr
      · omega
      · have := (List.pairwise_cons.1 h'.2).1 n hr
        omega
theorem strict_eq : ∀ {a b : List Int}, a.Pairwise (· < ·) → b.Pairwise (· < ·) → (∀ n, n ∈ a ↔ n ∈ b) → a = b
  | [], [], _, _, _ => rfl
  | [], y :: b, _, _, h => by have := (h y).2 (by simp); simp at this
  | x :: a, [], _, _, h => by have := (h x).1 (by simp); simp at this
  | x :: a, y :: b, ha, hb, h => by
    have ha' := List.pairwise_cons.1 ha
    have hb' := List.pairwise_cons.1 hb
    have hxy : x = y := by
      have h1 := (h x).1 (by simp)
      have h2 := (h y).2 (by simp)
      rcases List.mem_cons.1 h1 with h1 | h1
      · exact h1
      · rcases List.mem_cons.1 h2 with h2 | h2
        · exact h2.symm
        · have := ha'.1 y h2
          have := hb'.1 x h1
          omega
    subst hxy
    rw [strict_eq ha'.2 hb'.2 fun n => ?_]
    constructor
    · intro hn
      have h1 := ha'.1 n hn
      rcases List.mem_cons.1 ((h n).1 (by simp [hn])) with h | h
      · omega
      · exact h
    · intro hn
      have h1 := hb'.1 n hn
      rcases List.mem_cons.1 ((h n).2 (by simp [hn])) with h | h
      · omega
      · exact h
/-- Sorted and without repetitions: the places that are marked. -/
theorem cmp_sort_eq (l : List Int) (k : Nat) (hl : ∀ n ∈ l, 0 ≤ n ∧ n < k) : cmpI (sortI l) = trues 0 (markAll l (List.replicate k false)) := by
  refine strict_eq (cmpI_sorted _ (sortI_sorted l)) (trues_sorted _ _) fun n => ?_
  rw [mem_cmpI, (sortI_perm l).mem_iff, mem_trues, markAll_len, List.length_replicate]
  constructor
  · intro hn
    have := hl n hn
    refine ⟨n.toNat, by omega, by omega, ?_⟩
    rw [markAll_get _ _ _ (by simp; omega)]
    simp only [Bool.or_eq_true, List.any_eq_true, decide_eq_true_eq]
    exact .inr ⟨n, hn, rfl⟩
  · rintro ⟨j, hj, hn, hv⟩
    rw [markAll_get _ _ _ (by simpa using hj)] at hv
    simp only [Bool.or_eq_true, List.any_eq_true, decide_eq_true_eq] at hv
    rcases hv with hv | ⟨m, hm, e⟩
    · simp [List.getD, hj] at hv
    · have := hl m hm
      have : n = m := by omega
      rw [this]; exact hm

end Go.Proofs.YtglelclmlkeheaaGreatDoor.V

/- Errors of values and of nodes that are named. -/
namespace Go.Proofs.YtglelclmlkeheaaGreatDoor.V
open Go (IntKind BinOp UnOp)
variable {π : Id}

def fromE (nodes : List Nod) (fr : List Int) : Int := unlE (argsIn nodes.length fr) 6
def namedE (leaves : List Int) (nodes : List Nod) (fr : List Int) : Int := if (checkE leaves nodes).2 ≠ 0 then (checkE leaves nodes).2 else fromE nodes fr

theorem e_namedErr1 (nodes : List Nod) (hnl : nodes.length ≤ 100000) (n : Int) : EE π n_graph_namedErr_1 [.p (I n), .p (.ptr [encNodes nodes])] [] = some (.p (.bool (!within n 0 ((nodes.length : Int) - 1))), []) := by
  have hw : IntKind.i64.wrap ((nodes.length : Int) - 1) = nodes.length - 1 := w64 ⟨by omega, by omega⟩
  simp [e_graph_namedErr_1, run_eq, c_graph_namedErr_1, hw, e_withinG]

theorem e_namedErr (leaves : List Int) (nodes : List Nod) (fr : List Int) (hnl : nodes.length ≤ 100000) (hfl : fr.length ≤ 1000) (hal : ∀ x ∈ nodes, x.args.length ≤ 1000) :
    EE π n_graph_namedErr [.p (encInts leaves), .p (encNodes nodes), .p (encInts fr)] [] = some (.p (I (namedE leaves nodes fr)), []) := by
  have hge := fun π => e_graphErr (π := π) leaves nodes hal
  have hcf := fun π => e_ContainsFuncI (π := π) fr (by simp only [top63]; omega) (f := n_graph_namedErr_1) (caps := [.ptr [encNodes nodes]]) (p := fun n => !within n 0 ((nodes.length : Int) - 1)) (fun n _ => by simpa using e_namedErr1 nodes hnl n)
  have hany : (fr.any fun n => !within n 0 ((nodes.length : Int) - 1)) = !argsIn nodes.length fr := by unfold argsIn; rw [List.any_eq_not_all_not]; simp
  rw [hany] at hcf
  unfold namedE fromE
  generalize (checkE leaves nodes).2 = c at *
  generalize argsIn nodes.length fr = b at *
  by_cases hc : c = 0 <;> simp [e_graph_namedErr, run_eq, c_graph_namedErr, hge, hcf, e_unlessG, e_first2G, firstE, hc, evRO, freeze]
  exact fun h => h.symm

theorem e_IsNode (nodes : List Nod) (hnl : nodes.length ≤ 100000) (n : Int) : EE π n_ratchetbase_IsNode [.p (encNodes nodes), .p (I n)] [] = some (.p (.bool (within n 0 ((nodes.length : Int) - 1))), []) := by
  have hw : IntKind.i64.wrap ((nodes.length : Int) - 1) = nodes.length - 1 := w64 ⟨by omega, by omega⟩
  simp [e_ratchetbase_IsNode, run_eq, c_ratchetbase_IsNode, hw, e_Within]

theorem fromErr_loop (nodes : List Nod) (hnl : nodes.length ≤ 100000) (fr : List Int) (hfl : fr.length ≤ 1000) :
    ∀ (suf pre : List Int) (y : Env × Sto), fr = pre ++ suf →
    mask [0, 1, 5] [] y = some ([(0, .p (encNodes nodes)), (1, .p (encInts fr)), (5, .p (I pre.length))], []) →
    kpO [] [4] [] (bkO 0 (iter (round EE iter π [] [0, 1, 5] c_ratchetref02_FromErr_L0) y)) = if argsIn nodes.length suf = true then some (.nm, [], []) else some (.rt, [(4, .p (I 6))], [])
  | [], pre, y, h, hm => by
    rw [loop_eq hm]
    have : fr = pre := by simpa using h
    simp [u_ratchetref02_FromErr_L0, b_ratchetref02_FromErr_L0, argsIn, ← this]
  | z :: suf, pre, y, h, hm => by
    rw [loop_eq hm]
    have hlen : pre.length < fr.length := by rw [h]; simp
    have hws := w_succ hlen (show fr.length ≤ top63 by simp only [top63]; omega)
    have hnext := fromErr_loop nodes hnl fr hfl suf (pre ++ [z])
    rw [show (pre ++ [z]).length = pre.length + 1 by simp] at hnext
    have hi := fun π => e_IsNode (π := π) nodes hnl z
    have ha : argsIn nodes.length (z :: suf) = (within z 0 ((nodes.length : Int) - 1) && argsIn nodes.length suf) := by simp [argsIn]
    rw [ha]
    generalize argsIn nodes.length suf = b at *
    generalize within z 0 ((nodes.length : Int) - 1) = c at *
    cases c with
    | true =>
      simp [u_ratchetref02_FromErr_L0, b_ratchetref02_FromErr_L0, lt_mid h, get_mid _ h, hi]
      exact hnext _ (by simp [h]) (by simp [hws])
    | false => simp [u_ratchetref02_FromErr_L0, b_ratchetref02_FromErr_L0, lt_mid h, get_mid _ h, hi]
theorem e_FromErr (nodes : List Nod) (fr : List Int) (hnl : nodes.length ≤ 100000) (hfl : fr.length ≤ 1000) :
    EE π n_ratchetref02_FromErr [.p (encNodes nodes), .p (encInts fr)] [] = some (.p (I (fromE nodes fr)), []) := by
  have hl := fromErr_loop (π := π) nodes hnl fr hfl fr []
  unfold fromE
  generalize argsIn nodes.length fr = b at *
  simp [e_ratchetref02_FromErr, run_eq, c_ratchetref02_FromErr]
  rw [hl _ rfl (by simp)]
  cases b <;> simp [unlE]

theorem isVal_loop (leaves values : List Int) (hlw : ∀ n ∈ leaves, 1 ≤ n ∧ n ≤ 16) (hl : values.length = leaves.length) (hvl : values.length ≤ 1000) :
    ∀ (suf pre : List Int) (y : Env × Sto), values = pre ++ suf →
    mask [0, 1, 5] [] y = some ([(0, .p (encInts leaves)), (1, .p (encInts values)), (5, .p (I pre.length))], []) →
    kpO [] [4] [] (bkO 0 (iter (round EE iter π [] [0, 1, 5] c_ratchetbase_IsValues_L0) y)) = if (eachE (fitE leaves) pre.length suf).2 = 0 then some (.nm, [], []) else some (.rt, [(4, .p (.bool false))], [])
  | [], pre, y, h, hm => by
    rw [loop_eq hm]
    have : values = pre := by simpa using h
    simp [u_ratchetbase_IsValues_L0, b_ratchetbase_IsValues_L0, eachE, ← this]
  | z :: suf, pre, y, h, hm => by
    rw [loop_eq hm]
    have hlen : pre.length < values.length := by rw [h]; simp
    have hlen2 : pre.length < leaves.length := by omega
    have hws := w_succ hlen (show values.length ≤ top63 by simp only [top63]; omega)
    have hnext := isVal_loop leaves values hlw hl hvl suf (pre ++ [z])
    rw [show (pre ++ [z]).length = pre.length + 1 by simp] at hnext
    have hlwi := hlw _ (List.getElem_mem hlen2)
    have hi := fun π => e_Fits (π := π) z leaves[pre.length] ⟨by omega, by omega⟩
    have hf : fitE leaves pre.length z = unlE (fitsB z leaves[pre.length]) 2 := by unfold fitE; simp [List.getD, hlen2]
    rw [eachE, hf]
    generalize fitsB z leaves[pre.length] = c at *
    cases c with
    | true =>
      simp [u_ratchetbase_IsValues_L0, b_ratchetbase_IsValues_L0, lt_mid h, get_mid _ h, hi, hlen2, evRO, unlE]
      exact hnext _ (by simp [h]) (by simp [hws])
    | false => simp [u_ratchetbase_IsValues_L0, b_ratchetbase_IsValues_L0, lt_mid h, get_mid _ h, hi, hlen2, evRO, unlE]
theorem eachE_two (leaves : List Int) : ∀ (l : List Int) (i : Nat), (eachE (fitE leaves) i l).2 ≠ 0 → (eachE (fitE leaves) i l).2 = 2
  | [], i, h => by simp [eachE] at h
  | x :: r, i, h => by
    rw [eachE] at h ⊢
    split
    · rename_i h0
      rw [if_pos h0] at h
      exact eachE_two leaves r _ h
    · rename_i h0
      unfold fitE unlE at *
      split at h0
      · exact absurd rfl h0
      · rename_i hb; exact if_neg hb
theorem e_ValuesErr (leaves values : List Int) (hlw : ∀ n ∈ leaves, 1 ≤ n ∧ n ≤ 16) (hvl : values.length ≤ 1000) :
    EE π n_ratchetref02_ValuesErr [.p (encInts leaves), .p (encInts values)] [] = some (.p (I (valuesE leaves values)), []) := by
  unfold valuesE
  by_cases hl : values.length = leaves.length
  · have hl' : (leaves.length : Int) = values.length := by omega
    have hlp := fun π => isVal_loop (π := π) leaves values hlw hl hvl values []
    have h2 := eachE_two leaves values 0
    simp only [List.length_nil] at hlp
    rw [if_neg (by simp [hl])]
    generalize (eachE (fitE leaves) 0 values).2 = c at *
    have hIs : ∀ π, EE π n_ratchetbase_IsValues [.p (encInts leaves), .p (encInts values)] [] = some (.p (.bool (decide (c = 0))), []) := fun π => by
      simp [e_ratchetbase_IsValues, run_eq, c_ratchetbase_IsValues, hl']
      rw [hlp π _ rfl (by simp)]
      by_cases hc : c = 0 <;> simp [hc]
    by_cases hc : c = 0
    · simp [e_ratchetref02_ValuesErr, run_eq, c_ratchetref02_ValuesErr, hl', hIs, hc]
    · simp [e_ratchetref02_ValuesErr, run_eq, c_ratchetref02_ValuesErr, hl', hIs, hc, h2 hc]
  · have hl' : ¬ (leaves.length : Int) = values.length := by omega
    rw [if_pos hl]
    simp [e_ratchetref02_ValuesErr, run_eq, c_ratchetref02_ValuesErr, hl']

end Go.Proofs.YtglelclmlkeheaaGreatDoor.V

/- What is below some nodes, in the program: a round. -/
namespace Go.Proofs.YtglelclmlkeheaaGreatDoor.V
open Go (IntKind BinOp UnOp)
variable {π κ : Id}

abbrev bools (l : List Bool) : List PV := l.map PV.bool
abbrev rowB (i : Id) (nl : Option Bool) (L : List Bool) : Id × Blk := (i, .row false t_bool 1 nl (bools L))
abbrev frB (π : Id) (st : FSt) : Id × Blk := (2000000 :: π, .frm π 51 [(5, .ref (5 :: π) 0)] [27, 28] c_graph_below_R0A c_graph_below_R0B st)
abbrev k0W (π : Id) : List Id := [2000000 :: π, 1 :: 26 :: π, 5 :: π, 14 :: π]
abbrev k0V (π : Id) : List Id := [2000000 :: π, 5 :: π, 14 :: π]
abbrev stBr (π : Id) (o : List Bool) : Sto := [(5 :: π, .box false [.ap (14 :: π)]), rowB (14 :: π) (some false) o]
abbrev stBl (π : Id) (nodes : List Nod) (o : List Bool) : Sto := [(1 :: 26 :: π, .box false [.p (encNodes nodes)]), (5 :: π, .box false [.ap (14 :: π)]), rowB (14 :: π) (some false) o]

theorem set_same {α : Type} (l : List α) (i : Nat) (h : i < l.length) : l.set i l[i] = l := List.set_getElem_self h

theorem bel_loop1 (i : Nat) (b : Bool) (args : List Int) (hal : args.length ≤ 1000) (hin : ∀ n ∈ args, 0 ≤ n ∧ n < (i : Int)) :
    ∀ (suf pre : List Int) (o : List Bool) (y : Env × Sto), args = pre ++ suf → o[i]? = some b →
    mask [5, 8, 30, 31, 32] (k0V π) y = some ([(5, .ref (5 :: π) 0), (8, .p (I i)), (30, .p (encInts args)), (31, .p (I args.length)), (32, .p (I pre.length))], frB π .busy :: stBr π o) →
    kpO [] [] (k0V π) (bkO 4 (iter (round EE iter π (k0V π) [5, 8, 30, 31, 32] c_graph_below_L1) y)) = some (.nm, [], frB π .busy :: stBr π (if b = true then markAll suf o else o))
  | [], pre, o, y, h, hb, hm => by
    rw [loop_eq hm]
    have : args = pre := by simpa using h
    have hr : (if b = true then markAll [] o else o) = o := by cases b <;> rfl
    rw [hr]
    simp [u_graph_below_L1, b_graph_below_L1, ← this]
  | z :: suf, pre, o, y, h, hb, hm => by
    rw [loop_eq hm]
    have hlen : pre.length < args.length := by rw [h]; simp
    have hz := hin z (by rw [h]; simp)
    have hws := w_succ hlen (show args.length ≤ top63 by simp only [top63]; omega)
    have hi := (List.getElem?_eq_some_iff.1 hb).1
    have hbi := (List.getElem?_eq_some_iff.1 hb).2
    have hzl : z.toNat < o.length := by omega
    have hnext := bel_loop1 i b args hal hin suf (pre ++ [z])
    rw [show (pre ++ [z]).length = pre.length + 1 by simp] at hnext
    cases b with
    | true =>
      have hn := hnext (o.set z.toNat true)
      rw [if_pos rfl] at hn ⊢
      rw [markAll]
      generalize markAll suf (o.set z.toNat true) = R at *
      have hb' : (o.set z.toNat true)[i]? = some true := by rw [List.getElem?_set_ne (by omega)]; exact hb
      by_cases hv : o[z.toNat] = true
      · simp [u_graph_below_L1, b_graph_below_L1, lt_mid h, get_mid _ h, hz.1, hi, hbi, hzl, hv, evRO]
        refine hn _ (by simp [h]) hb' ?_
        simp [hws]
        rfl
      · simp [u_graph_below_L1, b_graph_below_L1, lt_mid h, get_mid _ h, hz.1, hi, hbi, hzl, hv, evRO]
        refine hn _ (by simp [h]) hb' ?_
        simp [hws]
        rfl
    | false =>
      have hn := hnext o
      rw [if_neg (by decide)] at hn ⊢
      have hs : (bools o).set z.toNat (PV.bool o[z.toNat]) = bools o := by rw [← List.map_set, set_same o z.toNat hzl]
      by_cases hv : o[z.toNat] = true
      · simp [u_graph_below_L1, b_graph_below_L1, lt_mid h, get_mid _ h, hz.1, hi, hbi, hzl, hv, evRO]
        refine hn _ (by simp [h]) hb ?_
        simp [hws]
        rw [hv] at hs
        exact hs
      · simp [u_graph_below_L1, b_graph_below_L1, lt_mid h, get_mid _ h, hz.1, hi, hbi, hzl, hv, evRO]
        refine hn _ (by simp [h]) hb ?_
        simp [hws]
        rw [show o[z.toNat] = false by simpa using hv] at hs
        exact hs

theorem e_yldB {args : List AV} {s : Sto} : EE κ yieldF args s = runY EE iter args s := E_yld

theorem e_roundB (i : Nat) (x : Nod) (b : Bool) (o : List Bool) (hal : x.args.length ≤ 1000) (hin : ∀ n ∈ x.args, 0 ≤ n ∧ n < (i : Int)) (hb : o[i]? = some b) :
    EE κ yieldF [.p (I i), .p (encNode x), .yld (2000000 :: π)] (frB π .ready :: stBr π o) = some (.p (.bool true), frB π .ready :: stBr π (if b = true then markAll x.args o else o)) := by
  have hl := bel_loop1 (π := π) i b x.args hal hin x.args [] o
  rw [e_yldB]
  generalize (if b = true then markAll x.args o else o) = R at *
  simp [runY, u_graph_below_R0A, b_graph_below_R0A, u_graph_below_R0B, b_graph_below_R0B]
  rw [hl _ rfl hb (by simp)]
  simp

end Go.Proofs.YtglelclmlkeheaaGreatDoor.V

/- What is below some nodes, in the program. -/
namespace Go.Proofs.YtglelclmlkeheaaGreatDoor.V
open Go (IntKind BinOp UnOp)
variable {π κ : Id}

theorem evC_rf {C : Call} {L : Loop} {k0 : List Id} {e : Env} {s : Sto} (g : Opd) (nt site : Nat) (live ps : List Nat) (a b : IR) : evC C L π k0 (.rf g nt site live ps a b) e s =
    if s.has ((2000000 + site) :: π) then none else match fnOf (g.get e) (.yld ((2000000 + site) :: π)) with
    | some (k, args) => if k = yieldF then none else match C ((3000000 + site) :: π) k args (((2000000 + site) :: π, .frm π nt (e.keep live) ps a b .ready) :: s) with
      | some (_, s1) => rfO k0 ((2000000 + site) :: π) ((rowIds s).foldl Env.kill e) s1
      | none => none
    | none => none := by
  rw [evC] <;> rfl

theorem back_loopB (nodes : List Nod) (hnl : nodes.length ≤ 100000) (hal : ∀ x ∈ nodes, x.args.length ≤ 1000) (hin : ∀ (i : Nat) (x : Nod), nodes[i]? = some x → ∀ n ∈ x.args, 0 ≤ n ∧ n < (i : Int)) : ∀ (k : Nat) (o : List Bool) (x : Env × Sto), k ≤ nodes.length → o.length = nodes.length →
    mask [0, 1, 3] (k0W π) x = some ([(0, .yld (2000000 :: π)), (1, .ref (1 :: 26 :: π) 0), (3, .p (I ((k : Int) - 1)))], frB π .ready :: stBl π nodes o) →
    kpO [] [] (k0W π) (bkO 0 (iter (round EE iter κ (k0W π) [0, 1, 3] c_slices_Backward_api_Node_api_Node_1_L0) x)) = some (.nm, [], frB π .ready :: stBl π nodes (belDown nodes k o))
  | 0, o, x, hk, ho, hm => by
    rw [loop_eq hm]
    simp [u_slices_Backward_api_Node_api_Node_1_L0, b_slices_Backward_api_Node_api_Node_1_L0, belDown]
  | k + 1, o, x, hk, ho, hm => by
    rw [loop_eq hm]
    have hkl : k < nodes.length := by omega
    have hpk : nodes[k]? = some nodes[k] := List.getElem?_eq_getElem hkl
    generalize hp : nodes[k] = p at hpk
    have hmem : p ∈ nodes := List.mem_of_getElem? hpk
    have hko : k < o.length := by omega
    have hb : o[k]? = some (o.getD k false) := by simp [List.getD, hko]
    have hc := fun κ => e_roundB (κ := κ) (π := π) k p (o.getD k false) o (hal p hmem) (hin k p hpk) hb
    have hw : IntKind.i64.wrap ((k : Int) - 1) = (k : Int) - 1 := w64 ⟨by omega, by omega⟩
    have hnext := back_loopB nodes hnl hal hin k (if o.getD k false = true then markAll p.args o else o)
    have hlen : (if o.getD k false = true then markAll p.args o else o).length = nodes.length := by
      split
      · rw [markAll_len]; exact ho
      · exact ho
    rw [belDown, hpk]
    simp only
    generalize (if o.getD k false = true then markAll p.args o else o) = R at *
    have e1 : ((k + 1 : Nat) : Int) - 1 = k := by omega
    rw [e1] at *
    simp [u_slices_Backward_api_Node_api_Node_1_L0, b_slices_Backward_api_Node_api_Node_1_L0, hkl, hp, hc]
    refine hnext _ (by omega) hlen ?_
    simp [hw]

theorem e_backB (nodes : List Nod) (hnl : nodes.length ≤ 100000) (hal : ∀ x ∈ nodes, x.args.length ≤ 1000) (hin : ∀ (i : Nat) (x : Nod), nodes[i]? = some x → ∀ n ∈ x.args, 0 ≤ n ∧ n < (i : Int)) (o : List Bool) (ho : o.length = nodes.length) :
    EE κ n_slices_Backward_api_Node_api_Node_1 [.yld (2000000 :: π), .ref (1 :: 26 :: π) 0] (frB π .ready :: stBl π nodes o) = some (.p (.tup []), frB π .ready :: stBl π nodes (belDown nodes nodes.length o)) := by
  have hlp := back_loopB (κ := κ) (π := π) nodes hnl hal hin nodes.length o
  have hw : IntKind.i64.wrap ((nodes.length : Int) - 1) = (nodes.length : Int) - 1 := w64 ⟨by omega, by omega⟩
  generalize belDown nodes nodes.length o = R' at *
  simp [e_slices_Backward_api_Node_api_Node_1, run_eq, c_slices_Backward_api_Node_api_Node_1, hw]
  rw [hlp _ (by omega) ho (by simp)]
  simp

theorem mark_loop (nodes : List Nod) (fr : List Int) (hfl : fr.length ≤ 1000) (hin : ∀ n ∈ fr, 0 ≤ n ∧ n < (nodes.length : Int)) :
    ∀ (suf pre : List Int) (o : List Bool) (y : Env × Sto), fr = pre ++ suf → o.length = nodes.length →
    mask [0, 4, 5, 15, 16, 17] [] y = some ([(0, .p (encNodes nodes)), (4, .p (.sl 1 (some true) [])), (5, .ref (5 :: π) 0), (15, .p (encInts fr)), (16, .p (I fr.length)), (17, .p (I pre.length))], [(5 :: π, .box false [.ap (14 :: π)]), rowB (14 :: π) (some false) o]) →
    kpO [0, 4, 5] [4] [] (bkO 0 (iter (round EE iter π [] [0, 4, 5, 15, 16, 17] c_graph_below_L0) y)) = some (.nm, [(0, .p (encNodes nodes)), (4, .p (.sl 1 (some true) [])), (5, .ref (5 :: π) 0)], [(5 :: π, .box false [.ap (14 :: π)]), rowB (14 :: π) (some false) (markAll suf o)])
  | [], pre, o, y, h, ho, hm => by
    rw [loop_eq hm]
    have : fr = pre := by simpa using h
    simp [u_graph_below_L0, b_graph_below_L0, markAll, ← this]
  | z :: suf, pre, o, y, h, ho, hm => by
    rw [loop_eq hm]
    have hlen : pre.length < fr.length := by rw [h]; simp
    have hz := hin z (by rw [h]; simp)
    have hws := w_succ hlen (show fr.length ≤ top63 by simp only [top63]; omega)
    have hzl : z.toNat < o.length := by omega
    have hnext := mark_loop nodes fr hfl hin suf (pre ++ [z]) (o.set z.toNat true)
    rw [show (pre ++ [z]).length = pre.length + 1 by simp] at hnext
    rw [markAll]
    generalize markAll suf (o.set z.toNat true) = R at *
    simp [u_graph_below_L0, b_graph_below_L0, lt_mid h, get_mid _ h, hz.1, hzl]
    refine hnext _ (by simp [h]) (by simpa using ho) ?_
    simp [hws]
    rfl

theorem e_below (nodes : List Nod) (hnl : nodes.length ≤ 100000) (hal : ∀ x ∈ nodes, x.args.length ≤ 1000) (hin : ∀ (i : Nat) (x : Nod), nodes[i]? = some x → ∀ n ∈ x.args, 0 ≤ n ∧ n < (i : Int)) (fr : List Int) (hfl : fr.length ≤ 1000) (hfin : ∀ n ∈ fr, 0 ≤ n ∧ n < (nodes.length : Int)) :
    EE π n_graph_below [.p (encNodes nodes), .p (encInts fr)] [] = some (.ap (14 :: π), [rowB (14 :: π) (some false) (belN nodes fr)]) := by
  have hml := mark_loop (π := π) nodes fr hfl hfin fr [] (List.replicate nodes.length false)
  have hlen : (markAll fr (List.replicate nodes.length false)).length = nodes.length := by rw [markAll_len]; simp
  have hbk := fun κ => e_backB (κ := κ) (π := π) nodes hnl hal hin (markAll fr (List.replicate nodes.length false)) hlen
  have hro : nodes.length ≤ room := by simp only [room]; omega
  have hrl : (List.replicate nodes.length false).length = nodes.length := by simp
  have hrep : List.replicate nodes.length (PV.bool false) = bools (List.replicate nodes.length false) := by simp
  unfold belN
  generalize List.replicate nodes.length false = o at *
  generalize markAll fr o = o1 at *
  generalize belDown nodes nodes.length o1 = R at *
  simp [e_graph_below, run_eq, c_graph_below, hro, hrep]
  rw [hml _ rfl hrl (by simp)]
  simp [e_slices_Backward_api_Node_api_Node, c_slices_Backward_api_Node_api_Node, run_eq, evC_rf, fnOf, y_slices_Backward_api_Node_api_Node_1]
  rw [hbk]
  simp

end Go.Proofs.YtglelclmlkeheaaGreatDoor.V

/- What is below some nodes, by the reference. -/
namespace Go.Proofs.YtglelclmlkeheaaGreatDoor.V
open Go (IntKind BinOp UnOp)
variable {π κ : Id}

theorem rmark_loop (nodes : List Nod) (fr : List Int) (hfl : fr.length ≤ 1000) (hin : ∀ n ∈ fr, 0 ≤ n ∧ n < (nodes.length : Int)) :
    ∀ (suf pre : List Int) (o : List Bool) (y : Env × Sto), fr = pre ++ suf → o.length = nodes.length →
    mask [0, 1, 5, 6] [] y = some ([(0, .p (encNodes nodes)), (1, .p (encInts fr)), (5, .ap (11 :: π)), (6, .p (I pre.length))], [rowB (11 :: π) (some false) o]) →
    kpO [0, 5] [4] [] (bkO 0 (iter (round EE iter π [] [0, 1, 5, 6] c_ratchetbase_Below_L0) y)) = some (.nm, [(0, .p (encNodes nodes)), (5, .ap (11 :: π))], [rowB (11 :: π) (some false) (markAll suf o)])
  | [], pre, o, y, h, ho, hm => by
    rw [loop_eq hm]
    have : fr = pre := by simpa using h
    simp [u_ratchetbase_Below_L0, b_ratchetbase_Below_L0, markAll, ← this]
  | z :: suf, pre, o, y, h, ho, hm => by
    rw [loop_eq hm]
    have hlen : pre.length < fr.length := by rw [h]; simp
    have hz := hin z (by rw [h]; simp)
    have hws := w_succ hlen (show fr.length ≤ top63 by simp only [top63]; omega)
    have hzl : z.toNat < o.length := by omega
    have hnext := rmark_loop nodes fr hfl hin suf (pre ++ [z]) (o.set z.toNat true)
    rw [show (pre ++ [z]).length = pre.length + 1 by simp] at hnext
    rw [markAll]
    generalize markAll suf (o.set z.toNat true) = R at *
    simp [u_ratchetbase_Below_L0, b_ratchetbase_Below_L0, lt_mid h, get_mid _ h, hz.1, hzl]
    refine hnext _ (by simp [h]) (by simpa using ho) ?_
    simp [hws]
    rfl

theorem rbel_loop2 (nodes : List Nod) (i : Nat) (x : Nod) (hx : nodes[i]? = some x) (hal : x.args.length ≤ 1000) (hin : ∀ n ∈ x.args, 0 ≤ n ∧ n < (i : Int)) :
    ∀ (suf pre : List Int) (o : List Bool) (y : Env × Sto), x.args = pre ++ suf → o.length = nodes.length → o[i]? = some true →
    mask [0, 5, 7, 8] [] y = some ([(0, .p (encNodes nodes)), (5, .ap (11 :: π)), (7, .p (I i)), (8, .p (I pre.length))], [rowB (11 :: π) (some false) o]) →
    kpO [0, 5, 7] [4] [] (bkO 4 (iter (round EE iter π [] [0, 5, 7, 8] c_ratchetbase_Below_L2) y)) = some (.nm, [(0, .p (encNodes nodes)), (5, .ap (11 :: π)), (7, .p (I i))], [rowB (11 :: π) (some false) (markAll suf o)])
  | [], pre, o, y, h, ho, hb, hm => by
    rw [loop_eq hm]
    have : x.args = pre := by simpa using h
    have hi := (List.getElem?_eq_some_iff.1 hx).1
    have hx2 := (List.getElem?_eq_some_iff.1 hx).2
    have hio := (List.getElem?_eq_some_iff.1 hb).1
    have hbi := (List.getElem?_eq_some_iff.1 hb).2
    simp [u_ratchetbase_Below_L2, b_ratchetbase_Below_L2, markAll, hi, hx2, hio, hbi, ← this]
  | z :: suf, pre, o, y, h, ho, hb, hm => by
    rw [loop_eq hm]
    have hi := (List.getElem?_eq_some_iff.1 hx).1
    have hx2 := (List.getElem?_eq_some_iff.1 hx).2
    have hio := (List.getElem?_eq_some_iff.1 hb).1
    have hbi := (List.getElem?_eq_some_iff.1 hb).2
    have hlen : pre.length < x.args.length := by rw [h]; simp
    have hz := hin z (by rw [h]; simp)
    have hws := w_succ hlen (show x.args.length ≤ top63 by simp only [top63]; omega)
    have hzl : z.toNat < o.length := by omega
    have hnext := rbel_loop2 nodes i x hx hal hin suf (pre ++ [z]) (o.set z.toNat true)
    rw [show (pre ++ [z]).length = pre.length + 1 by simp] at hnext
    have hb' : (o.set z.toNat true)[i]? = some true := by rw [List.getElem?_set_ne (by omega)]; exact hb
    rw [markAll]
    generalize markAll suf (o.set z.toNat true) = R at *
    simp [u_ratchetbase_Below_L2, b_ratchetbase_Below_L2, lt_mid h, get_mid _ h, hi, hx2, hio, hbi, hz.1, hzl]
    refine hnext _ (by simp [h]) (by simpa using ho) hb' ?_
    simp [hws]
    rfl
theorem rbel_loop2f (nodes : List Nod) (i : Nat) (o : List Bool) (y : Env × Sto) (hb : o[i]? = some false)
    (hm : mask [0, 5, 7, 8] [] y = some ([(0, .p (encNodes nodes)), (5, .ap (11 :: π)), (7, .p (I i)), (8, .p (I 0))], [rowB (11 :: π) (some false) o])) :
    kpO [0, 5, 7] [4] [] (bkO 4 (iter (round EE iter π [] [0, 5, 7, 8] c_ratchetbase_Below_L2) y)) = some (.nm, [(0, .p (encNodes nodes)), (5, .ap (11 :: π)), (7, .p (I i))], [rowB (11 :: π) (some false) o]) := by
  rw [loop_eq hm]
  have hio := (List.getElem?_eq_some_iff.1 hb).1
  have hbi := (List.getElem?_eq_some_iff.1 hb).2
  simp [u_ratchetbase_Below_L2, b_ratchetbase_Below_L2, hio, hbi]

theorem rbel_loop1 (nodes : List Nod) (hnl : nodes.length ≤ 100000) (hal : ∀ x ∈ nodes, x.args.length ≤ 1000) (hin : ∀ (i : Nat) (x : Nod), nodes[i]? = some x → ∀ n ∈ x.args, 0 ≤ n ∧ n < (i : Int)) : ∀ (k : Nat) (o : List Bool) (y : Env × Sto), k ≤ nodes.length → o.length = nodes.length →
    mask [0, 5, 7] [] y = some ([(0, .p (encNodes nodes)), (5, .ap (11 :: π)), (7, .p (I ((k : Int) - 1)))], [rowB (11 :: π) (some false) o]) →
    kpO [5] [4] [] (bkO 2 (iter (round EE iter π [] [0, 5, 7] c_ratchetbase_Below_L1) y)) = some (.nm, [(5, .ap (11 :: π))], [rowB (11 :: π) (some false) (belDown nodes k o)])
  | 0, o, y, hk, ho, hm => by
    rw [loop_eq hm]
    simp [u_ratchetbase_Below_L1, b_ratchetbase_Below_L1, belDown]
  | k + 1, o, y, hk, ho, hm => by
    rw [loop_eq hm]
    have hkl : k < nodes.length := by omega
    have hpk : nodes[k]? = some nodes[k] := List.getElem?_eq_getElem hkl
    generalize hp : nodes[k] = p at hpk
    have hmem : p ∈ nodes := List.mem_of_getElem? hpk
    have hko : k < o.length := by omega
    have hb : o[k]? = some (o.getD k false) := by simp [List.getD, hko]
    have hw : IntKind.i64.wrap ((k : Int) - 1) = (k : Int) - 1 := w64 ⟨by omega, by omega⟩
    have hnext := rbel_loop1 nodes hnl hal hin k (if o.getD k false = true then markAll p.args o else o)
    have hlen : (if o.getD k false = true then markAll p.args o else o).length = nodes.length := by
      split
      · rw [markAll_len]; exact ho
      · exact ho
    rw [belDown, hpk]
    simp only
    have e1 : ((k + 1 : Nat) : Int) - 1 = k := by omega
    rw [e1] at *
    generalize o.getD k false = b at *
    cases b with
    | true =>
      rw [if_pos rfl] at *
      have hl2 := rbel_loop2 (π := π) nodes k p hpk (hal p hmem) (hin k p hpk) p.args [] o
      generalize markAll p.args o = R at *
      simp [u_ratchetbase_Below_L1, b_ratchetbase_Below_L1]
      rw [hl2 _ rfl ho hb (by simp)]
      simp
      refine hnext _ (by omega) hlen ?_
      simp [hw]
    | false =>
      rw [if_neg (by decide)] at *
      simp [u_ratchetbase_Below_L1, b_ratchetbase_Below_L1]
      rw [rbel_loop2f (π := π) nodes k o _ hb (by simp)]
      simp
      refine hnext _ (by omega) hlen ?_
      simp [hw]

theorem e_BelowB (nodes : List Nod) (hnl : nodes.length ≤ 100000) (hal : ∀ x ∈ nodes, x.args.length ≤ 1000) (hin : ∀ (i : Nat) (x : Nod), nodes[i]? = some x → ∀ n ∈ x.args, 0 ≤ n ∧ n < (i : Int)) (fr : List Int) (hfl : fr.length ≤ 1000) (hfin : ∀ n ∈ fr, 0 ≤ n ∧ n < (nodes.length : Int)) :
    EE π n_ratchetbase_Below [.p (encNodes nodes), .p (encInts fr)] [] = some (.ap (11 :: π), [rowB (11 :: π) (some false) (belN nodes fr)]) := by
  have hml := rmark_loop (π := π) nodes fr hfl hfin fr [] (List.replicate nodes.length false)
  have hlen : (markAll fr (List.replicate nodes.length false)).length = nodes.length := by rw [markAll_len]; simp
  have hl1 := rbel_loop1 (π := π) nodes hnl hal hin nodes.length (markAll fr (List.replicate nodes.length false))
  have hro : nodes.length ≤ room := by simp only [room]; omega
  have hrl : (List.replicate nodes.length false).length = nodes.length := by simp
  have hrep : List.replicate nodes.length (PV.bool false) = bools (List.replicate nodes.length false) := by simp
  have hw : IntKind.i64.wrap ((nodes.length : Int) - 1) = nodes.length - 1 := w64 ⟨by omega, by omega⟩
  unfold belN
  generalize List.replicate nodes.length false = o at *
  generalize markAll fr o = o1 at *
  generalize belDown nodes nodes.length o1 = R at *
  simp [e_ratchetbase_Below, run_eq, c_ratchetbase_Below, hro, hrep]
  rw [hml _ rfl hrl (by simp)]
  simp [hw]
  rw [hl1 _ (Nat.le_refl _) hlen (by simp)]
  simp

end Go.Proofs.YtglelclmlkeheaaGreatDoor.V

/- Nodes below some nodes: their places, in the program and by the reference. -/
namespace Go.Proofs.YtglelclmlkeheaaGreatDoor.V
open Go (IntKind BinOp UnOp)
variable {π κ : Id}

theorem belowOf_loop (B : List Bool) (hbl : B.length ≤ 1000) :
    ∀ (suf pre : List Bool) (R : List Int) (y : Env × Sto), B = pre ++ suf → R.length ≤ pre.length →
    mask [9, 21, 22, 23] [] y = some ([(9, .ap (1009 :: π)), (21, .ap (14 :: 21 :: π)), (22, .p (I B.length)), (23, .p (I pre.length))], [rowI (1009 :: π) (flagE R) R, rowB (14 :: 21 :: π) (some false) B]) →
    kpO [9] [6, 7] [] (bkO 0 (iter (round EE iter π [] [9, 21, 22, 23] c_graph_BelowOf_L0) y)) = some (.nm, [(9, .ap (1009 :: π))], [rowI (1009 :: π) (flagE (R ++ trues pre.length suf)) (R ++ trues pre.length suf)])
  | [], pre, R, y, h, hR, hm => by
    rw [loop_eq hm]
    have : B = pre := by simpa using h
    simp [u_graph_BelowOf_L0, b_graph_BelowOf_L0, trues, ← this]
  | z :: suf, pre, R, y, h, hR, hm => by
    rw [loop_eq hm]
    have hlen : pre.length < B.length := by rw [h]; simp
    have hz : B[pre.length] = z := by simp [h]
    have hws := w_succ hlen (show B.length ≤ top63 by simp only [top63]; omega)
    have hroom : R.length + 1 ≤ room := by simp only [room]; omega
    cases z with
    | true =>
      have hnext := belowOf_loop B hbl suf (pre ++ [true]) (R ++ [(pre.length : Int)])
      rw [show (pre ++ [true]).length = pre.length + 1 by simp, flagE_snoc] at hnext
      rw [show trues pre.length (true :: suf) = [(pre.length : Int)] ++ trues (pre.length + 1) suf by simp [trues], ← List.append_assoc]
      generalize R ++ [(pre.length : Int)] ++ trues (pre.length + 1) suf = RR at *
      simp [u_graph_BelowOf_L0, b_graph_BelowOf_L0, lt_mid h, hlen, hz, hroom]
      refine hnext _ (by simp [h]) (by simp; omega) ?_
      simp [hws]
    | false =>
      have hnext := belowOf_loop B hbl suf (pre ++ [false]) R
      rw [show (pre ++ [false]).length = pre.length + 1 by simp] at hnext
      rw [show trues pre.length (false :: suf) = trues (pre.length + 1) suf by simp [trues]]
      generalize R ++ trues (pre.length + 1) suf = RR at *
      simp [u_graph_BelowOf_L0, b_graph_BelowOf_L0, lt_mid h, hlen, hz]
      refine hnext _ (by simp [h]) (by omega) ?_
      simp [hws]

theorem argsIn_iff {k : Nat} {l : List Int} : argsIn k l = true ↔ ∀ n ∈ l, 0 ≤ n ∧ n < (k : Int) := by
  unfold argsIn
  rw [List.all_eq_true]
  constructor
  · intro h n hn; have := within_iff.1 (h n hn); omega
  · intro h n hn; have := h n hn; exact within_iff.2 (by omega)
theorem fromE_z {nodes : List Nod} {fr : List Int} (h : fromE nodes fr = 0) : ∀ n ∈ fr, 0 ≤ n ∧ n < (nodes.length : Int) := argsIn_iff.1 ((unlE_z (by decide)).1 h)

theorem e_BelowOf (leaves : List Int) (nodes : List Nod) (fr : List Int) (hnl : nodes.length ≤ 1000) (hfl : fr.length ≤ 1000) (hal : ∀ x ∈ nodes, x.args.length ≤ 1000) :
    EE π n_graph_BelowOf [.p (encInts leaves), .p (encNodes nodes), .p (encInts fr)] [] =
      (if namedE leaves nodes fr ≠ 0 then some (.p (.tup [.sl 1 (some true) [], I (namedE leaves nodes fr)]), []) else some (.tup [.ap (1009 :: π), .p (I 0)], [rowI (1009 :: π) (flagE (trues 0 (belN nodes fr))) (trues 0 (belN nodes fr))])) := by
  have hne := fun π => e_namedErr (π := π) leaves nodes fr (by omega) hfl hal
  by_cases hc : namedE leaves nodes fr = 0
  · rw [hc] at hne
    have hc1 : (checkE leaves nodes).2 = 0 := by
      unfold namedE at hc
      split at hc
      · exact hc
      · rename_i h; simpa using h
    have hc2 : fromE nodes fr = 0 := by unfold namedE at hc; rwa [if_neg (by simp [hc1])] at hc
    have hbe := fun π => e_below (π := π) nodes (by omega) hal (fun i x hx => args_in hc1 hx) fr hfl (fromE_z hc2)
    have hbl := belN_len nodes fr
    have hlp := belowOf_loop (π := π) (belN nodes fr) (by omega) (belN nodes fr) [] []
    simp only [List.nil_append, List.length_nil] at hlp
    generalize belN nodes fr = B at *
    generalize trues 0 B = R at *
    simp [e_graph_BelowOf, run_eq, c_graph_BelowOf, hne, hc, hbe, thaw, thaw1]
    rw [hlp _ trivial (Nat.le_refl _) (by simp [flagE])]
    simp
  · generalize namedE leaves nodes fr = c at *
    simp [e_graph_BelowOf, run_eq, c_graph_BelowOf, hne, hc]

theorem rbelowOf_loop (nodes : List Nod) (B : List Bool) (hbl : B.length = nodes.length) (hnl : nodes.length ≤ 1000) :
    ∀ (suf pre : List Bool) (R : List Int) (y : Env × Sto), B = pre ++ suf → R.length ≤ pre.length →
    mask [0, 5, 6, 7] [] y = some ([(0, .p (encNodes nodes)), (5, .ap (11 :: 10 :: π)), (6, .ap (1006 :: π)), (7, .p (I pre.length))], [rowI (1006 :: π) (flagE R) R, rowB (11 :: 10 :: π) (some false) B]) →
    kpO [6] [4] [] (bkO 0 (iter (round EE iter π [] [0, 5, 6, 7] c_ratchetref02_Below_L0) y)) = some (.nm, [(6, .ap (1006 :: π))], [rowI (1006 :: π) (flagE (R ++ trues pre.length suf)) (R ++ trues pre.length suf)])
  | [], pre, R, y, h, hR, hm => by
    rw [loop_eq hm]
    have : B = pre := by simpa using h
    have hp : pre.length = nodes.length := by rw [← this]; exact hbl
    simp [u_ratchetref02_Below_L0, b_ratchetref02_Below_L0, trues, hp]
  | z :: suf, pre, R, y, h, hR, hm => by
    rw [loop_eq hm]
    have hlen : pre.length < B.length := by rw [h]; simp
    have hlen2 : pre.length < nodes.length := by omega
    have hz : B[pre.length] = z := by simp [h]
    have hws := w_succ hlen (show B.length ≤ top63 by simp only [top63]; omega)
    have hroom : R.length + 1 ≤ room := by simp only [room]; omega
    cases z with
    | true =>
      have hnext := rbelowOf_loop nodes B hbl hnl suf (pre ++ [true]) (R ++ [(pre.length : Int)])
      rw [show (pre ++ [true]).length = pre.length + 1 by simp, flagE_snoc] at hnext
      rw [show trues pre.length (true :: suf) = [(pre.length : Int)] ++ trues (pre.length + 1) suf by simp [trues], ← List.append_assoc]
      generalize R ++ [(pre.length : Int)] ++ trues (pre.length + 1) suf = RR at *
      simp [u_ratchetref02_Below_L0, b_ratchetref02_Below_L0, hlen2, hlen, hz, hroom]
      refine hnext _ (by simp [h]) (by simp; omega) ?_
      simp [hws]
    | false =>
      have hnext := rbelowOf_loop nodes B hbl hnl suf (pre ++ [false]) R
      rw [show (pre ++ [false]).length = pre.length + 1 by simp] at hnext
      rw [show trues pre.length (false :: suf) = trues (pre.length + 1) suf by simp [trues]]
      generalize R ++ trues (pre.length + 1) suf = RR at *
      simp [u_ratchetref02_Below_L0, b_ratchetref02_Below_L0, hlen2, hlen, hz]
      refine hnext _ (by simp [h]) (by omega) ?_
      simp [hws]

theorem e_BelowR (nodes : List Nod) (hnl : nodes.length ≤ 1000) (hal : ∀ x ∈ nodes, x.args.length ≤ 1000) (hin : ∀ (i : Nat) (x : Nod), nodes[i]? = some x → ∀ n ∈ x.args, 0 ≤ n ∧ n < (i : Int)) (fr : List Int) (hfl : fr.length ≤ 1000) (hfin : ∀ n ∈ fr, 0 ≤ n ∧ n < (nodes.length : Int)) :
    EE π n_ratchetref02_Below [.p (encNodes nodes), .p (encInts fr)] [] = some (.ap (1006 :: π), [rowI (1006 :: π) (flagE (trues 0 (belN nodes fr))) (trues 0 (belN nodes fr))]) := by
  have hbe := fun π => e_BelowB (π := π) nodes (by omega) hal hin fr hfl hfin
  have hbl := belN_len nodes fr
  have hlp := rbelowOf_loop (π := π) nodes (belN nodes fr) hbl hnl (belN nodes fr) [] []
  simp only [List.nil_append, List.length_nil] at hlp
  generalize belN nodes fr = B at *
  generalize trues 0 B = R at *
  simp [e_ratchetref02_Below, run_eq, c_ratchetref02_Below, hbe, thaw, thaw1]
  rw [hlp _ trivial (Nat.le_refl _) (by simp [flagE])]
  simp

end Go.Proofs.YtglelclmlkeheaaGreatDoor.V

/- Leaves below some nodes, in the program and by the reference. -/
namespace Go.Proofs.YtglelclmlkeheaaGreatDoor.V
open Go (IntKind BinOp UnOp)
variable {π κ : Id}

@[simp] theorem intsOf_ints : ∀ l : List Int, intsOf (ints l) = some l
  | [] => rfl
  | x :: r => by
    have := intsOf_ints r
    simp only [List.map_cons] at this ⊢
    rw [intsOf, this]; rfl

theorem lb_loop (nodes : List Nod) (B : List Bool) (hbl : B.length = nodes.length) (hnl : nodes.length ≤ 1000) :
    ∀ (suf pre : List Nod) (sb pb : List Bool) (R : List Int) (y : Env × Sto), nodes = pre ++ suf → B = pb ++ sb → pb.length = pre.length → R.length ≤ pre.length →
    mask [5, 6, 12, 13, 14] [] y = some ([(5, .ap (1005 :: π)), (6, .ap (14 :: 11 :: π)), (12, .p (encNodes nodes)), (13, .p (I nodes.length)), (14, .p (I pre.length))], [rowI (1005 :: π) (flagE R) R, rowB (14 :: 11 :: π) (some false) B]) →
    kpO [5] [4] [] (bkO 0 (iter (round EE iter π [] [5, 6, 12, 13, 14] c_graph_leavesBelow_L0) y)) = some (.nm, [(5, .ap (1005 :: π))], [rowI (1005 :: π) (flagE (R ++ lvOf sb suf)) (R ++ lvOf sb suf)])
  | [], pre, sb, pb, R, y, h, hB, hpl, hR, hm => by
    rw [loop_eq hm]
    have : nodes = pre := by simpa using h
    have hsb : lvOf sb [] = [] := by cases sb <;> rfl
    simp [u_graph_leavesBelow_L0, b_graph_leavesBelow_L0, hsb, ← this]
  | z :: suf, pre, [], pb, R, y, h, hB, hpl, hR, hm => by
    have h1 := congrArg List.length h
    have h2 := congrArg List.length hB
    simp at h1 h2
    omega
  | z :: suf, pre, b :: sb, pb, R, y, h, hB, hpl, hR, hm => by
    rw [loop_eq hm]
    have hlen : pre.length < nodes.length := by rw [h]; simp
    have hlenB : pre.length < B.length := by omega
    have hz : B[pre.length] = b := by simp [hB, ← hpl]
    have hws := w_succ hlen (show nodes.length ≤ top63 by simp only [top63]; omega)
    have hroom : R.length + 1 ≤ room := by simp only [room]; omega
    have hBn : B = (pb ++ [b]) ++ sb := by simp [hB]
    by_cases hc : b = true ∧ z.op = 1
    · obtain ⟨hb, ho⟩ := hc
      subst hb
      have hnext := lb_loop nodes B hbl hnl suf (pre ++ [z]) sb (pb ++ [true]) (R ++ [z.value])
      rw [show (pre ++ [z]).length = pre.length + 1 by simp, flagE_snoc] at hnext
      rw [show lvOf (true :: sb) (z :: suf) = [z.value] ++ lvOf sb suf by simp [lvOf, ho], ← List.append_assoc]
      generalize R ++ [z.value] ++ lvOf sb suf = RR at *
      simp [u_graph_leavesBelow_L0, b_graph_leavesBelow_L0, lt_mid h, get_mid _ h, hlenB, hz, ho, hroom]
      refine hnext _ (by simp [h]) hBn (by simp [hpl]) (by simp; omega) ?_
      simp [hws]
    · have hnext := lb_loop nodes B hbl hnl suf (pre ++ [z]) sb (pb ++ [b]) R
      rw [show (pre ++ [z]).length = pre.length + 1 by simp] at hnext
      rw [show lvOf (b :: sb) (z :: suf) = lvOf sb suf by rw [lvOf, if_neg hc]]
      generalize R ++ lvOf sb suf = RR at *
      cases b with
      | true =>
        have ho : ¬ z.op = 1 := fun h => hc ⟨rfl, h⟩
        simp [u_graph_leavesBelow_L0, b_graph_leavesBelow_L0, lt_mid h, get_mid _ h, hlenB, hz, ho]
        refine hnext _ (by simp [h]) hBn (by simp [hpl]) (by omega) ?_
        simp [hws]
      | false =>
        simp [u_graph_leavesBelow_L0, b_graph_leavesBelow_L0, lt_mid h, get_mid _ h, hlenB, hz]
        refine hnext _ (by simp [h]) hBn (by simp [hpl]) (by omega) ?_
        simp [hws]

theorem e_leavesBelow (nodes : List Nod) (hnl : nodes.length ≤ 1000) (hal : ∀ x ∈ nodes, x.args.length ≤ 1000) (hin : ∀ (i : Nat) (x : Nod), nodes[i]? = some x → ∀ n ∈ x.args, 0 ≤ n ∧ n < (i : Int)) (fr : List Int) (hfl : fr.length ≤ 1000) (hfin : ∀ n ∈ fr, 0 ≤ n ∧ n < (nodes.length : Int)) :
    EE π n_graph_leavesBelow [.p (encNodes nodes), .p (encInts fr)] [] = some (.p (.sl 1 (flagE (lvOf (belN nodes fr) nodes)) (ints (cmpI (sortI (lvOf (belN nodes fr) nodes))))), []) := by
  have hbe := fun π => e_below (π := π) nodes (by omega) hal hin fr hfl hfin
  have hbl := belN_len nodes fr
  have hlp := lb_loop (π := π) nodes (belN nodes fr) hbl hnl nodes [] (belN nodes fr) [] []
  have hlv := lvOf_len (belN nodes fr) nodes
  simp only [List.nil_append, List.length_nil] at hlp
  generalize belN nodes fr = B at *
  generalize lvOf B nodes = R at *
  have hro : R.length ≤ room := by simp only [room]; omega
  have hro2 : (sortI R).length ≤ room := by rw [(sortI_perm R).length_eq]; exact hro
  simp [e_graph_leavesBelow, run_eq, c_graph_leavesBelow, hbe, thaw, thaw1]
  rw [hlp _ trivial trivial trivial (Nat.le_refl _) (by simp [flagE])]
  simp [o_slices_Sort_int_int, o_slices_Compact_int_int, sortO, compactO, hro, hro2]

end Go.Proofs.YtglelclmlkeheaaGreatDoor.V

/- Leaves below some nodes: LeavesOf, and the reference. -/
namespace Go.Proofs.YtglelclmlkeheaaGreatDoor.V
open Go (IntKind BinOp UnOp)
variable {π κ : Id}

/-- Which leaves are below some nodes. -/
def isLv (leaves : Nat) (nodes : List Nod) (fr : List Int) : List Bool := markAll (lvOf (belN nodes fr) nodes) (List.replicate leaves false)
def lvN (leaves : Nat) (nodes : List Nod) (fr : List Int) : List Int := trues 0 (isLv leaves nodes fr)

theorem leaf_in {leaves : List Int} {nodes : List Nod} (hc : (checkE leaves nodes).2 = 0) {i : Nat} {x : Nod} (hx : nodes[i]? = some x) (h1 : x.op = 1) : 0 ≤ x.value ∧ x.value < (leaves.length : Int) := by
  obtain ⟨ho, hw, hl, ha, hv, hf⟩ := nodeE_iff (checkE_nodes hc i x hx)
  unfold valE at hv
  rw [if_neg (by omega), if_pos h1] at hv
  split at hv
  · rename_i hin
    have := within_iff.1 hin
    omega
  · exact absurd hv (by decide)
theorem lvOf_in {leaves : List Int} {nodes : List Nod} (hc : (checkE leaves nodes).2 = 0) (B : List Bool) : ∀ n ∈ lvOf B nodes, 0 ≤ n ∧ n < (leaves.length : Int) := fun n hn => by
  obtain ⟨x, hx, h1, rfl⟩ := lvOf_mem _ _ n hn
  obtain ⟨i, hi⟩ := List.getElem?_of_mem hx
  exact leaf_in hc hi h1
theorem lvN_eq {leaves : List Int} {nodes : List Nod} (hc : (checkE leaves nodes).2 = 0) (fr : List Int) : cmpI (sortI (lvOf (belN nodes fr) nodes)) = lvN leaves.length nodes fr := cmp_sort_eq _ _ (lvOf_in hc _)

theorem namedE_z {leaves : List Int} {nodes : List Nod} {fr : List Int} (hc : namedE leaves nodes fr = 0) : (checkE leaves nodes).2 = 0 ∧ fromE nodes fr = 0 := by
  have hc1 : (checkE leaves nodes).2 = 0 := by
    unfold namedE at hc
    split at hc
    · exact hc
    · rename_i h; simpa using h
  exact ⟨hc1, by unfold namedE at hc; rwa [if_neg (by simp [hc1])] at hc⟩

theorem e_LeavesOf (leaves : List Int) (nodes : List Nod) (fr : List Int) (hnl : nodes.length ≤ 1000) (hfl : fr.length ≤ 1000) (hal : ∀ x ∈ nodes, x.args.length ≤ 1000) :
    EE π n_graph_LeavesOf [.p (encInts leaves), .p (encNodes nodes), .p (encInts fr)] [] =
      (if namedE leaves nodes fr ≠ 0 then some (.p (.tup [.sl 1 (some true) [], I (namedE leaves nodes fr)]), []) else some (.p (.tup [.sl 1 (flagE (lvOf (belN nodes fr) nodes)) (ints (lvN leaves.length nodes fr)), I 0]), [])) := by
  have hne := fun π => e_namedErr (π := π) leaves nodes fr (by omega) hfl hal
  by_cases hc : namedE leaves nodes fr = 0
  · rw [hc] at hne
    obtain ⟨hc1, hc2⟩ := namedE_z hc
    have hle := fun π => e_leavesBelow (π := π) nodes hnl hal (fun i x hx => args_in hc1 hx) fr hfl (fromE_z hc2)
    rw [lvN_eq hc1] at hle
    generalize lvN leaves.length nodes fr = R at *
    generalize flagE (lvOf (belN nodes fr) nodes) = fl at *
    simp [e_graph_LeavesOf, run_eq, c_graph_LeavesOf, hne, hc, hle]
  · generalize namedE leaves nodes fr = c at *
    simp [e_graph_LeavesOf, run_eq, c_graph_LeavesOf, hne, hc]

theorem rlb_loop (nodes : List Nod) (n : Nat) (B : List Bool) (hbl : B.length = nodes.length) (hnl : nodes.length ≤ 1000) (hin : ∀ x ∈ nodes, x.op = 1 → 0 ≤ x.value ∧ x.value < (n : Int)) :
    ∀ (suf pre : List Nod) (sb pb : List Bool) (o : List Bool) (y : Env × Sto), nodes = pre ++ suf → B = pb ++ sb → pb.length = pre.length → o.length = n →
    mask [0, 2, 7, 8, 9] [] y = some ([(0, .p (encNodes nodes)), (2, .p (I n)), (7, .ap (11 :: 14 :: π)), (8, .ap (16 :: π)), (9, .p (I pre.length))], [rowB (16 :: π) (some false) o, rowB (11 :: 14 :: π) (some false) B]) →
    kpO [2, 8] [6] [] (bkO 0 (iter (round EE iter π [] [0, 2, 7, 8, 9] c_ratchetbase_LeavesBelow_L0) y)) = some (.nm, [(2, .p (I n)), (8, .ap (16 :: π))], [rowB (16 :: π) (some false) (markAll (lvOf sb suf) o)])
  | [], pre, sb, pb, o, y, h, hB, hpl, ho, hm => by
    rw [loop_eq hm]
    have : nodes = pre := by simpa using h
    have hsb : lvOf sb [] = [] := by cases sb <;> rfl
    simp [u_ratchetbase_LeavesBelow_L0, b_ratchetbase_LeavesBelow_L0, hsb, markAll, ← this]
  | z :: suf, pre, [], pb, o, y, h, hB, hpl, ho, hm => by
    have h1 := congrArg List.length h
    have h2 := congrArg List.length hB
    simp at h1 h2
    omega
  | z :: suf, pre, b :: sb, pb, o, y, h, hB, hpl, ho, hm => by
    rw [loop_eq hm]
    have hlen : pre.length < nodes.length := by rw [h]; simp
    have hlenB : pre.length < B.length := by omega
    have hz : B[pre.length] = b := by simp [hB, ← hpl]
    have hws := w_succ hlen (show nodes.length ≤ top63 by simp only [top63]; omega)
    have hBn : B = (pb ++ [b]) ++ sb := by simp [hB]
    by_cases hc : b = true ∧ z.op = 1
    · obtain ⟨hb, h1⟩ := hc
      subst hb
      have hv := hin z (by rw [h]; simp) h1
      have hvl : z.value.toNat < o.length := by omega
      have hnext := rlb_loop nodes n B hbl hnl hin suf (pre ++ [z]) sb (pb ++ [true]) (o.set z.value.toNat true)
      rw [show (pre ++ [z]).length = pre.length + 1 by simp] at hnext
      rw [show lvOf (true :: sb) (z :: suf) = z.value :: lvOf sb suf by simp [lvOf, h1], markAll]
      generalize markAll (lvOf sb suf) (o.set z.value.toNat true) = RR at *
      simp [u_ratchetbase_LeavesBelow_L0, b_ratchetbase_LeavesBelow_L0, lt_mid h, get_mid _ h, hlenB, hz, h1, hv.1, hvl]
      refine hnext _ (by simp [h]) hBn (by simp [hpl]) (by simpa using ho) ?_
      simp [hws]
      rfl
    · have hnext := rlb_loop nodes n B hbl hnl hin suf (pre ++ [z]) sb (pb ++ [b]) o
      rw [show (pre ++ [z]).length = pre.length + 1 by simp] at hnext
      rw [show lvOf (b :: sb) (z :: suf) = lvOf sb suf by rw [lvOf, if_neg hc]]
      generalize markAll (lvOf sb suf) o = RR at *
      cases b with
      | true =>
        have h1 : ¬ z.op = 1 := fun h => hc ⟨rfl, h⟩
        simp [u_ratchetbase_LeavesBelow_L0, b_ratchetbase_LeavesBelow_L0, lt_mid h, get_mid _ h, hlenB, hz, h1]
        refine hnext _ (by simp [h]) hBn (by simp [hpl]) ho ?_
        simp [hws]
      | false =>
        simp [u_ratchetbase_LeavesBelow_L0, b_ratchetbase_LeavesBelow_L0, lt_mid h, get_mid _ h, hlenB, hz]
        refine hnext _ (by simp [h]) hBn (by simp [hpl]) ho ?_
        simp [hws]

theorem rlt_loop (B : List Bool) (hbl : B.length ≤ 1000) :
    ∀ (suf pre : List Bool) (R : List Int) (y : Env × Sto), B = pre ++ suf → R.length ≤ pre.length →
    mask [2, 8, 10, 11] [] y = some ([(2, .p (I B.length)), (8, .ap (16 :: π)), (10, .ap (1010 :: π)), (11, .p (I pre.length))], [rowI (1010 :: π) (flagE R) R, rowB (16 :: π) (some false) B]) →
    kpO [10] [6] [] (bkO 2 (iter (round EE iter π [] [2, 8, 10, 11] c_ratchetbase_LeavesBelow_L1) y)) = some (.nm, [(10, .ap (1010 :: π))], [rowI (1010 :: π) (flagE (R ++ trues pre.length suf)) (R ++ trues pre.length suf)])
  | [], pre, R, y, h, hR, hm => by
    rw [loop_eq hm]
    have : B = pre := by simpa using h
    simp [u_ratchetbase_LeavesBelow_L1, b_ratchetbase_LeavesBelow_L1, trues, ← this]
  | z :: suf, pre, R, y, h, hR, hm => by
    rw [loop_eq hm]
    have hlen : pre.length < B.length := by rw [h]; simp
    have hz : B[pre.length] = z := by simp [h]
    have hws := w_succ hlen (show B.length ≤ top63 by simp only [top63]; omega)
    have hroom : R.length + 1 ≤ room := by simp only [room]; omega
    cases z with
    | true =>
      have hnext := rlt_loop B hbl suf (pre ++ [true]) (R ++ [(pre.length : Int)])
      rw [show (pre ++ [true]).length = pre.length + 1 by simp, flagE_snoc] at hnext
      rw [show trues pre.length (true :: suf) = [(pre.length : Int)] ++ trues (pre.length + 1) suf by simp [trues], ← List.append_assoc]
      generalize R ++ [(pre.length : Int)] ++ trues (pre.length + 1) suf = RR at *
      simp [u_ratchetbase_LeavesBelow_L1, b_ratchetbase_LeavesBelow_L1, lt_mid h, hlen, hz, hroom]
      refine hnext _ (by simp [h]) (by simp; omega) ?_
      simp [hws]
    | false =>
      have hnext := rlt_loop B hbl suf (pre ++ [false]) R
      rw [show (pre ++ [false]).length = pre.length + 1 by simp] at hnext
      rw [show trues pre.length (false :: suf) = trues (pre.length + 1) suf by simp [trues]]
      generalize R ++ trues (pre.length + 1) suf = RR at *
      simp [u_ratchetbase_LeavesBelow_L1, b_ratchetbase_LeavesBelow_L1, lt_mid h, hlen, hz]
      refine hnext _ (by simp [h]) (by omega) ?_
      simp [hws]

theorem e_LeavesBelow (leaves : List Int) (nodes : List Nod) (hll : leaves.length ≤ 1000) (hnl : nodes.length ≤ 1000) (hal : ∀ x ∈ nodes, x.args.length ≤ 1000) (hc : (checkE leaves nodes).2 = 0) (fr : List Int) (hfl : fr.length ≤ 1000) (hfin : ∀ n ∈ fr, 0 ≤ n ∧ n < (nodes.length : Int)) :
    EE π n_ratchetbase_LeavesBelow [.p (encNodes nodes), .p (encInts fr), .p (I leaves.length)] [] = some (.ap (1010 :: π), [rowI (1010 :: π) (flagE (lvN leaves.length nodes fr)) (lvN leaves.length nodes fr)]) := by
  have hbe := fun π => e_BelowB (π := π) nodes (by omega) hal (fun i x hx => args_in hc hx) fr hfl hfin
  have hbl := belN_len nodes fr
  have hl0 := rlb_loop (π := π) nodes leaves.length (belN nodes fr) hbl hnl (fun x hx h1 => by
    obtain ⟨i, hi⟩ := List.getElem?_of_mem hx
    exact leaf_in hc hi h1) nodes [] (belN nodes fr) [] (List.replicate leaves.length false)
  unfold lvN isLv
  have hml : (markAll (lvOf (belN nodes fr) nodes) (List.replicate leaves.length false)).length = leaves.length := by rw [markAll_len]; simp
  have hl1 := rlt_loop (π := π) (markAll (lvOf (belN nodes fr) nodes) (List.replicate leaves.length false)) (by omega) (markAll (lvOf (belN nodes fr) nodes) (List.replicate leaves.length false)) [] []
  have hro : leaves.length ≤ room := by simp only [room]; omega
  have hrl : (List.replicate leaves.length false).length = leaves.length := by simp
  have hrep : List.replicate leaves.length (PV.bool false) = bools (List.replicate leaves.length false) := by simp
  simp only [List.nil_append, List.length_nil] at hl0 hl1
  rw [hml] at hl1
  generalize List.replicate leaves.length false = o at *
  generalize belN nodes fr = B at *
  generalize lvOf B nodes = R at *
  generalize markAll R o = o1 at *
  generalize trues 0 o1 = R1 at *
  simp [e_ratchetbase_LeavesBelow, run_eq, c_ratchetbase_LeavesBelow, hbe, hro, hrep]
  rw [hl0 _ trivial trivial trivial hrl (by simp)]
  simp [thaw, thaw1]
  rw [hl1 _ trivial (Nat.le_refl _) (by simp [flagE])]
  simp

end Go.Proofs.YtglelclmlkeheaaGreatDoor.V
