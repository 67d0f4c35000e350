/- Chapter 16: a design is opened. What rules read and write, by the program. What rules read and write, by the program: ReadsOf, WritesOf. ReadsOf and WritesOf; what rules read and write, by the reference. What rules read, by the reference. What rules write, by the reference; small designs. The argume -/
import Derived.Test.YteecfnfjlclhdaaGreatS3
import Derived.Test.YteecfnfjlclhdaaGreatK5
import Derived.Test.YteecfnfjlclhdaaGreatS1

set_option linter.unusedSimpArgs false
set_option linter.unusedVariables false

/- Chapter 16: a design is opened. -/
namespace Go.Proofs.YteecfnfjlclhdaaGreat.V
open Go (IntKind BinOp UnOp)
variable {π : Id}
abbrev Z6i (d : Des) : List PV := [.str d.name, X7 d.inputs, Xd d.elements, Z8 d.nodes, Uz d.rules, Vh d.outputs, Q0 d.attrs, Z2 (dlv d)]
abbrev Zfi (d : Des) : PV := .agg (Z6i d)
def F3 (d : Des) (r : Int) : Int := unlE (Z6 r 0 ((d.rules.length : Int) - 1)) 6
theorem Zfs (d : Des) (hd : d.rules.length ≤ 1000) (r : Int) : EE π Qz [.p (Zfi d), .p (I r)] [] = some (.p (I (F3 d r)), []) := by
 have hw : IntKind.i64.wrap ((d.rules.length : Int) - 1) = (d.rules.length : Int) - 1 := w64 ⟨by omega, by omega⟩
 simp [Zdn, Z1, Z0z, hw, e_withinC, L9, F3]
theorem e_open1 (d : Des) (hd : d.rules.length ≤ 1000) (i r : Int) : EE π Z0a [.p (I i), .p (I r), .p (.ptr (Z6i d))] [] = some (.p (I (F3 d r)), []) := by
 have h := fun π => Zfs (π := π) d hd r
 simp [e_cf_open_1, Z1, Z8j, h]
theorem Zfq (l : List Int) (hl : l.length ≤ top63) {f : Nat} {caps : List PV} {err : Nat → Int → Int} (hp : ∀ (i : Nat) x, l[i]? = some x → EE (19 :: π) f (.p (I i) :: .p (I x) :: caps.map fun v => AV.p v.fg) [] = some (.p (I (err i x)), [])) :
  ∀ (suf pre : List Int) (x : Env × Sto), l = pre ++ suf → mask [1, 9, 10, 11] [] x = some ([(1, .p (.fn f caps)), (9, .p (Z2 l)), (10, .p (I l.length)), (11, .p (I pre.length))], []) →
  kpO [] [4, 5] [] (bkO 0 (iter (round EE iter π [] [1, 9, 10, 11] Gy) x)) = (if (eachE err pre.length suf).2 = 0 then some (.nm, [], []) else some (.rt, [(4, .p (I (eachE err pre.length suf).1)), (5, .p (I (eachE err pre.length suf).2))], []))
 | [], pre, x, h, hm => by
  rw [Z0 hm]
  subst h
  simp [Gh, Us, eachE]
 | y :: suf, pre, x, h, hm => by
  rw [Z0 hm]
  have hy := hp pre.length y (by rw [h]; simp)
  by_cases hpy : err pre.length y = 0
  ·simp [Gh, Us, Z7 h, Zt _ h, hy, hpy, eachE]
   rw [show pre.length + 1 = (pre ++ [y]).length by simp]
   exact Zfq l hl hp suf (pre ++ [y]) _ (by simp [h]) (by simp [Zb (show pre.length < l.length by have := Z7 h; omega) hl])
  ·simp [Gh, Us, Z7 h, Zt _ h, hy, hpy, eachE]
theorem e_eachC (l : List Int) (hl : l.length ≤ top63) {f : Nat} {caps : List PV} {err : Nat → Int → Int} (hp : ∀ (i : Nat) x, l[i]? = some x → EE (19 :: π) f (.p (I i) :: .p (I x) :: caps.map fun v => AV.p v.fg) [] = some (.p (I (err i x)), [])) :
  EE π Pm [.p (Z2 l), .p (.fn f caps)] [] = some (.p (.tup [I (eachE err 0 l).1, I (eachE err 0 l).2]), []) := by
 simp [Zhc, Z1, Z4v]
 rw [Zfq l hl hp l [] _ rfl (by simp)]
 by_cases hf : (eachE err 0 l).2 = 0
 ·have h1 : (eachE err 0 l).1 = 0 := Z5n err 0 l hf
  simp [hf, h1]
 ·simp [hf]
abbrev opBox (π : Id) (d : Des) : Id × Blk := (8 :: π, .box false [.p (.str d.name), .p (X7 d.inputs), .p (Xd d.elements), .p (Z8 d.nodes), .p (Uz d.rules), .p (Vh d.outputs), .p (Q0 d.attrs), .ap (800008 :: π)])
abbrev opZ (π : Id) : Id × Blk := (4 :: π, .box false [.p (.str ⟨#[]⟩), .p (.sl 2 (some true) []), .p (.sl 5 (some true) []), .p (.sl 4 (some true) []), .p (.sl 3 (some true) []), .p (.sl 2 (some true) []), .p (.sl 2 (some true) []), .p (.sl 1 (some true) [])])
theorem opn_loop1 (d : Des) (hd : DesOk d) (rs : PV) (e : Int) : ∀ (suf pre : List Prt) (x : Env × Sto), d.inputs = pre ++ suf →
  mask [1, 2, 4, 7, 8, 21, 22, 23] [] x = some ([(1, .p rs), (2, .ref (2 :: π) 0), (4, .ref (4 :: π) 0), (7, .p (I e)), (8, .ref (8 :: π) 0), (21, .p (X7 d.inputs)), (22, .p (I d.inputs.length)), (23, .p (I pre.length))], [rowL (800008 :: π) (pre.map fun p => p.width), opBox π d, opZ π, Zo (2 :: π) d]) →
  kpO [1, 2, 4, 7, 8] [4, 5] [] (bkO 0 (iter (round EE iter π [] [1, 2, 4, 7, 8, 21, 22, 23] Z6f) x)) = some (.nm, [(1, .p rs), (2, .ref (2 :: π) 0), (4, .ref (4 :: π) 0), (7, .p (I e)), (8, .ref (8 :: π) 0)], [rowL (800008 :: π) (d.inputs.map fun p => p.width), opBox π d, opZ π, Zo (2 :: π) d])
 | [], pre, x, h, hm => by
  rw [Z0 hm]
  have : pre = d.inputs := by simpa using h.symm
  subst this
  simp [Zbc, Z1w]
 | y :: suf, pre, x, h, hm => by
  rw [Z0 hm]
  have hg : d.inputs[pre.length]? = some y := by rw [h]; simp
  have ih := fun x => opn_loop1 d hd rs e suf (pre ++ [y]) x
  have hlt := Z7 h
  have hi := hd.inputs
  have hws := Zb (show pre.length < d.inputs.length by omega) (show d.inputs.length ≤ top63 by simp only [top63]; omega)
  have hrm : pre.length + 1 ≤ room := by simp only [room]; omega
  simp [Zbc, Z1w, hlt, hg, Wy, hrm]
  exact ih _ (by simp [h]) (by simp [hws, Zc])
theorem opn_loop2 (d : Des) (hd : DesOk d) (rs : PV) (e : Int) : ∀ (suf pre : List Elm) (x : Env × Sto), d.elements = pre ++ suf →
  mask [1, 4, 7, 8, 36, 37, 38] [] x = some ([(1, .p rs), (4, .ref (4 :: π) 0), (7, .p (I e)), (8, .ref (8 :: π) 0), (36, .p (Xd d.elements)), (37, .p (I d.elements.length)), (38, .p (I pre.length))], [rowL (800008 :: π) (d.inputs.map (fun p => p.width) ++ pre.map fun p => p.width), opBox π d, opZ π]) →
  kpO [1, 4, 7, 8] [4, 5] [] (bkO 2 (iter (round EE iter π [] [1, 4, 7, 8, 36, 37, 38] Z6e) x)) = some (.nm, [(1, .p rs), (4, .ref (4 :: π) 0), (7, .p (I e)), (8, .ref (8 :: π) 0)], [rowL (800008 :: π) (dlv d), opBox π d, opZ π])
 | [], pre, x, h, hm => by
  rw [Z0 hm]
  have : pre = d.elements := by simpa using h.symm
  subst this
  simp [Zbb, Z1v, dlv]
 | y :: suf, pre, x, h, hm => by
  rw [Z0 hm]
  have hg : d.elements[pre.length]? = some y := by rw [h]; simp
  have ih := fun x => opn_loop2 d hd rs e suf (pre ++ [y]) x
  have hlt := Z7 h
  have hi := hd.inputs
  have hi' := hd.elements
  have hws := Zb (show pre.length < d.elements.length by omega) (show d.elements.length ≤ top63 by simp only [top63]; omega)
  have hrm : d.inputs.length + pre.length + 1 ≤ room := by simp only [room]; omega
  have hfl : flagE (d.inputs.map (fun p => p.width) ++ (pre.map (fun p => p.width) ++ [y.width])) = some false := by rw [← List.append_assoc]; exact Zc _ _
  simp [Zbb, Z1v, hlt, hg, Zr, hrm]
  exact ih _ (by simp [h]) (by simp [hws, hfl])
def opE (d : Des) (rules : List Int) : Int := if (desE d).2 = 0 then (eachE (fun _ r => F3 d r) 0 rules).2 else (desE d).2
abbrev netA (π : Id) (d : Des) : AV := .agg [.p (.str d.name), .p (X7 d.inputs), .p (Xd d.elements), .p (Z8 d.nodes), .p (Uz d.rules), .p (Vh d.outputs), .p (Q0 d.attrs), .ap (800008 :: π)]
theorem e_openC (d : Des) (hd : DesOk d) (rules : List Int) (hr : rules.length ≤ 1000) : EE π Z3c [.p (Z5 d), .p (Z2 rules)] [] = some (.tup [netA π d, .p (I (opE d rules))], [rowL (800008 :: π) (dlv d)]) := by
 have hc := fun π => e_CkD (π := π) d hd
 have hea := fun π => e_eachC (π := π) rules (by simp only [top63]; omega) (f := Z0a) (caps := [.ptr [.str d.name, X7 d.inputs, Xd d.elements, Z8 d.nodes, Uz d.rules, Vh d.outputs, Q0 d.attrs, Z2 (dlv d)]]) (err := fun _ r => F3 d r) (fun i x _ => by simpa using e_open1 d hd.rules _ x)
 have h1 := opn_loop1 (π := π) d hd (Z2 rules) (desE d).2 d.inputs []
 have h2 := opn_loop2 (π := π) d hd (Z2 rules) (desE d).2 d.elements []
 unfold opE
 unfold Z5 at hc
 generalize eachE (fun _ r => F3 d r) 0 rules = R at *
 generalize desE d = D at *
 simp [e_cf_open, Z1, Ze3, Z5, hc, thaw, thaw1]
 rw [h1 _ rfl (by simp [flagE])]
 simp [thaw, thaw1]
 rw [h2 _ rfl (by simp)]
 by_cases h0 : D.2 = 0
 ·simp [h0, hea, Z4]
 ·simp [h0]
structure DesVal (d : Des) : Prop where
 check : (Xw (dlv d) d.nodes).2 = 0
 guard : ∀ r ∈ d.rules, Pw d.nodes r.guard = true
 wrt : ∀ r ∈ d.rules, ∀ w ∈ r.writes, wrtE d.elements d.nodes w = 0
 rl : d.rules.length ≤ 16
 ll : d.inputs.length + d.elements.length ≤ 40
theorem L5 {x : Int × Int} {r : List (Int × Int)} (h : (X6 (x :: r)).2 = 0) : x.2 = 0 ∧ (X6 r).2 = 0 := by
 rw [P1] at h
 split at h
 ·exact ⟨by assumption, h⟩
 ·exact absurd h (by assumption)
theorem desVal {d : Des} (h : (desE d).2 = 0) : DesVal d := by
 unfold desE Zci at h
 obtain ⟨_, h⟩ := L5 h
 obtain ⟨_, h⟩ := L5 h
 obtain ⟨h3, h⟩ := L5 h
 obtain ⟨_, h⟩ := L5 h
 obtain ⟨h5, h⟩ := L5 h
 obtain ⟨h6, h⟩ := L5 h
 obtain ⟨h7, h⟩ := L5 h
 have hr : ∀ r ∈ d.rules, Pw d.nodes r.guard = true ∧ ∀ w ∈ r.writes, wrtE d.elements d.nodes w = 0 := fun r hr => by
  obtain ⟨K, hK⟩ := Z5l _ _ _ _ _ h7 r hr
  unfold rulE at hK
  obtain ⟨k1, k2⟩ := (Zn _ _).1 hK
  obtain ⟨k2, _⟩ := (Zn _ _).1 k2
  obtain ⟨_, k3⟩ := (Zn _ _).1 k1
  obtain ⟨k3, _⟩ := (Zn _ _).1 k3
  refine ⟨(Hs (by decide)).1 k3, fun w hw => ?_⟩
  obtain ⟨j, hj⟩ := eachE_mem _ _ _ k2 w hw
  exact hj
 refine ⟨h5, fun r h => (hr r h).1, fun r h => (hr r h).2, ?_, ?_⟩
 ·have := (Hs (by decide)).1 h6
  simp at this; omega
 ·have := (Hs (by decide)).1 h3
  simp at this; omega
def Pv (r : Rul) : List Int := r.guard :: r.writes.flatMap fun w => [w.whn, w.val]
def usedE (ni : Nat) (l : List Int) : List Int := (l.filter fun n => decide ((ni : Int) ≤ n)).map fun n => n - ni
abbrev lvD (d : Des) (fr : List Int) : List Int := lvN (dlv d).length d.nodes fr
def rdE (d : Des) (r : Rul) : List Int := usedE d.inputs.length (lvD d (Pv r))
def wrE (r : Rul) : List Int := cmpI (sortI (r.writes.map fun w => w.el))
theorem lvN_mem {k : Nat} {nodes : List Nod} {fr : List Int} {n : Int} (h : n ∈ lvN k nodes fr) : 0 ≤ n ∧ n < (k : Int) := by
 unfold lvN isLv at h
 obtain ⟨j, hj, rfl, _⟩ := (Z95 _ _ _).1 h
 rw [Xz, List.length_replicate] at hj
 omega
theorem rdFrom_in {d : Des} (hv : DesVal d) {r : Rul} (hr : r ∈ d.rules) : ∀ n ∈ Pv r, 0 ≤ n ∧ n < (d.nodes.length : Int) := fun n hn => by
 unfold Pv at hn
 have hc : ∀ {m : Int}, Pw d.nodes m = true → 0 ≤ m ∧ m < (d.nodes.length : Int) := fun {m} h => by
  unfold Pw at h
  rw [Bool.and_eq_true] at h
  exact Fx.1 h.1
 rcases List.mem_cons.1 hn with rfl | hn
 ·exact hc (hv.guard r hr)
 ·obtain ⟨w, hw, hn⟩ := List.mem_flatMap.1 hn
  have h0 := hv.wrt r hr w hw
  unfold wrtE at h0
  split at h0
  ·contradiction
  ·rename_i h1
   obtain ⟨_, h2, h3⟩ := wrtE_1 (Classical.not_not.1 h1)
   simp at hn
   rcases hn with rfl | rfl
   ·exact hc h2
   ·exact h3
theorem Zf2 (r : Rul) : (Pv r).length = 1 + 2 * r.writes.length := by
 unfold Pv
 induction r.writes with
 | nil => rfl
 | cons a l ih => simp at ih ⊢; omega
theorem namedE_ok {d : Des} (hv : DesVal d) {fr : List Int} (hf : ∀ n ∈ fr, 0 ≤ n ∧ n < (d.nodes.length : Int)) : Z5e (dlv d) d.nodes fr = 0 := by
 unfold Z5e
 rw [if_neg (by rw [hv.check]; simp)]
 unfold fromE
 rw [Hs (by decide)]
 exact Zg6.2 hf
abbrev Zf9 (id : Id) (d : Des) : Id × Blk := (id, .box false ((Z6i d).map .p))
theorem used_loop (d : Des) (hi : d.inputs.length ≤ 1000) (fl : Option Bool) (lv : List Int) (hlv : lv.length ≤ 2000) (hin : ∀ n ∈ lv, 0 ≤ n ∧ n < 3000) : ∀ (suf pre : List Int) (x : Env × Sto), lv = pre ++ suf →
  mask [2, 4, 5, 18, 19, 20] [] x = some ([(2, .ref (2 :: π) 0), (4, .ap (1004 :: π)), (5, .p (.sl 1 fl (ints lv))), (18, .p (.sl 1 fl (ints lv))), (19, .p (I lv.length)), (20, .p (I pre.length))], [rowL (1004 :: π) (usedE d.inputs.length pre), Zf9 (2 :: π) d]) →
  kpO [4, 5] [4, 5] [] (bkO 0 (iter (round EE iter π [] [2, 4, 5, 18, 19, 20] Z0y) x)) = some (.nm, [(4, .ap (1004 :: π)), (5, .p (.sl 1 fl (ints lv)))], [rowL (1004 :: π) (usedE d.inputs.length lv)])
 | [], pre, x, h, hm => by
  rw [Z0 hm]
  have : pre = lv := by simpa using h.symm
  subst this
  simp [Z02, Pe]
 | y :: suf, pre, x, h, hm => by
  rw [Z0 hm]
  have hg : lv[pre.length]? = some y := by rw [h]; simp
  have ih := fun x => used_loop d hi fl lv hlv hin suf (pre ++ [y]) x
  have hlt := Z7 h
  have hy := hin y (by rw [h]; simp)
  have hws := Zb (show pre.length < lv.length by omega) (show lv.length ≤ top63 by simp only [top63]; omega)
  have hw : IntKind.i64.wrap (y - d.inputs.length) = y - d.inputs.length := w64 ⟨by omega, by omega⟩
  have hul : (usedE d.inputs.length pre).length ≤ pre.length := by unfold usedE; rw [List.length_map]; exact List.length_filter_le _ _
  have hrm : (usedE d.inputs.length pre).length + 1 ≤ room := by simp only [room]; omega
  by_cases hc : (d.inputs.length : Int) ≤ y
  ·have hs : usedE d.inputs.length (pre ++ [y]) = usedE d.inputs.length pre ++ [y - d.inputs.length] := by unfold usedE; simp [hc]
   rw [hs] at ih
   generalize usedE d.inputs.length pre = E at *
   simp [Z02, Pe, hlt, hg, hc, hw, hrm]
   exact ih _ (by simp [h]) (by simp [hws, Zc])
  ·have hs : usedE d.inputs.length (pre ++ [y]) = usedE d.inputs.length pre := by unfold usedE; simp [hc]
   rw [hs] at ih
   generalize usedE d.inputs.length pre = E at *
   simp [Z02, Pe, hlt, hg, hc]
   exact ih _ (by simp [h]) (by simp [hws])
theorem Za8 : ∀ (l : List Bool) (i : Nat), (trues i l).length ≤ l.length
 | [], _ => by simp [trues]
 | b :: r, i => by
  have := Za8 r (i + 1)
  rw [trues]; split <;> simp <;> omega
abbrev lvFl (d : Des) (fr : List Int) : Option Bool := flagE (lvOf (belN d.nodes fr) d.nodes)
theorem lvD_len (d : Des) (hd : DesOk d) (fr : List Int) : (lvD d fr).length ≤ 2000 := by
 have h := Za8 (isLv (dlv d).length d.nodes fr) 0
 have hl : (isLv (dlv d).length d.nodes fr).length = (dlv d).length := by unfold isLv; rw [Xz]; simp
 have hk : (dlv d).length ≤ 2000 := by have := hd.inputs; have := hd.elements; simp [dlv]; omega
 unfold lvD lvN
 omega
theorem e_used (d : Des) (hd : DesOk d) (hv : DesVal d) (fr : List Int) (hfl : fr.length ≤ 1000) (hf : ∀ n ∈ fr, 0 ≤ n ∧ n < (d.nodes.length : Int)) :
  EE π G8 [.p (Zfi d), .p (Z2 fr)] [] = some (.tup [.ap (1004 :: π), .p (.sl 1 (lvFl d fr) (ints (lvD d fr)))], [rowL (1004 :: π) (usedE d.inputs.length (lvD d fr))]) := by
 have hL := fun π => e_LeavesOf (π := π) (dlv d) d.nodes fr hd.nodes hfl hd.args
 rw [namedE_ok hv hf] at hL
 simp only [ne_eq, not_true_eq_false, if_false] at hL
 have hlp := used_loop (π := π) d hd.inputs (lvFl d fr) (lvD d fr) (lvD_len d hd fr) (fun n hn => by
  have := lvN_mem hn
  have hk : (dlv d).length ≤ 2000 := by have := hd.inputs; have := hd.elements; simp [dlv]; omega
  omega) (lvD d fr) []
 unfold lvD lvFl at hlp ⊢
 generalize lvN (dlv d).length d.nodes fr = R at *
 generalize flagE (lvOf (belN d.nodes fr) d.nodes) = fl at *
 simp [e_cf_nw_used, Z1, Z6g, hL, thaw, thaw1]
 rw [hlp _ rfl (by simp [usedE, flagE])]
 simp
theorem rds_loop (d : Des) (g : Int) (l : List Wrt) (hl : l.length ≤ 1000) : ∀ (suf pre : List Wrt) (x : Env × Sto), l = pre ++ suf →
  mask [2, 5, 24, 25, 26] [] x = some ([(2, .ref (2 :: π) 0), (5, .ap (17 :: π)), (24, .p (Z21 l)), (25, .p (I l.length)), (26, .p (I pre.length))], [(17 :: π, .row false t_int 1 (some false) (ints (g :: pre.flatMap fun w => [w.whn, w.val]))), Zf9 (2 :: π) d]) →
  kpO [2, 5] [4] [] (bkO 0 (iter (round EE iter π [] [2, 5, 24, 25, 26] Nr) x)) = some (.nm, [(2, .ref (2 :: π) 0), (5, .ap (17 :: π))], [(17 :: π, .row false t_int 1 (some false) (ints (g :: l.flatMap fun w => [w.whn, w.val]))), Zf9 (2 :: π) d])
 | [], pre, x, h, hm => by
  rw [Z0 hm]
  have : pre = l := by simpa using h.symm
  subst this
  simp [Z4w, Ns]
 | y :: suf, pre, x, h, hm => by
  rw [Z0 hm]
  have hg : l[pre.length]? = some y := by rw [h]; simp
  have ih := fun x => rds_loop d g l hl suf (pre ++ [y]) x
  have hlt := Z7 h
  have hws := Zb (show pre.length < l.length by omega) (show l.length ≤ top63 by simp only [top63]; omega)
  have hfm : (pre ++ [y]).flatMap (fun w => [w.whn, w.val]) = pre.flatMap (fun w => [w.whn, w.val]) ++ [y.whn, y.val] := by simp
  have hlen : (pre.flatMap fun w => [w.whn, w.val]).length = 2 * pre.length := by
   clear ih hg hm h hlt hws hfm
   induction pre with
   | nil => rfl
   | cons a r ih => simp at ih ⊢; omega
  rw [hfm] at ih
  generalize pre.flatMap (fun w => [w.whn, w.val]) = F at *
  have hrm : F.length + 1 + 2 ≤ room := by simp only [room]; omega
  simp [Z4w, Ns, hlt, hg, Ww, hrm]
  exact ih _ (by simp [h]) (by simp [hws])
theorem e_readsC (d : Des) (hd : DesOk d) (hv : DesVal d) (n : Int) (r : Rul) (hr : d.rules[n.toNat]? = some r) (h0 : 0 ≤ n) (hn : n < (d.rules.length : Int)) :
  EE π L2 [.p (Zfi d), .p (I n)] [] = some (.ap (1004 :: 41 :: π), [rowL (1004 :: 41 :: π) (rdE d r)]) := by
 have hmem : r ∈ d.rules := List.mem_of_getElem? hr
 have hlp : ∀ x, mask [2, 5, 24, 25, 26] [] x = some ([(2, .ref (2 :: π) 0), (5, .ap (17 :: π)), (24, .p (Z21 r.writes)), (25, .p (I r.writes.length)), (26, .p (I 0))], [(17 :: π, .row false t_int 1 (some false) [I r.guard]), Zf9 (2 :: π) d]) → kpO [2, 5] [4] [] (bkO 0 (iter (round EE iter π [] [2, 5, 24, 25, 26] Nr) x)) = some (.nm, [(2, .ref (2 :: π) 0), (5, .ap (17 :: π))], [(17 :: π, .row false t_int 1 (some false) (ints (Pv r))), Zf9 (2 :: π) d]) :=
  fun x h => rds_loop (π := π) d r.guard r.writes (by have := hd.writes r hmem; omega) r.writes [] x rfl h
 have hu := fun π => e_used (π := π) d hd hv (Pv r) (by rw [Zf2]; have := hd.writes r hmem; omega) (rdFrom_in hv hmem)
 have hlt : n.toNat < d.rules.length := by omega
 have hr' : d.rules[n.toNat] = r := by simpa [hlt] using hr
 unfold rdE
 generalize Pv r = F at *
 simp [Zhb, Z1, Z4t, h0, hn, hlt, hr', Wx, thaw, thaw1]
 rw [hlp _ (by simp)]
 simp [hu, Z4]
theorem wrs_loop (l : List Wrt) (hl : l.length ≤ 1000) : ∀ (suf pre : List Wrt) (x : Env × Sto), l = pre ++ suf →
  mask [5, 14, 15, 16] [] x = some ([(5, .ap (1005 :: π)), (14, .p (Z21 l)), (15, .p (I l.length)), (16, .p (I pre.length))], [rowL (1005 :: π) (pre.map fun w => w.el)]) →
  kpO [5] [4] [] (bkO 0 (iter (round EE iter π [] [5, 14, 15, 16] H9) x)) = some (.nm, [(5, .ap (1005 :: π))], [rowL (1005 :: π) (l.map fun w => w.el)])
 | [], pre, x, h, hm => by
  rw [Z0 hm]
  have : pre = l := by simpa using h.symm
  subst this
  simp [Z2t, Pt]
 | y :: suf, pre, x, h, hm => by
  rw [Z0 hm]
  have hg : l[pre.length]? = some y := by rw [h]; simp
  have ih := fun x => wrs_loop l hl suf (pre ++ [y]) x
  have hlt := Z7 h
  have hws := Zb (show pre.length < l.length by omega) (show l.length ≤ top63 by simp only [top63]; omega)
  have hrm : pre.length + 1 ≤ room := by simp only [room]; omega
  simp [Z2t, Pt, hlt, hg, Ww, hrm]
  exact ih _ (by simp [h]) (by simp [hws, Zc])
theorem e_writesC (d : Des) (hd : DesOk d) (n : Int) (r : Rul) (hr : d.rules[n.toNat]? = some r) (h0 : 0 ≤ n) (hn : n < (d.rules.length : Int)) :
  EE π N8 [.p (Zfi d), .p (I n)] [] = some (.p (.sl 1 (flagE (r.writes.map fun w => w.el)) (ints (wrE r))), []) := by
 have hmem : r ∈ d.rules := List.mem_of_getElem? hr
 have hlp := wrs_loop (π := π) r.writes (by have := hd.writes r hmem; omega) r.writes []
 have hlt : n.toNat < d.rules.length := by omega
 have hr' : d.rules[n.toNat] = r := by simpa [hlt] using hr
 have hwl : (r.writes.map fun w => w.el).length ≤ 1000 := by rw [List.length_map]; have := hd.writes r hmem; omega
 unfold wrE
 simp [Zep, Z1, Z2l, h0, hn, hlt, hr', Wx, thaw, thaw1]
 rw [hlp _ rfl (by simp [flagE])]
 generalize (r.writes.map fun w => w.el) = W at *
 have hro : W.length ≤ room := by simp only [room]; omega
 have hro2 : (sortI W).length ≤ room := by rw [(Yn W).length_eq]; exact hro
 simp [Kj, F4, sortO, Z46, hro, hro2]
@[simp] theorem toPV_dtup {s : Sto} (cs : List AV) : toPV s depth (.tup cs) = (cs.mapM (toPV s 11)).map .tup := rfl
@[simp] theorem toPV_stup {s : Sto} (n : Nat) (cs : List AV) : toPV s (n + 1) (.tup cs) = (cs.mapM (toPV s n)).map .tup := rfl
@[simp] theorem reach_dtup {s : Sto} (cs : List AV) : reach s depth (.tup cs) = cs.flatMap (reach s 11) := rfl
@[simp] theorem reach_stup {s : Sto} (n : Nat) (cs : List AV) : reach s (n + 1) (.tup cs) = cs.flatMap (reach s n) := rfl
@[simp] theorem reach_sagg {s : Sto} (n : Nat) (cs : List AV) : reach s (n + 1) (.agg cs) = cs.flatMap (reach s n) := rfl
theorem rrd_loop (d : Des) (r : Rul) (hl : r.writes.length ≤ 400) : ∀ (suf pre : List Wrt) (x : Env × Sto), r.writes = pre ++ suf →
  mask [2, 5, 6, 7] [] x = some ([(2, .ref (2 :: π) 0), (5, .ref (5 :: π) 0), (6, .ap (18 :: π)), (7, .p (I pre.length))], [(18 :: π, .row false t_int 1 (some false) (ints (r.guard :: pre.flatMap fun w => [w.whn, w.val]))), rulBox (5 :: π) r, Zo (2 :: π) d]) →
  kpO [2, 6] [4] [] (bkO 0 (iter (round EE iter π [] [2, 5, 6, 7] Z4c) x)) = some (.nm, [(2, .ref (2 :: π) 0), (6, .ap (18 :: π))], [(18 :: π, .row false t_int 1 (some false) (ints (Pv r))), Zo (2 :: π) d])
 | [], pre, x, h, hm => by
  rw [Z0 hm]
  have : pre = r.writes := by simpa using h.symm
  subst this
  unfold Pv
  simp [Z8o, Fi]
 | y :: suf, pre, x, h, hm => by
  rw [Z0 hm]
  have hg : r.writes[pre.length]? = some y := by rw [h]; simp
  have ih := fun x => rrd_loop d r hl suf (pre ++ [y]) x
  have hlt := Z7 h
  have hws := Zb (show pre.length < r.writes.length by omega) (show r.writes.length ≤ top63 by simp only [top63]; omega)
  have hfm : (pre ++ [y]).flatMap (fun w => [w.whn, w.val]) = pre.flatMap (fun w => [w.whn, w.val]) ++ [y.whn, y.val] := by simp
  have hlen : (pre.flatMap fun w => [w.whn, w.val]).length = 2 * pre.length := by
   clear ih hg hm h hlt hws hfm
   induction pre with
   | nil => rfl
   | cons a r ih => simp at ih ⊢; omega
  rw [hfm] at ih
  generalize pre.flatMap (fun w => [w.whn, w.val]) = F at *
  have hrm : F.length + 1 + 2 ≤ room := by simp only [room]; omega
  simp [Z8o, Fi, hlt, hg, Ww, hrm, evRO]
  exact ih _ (by simp [h]) (by simp [hws])
theorem rrd_loop2 (d : Des) (hi : d.inputs.length ≤ 1000) (fl : Option Bool) (lv : List Int) (hlv : lv.length ≤ 2000) (hin : ∀ n ∈ lv, 0 ≤ n ∧ n < 3000) : ∀ (suf pre : List Int) (x : Env × Sto), lv = pre ++ suf →
  mask [2, 8, 9, 10] [] x = some ([(2, .ref (2 :: π) 0), (8, .ap (1010 :: 51 :: π)), (9, .ap (1009 :: π)), (10, .p (I pre.length))], [rowL (1009 :: π) (usedE d.inputs.length pre), (1010 :: 51 :: π, .row false t_int 1 fl (ints lv)), Zo (2 :: π) d]) →
  kpO [9] [4] [] (bkO 2 (iter (round EE iter π [] [2, 8, 9, 10] Z4b) x)) = some (.nm, [(9, .ap (1009 :: π))], [rowL (1009 :: π) (usedE d.inputs.length lv)])
 | [], pre, x, h, hm => by
  rw [Z0 hm]
  have : pre = lv := by simpa using h.symm
  subst this
  simp [Z3m, K4]
 | y :: suf, pre, x, h, hm => by
  rw [Z0 hm]
  have hg : lv[pre.length]? = some y := by rw [h]; simp
  have ih := fun x => rrd_loop2 d hi fl lv hlv hin suf (pre ++ [y]) x
  have hlt := Z7 h
  have hltn : pre.length < lv.length := by omega
  have hge : lv[pre.length] = y := by simpa [hltn] using hg
  have hy := hin y (by rw [h]; simp)
  have hws := Zb (show pre.length < lv.length by omega) (show lv.length ≤ top63 by simp only [top63]; omega)
  have hw : IntKind.i64.wrap (y - d.inputs.length) = y - d.inputs.length := w64 ⟨by omega, by omega⟩
  have hul : (usedE d.inputs.length pre).length ≤ pre.length := by unfold usedE; rw [List.length_map]; exact List.length_filter_le _ _
  have hrm : (usedE d.inputs.length pre).length + 1 ≤ room := by simp only [room]; omega
  by_cases hc : (d.inputs.length : Int) ≤ y
  ·have hs : usedE d.inputs.length (pre ++ [y]) = usedE d.inputs.length pre ++ [y - d.inputs.length] := by unfold usedE; simp [hc]
   rw [hs] at ih
   generalize usedE d.inputs.length pre = E at *
   simp [Z3m, K4, hlt, hltn, hg, hge, hc, hw, hrm, evRO]
   exact ih _ (by simp [h]) (by simp [hws, Zc])
  ·have hs : usedE d.inputs.length (pre ++ [y]) = usedE d.inputs.length pre := by unfold usedE; simp [hc]
   rw [hs] at ih
   generalize usedE d.inputs.length pre = E at *
   simp [Z3m, K4, hlt, hltn, hg, hge, hc, evRO]
   exact ih _ (by simp [h]) (by simp [hws])
theorem e_Reads (d : Des) (hd : DesOk d) (hv : DesVal d) (n : Int) (r : Rul) (hr : d.rules[n.toNat]? = some r) (h0 : 0 ≤ n) (hn : n < (d.rules.length : Int)) :
  EE π Z30 [.p (Z5 d), .p (I n)] [] = some (.ap (1009 :: π), [rowL (1009 :: π) (rdE d r)]) := by
 have hmem : r ∈ d.rules := List.mem_of_getElem? hr
 have hlp : ∀ x, mask [2, 5, 6, 7] [] x = some ([(2, .ref (2 :: π) 0), (5, .ref (5 :: π) 0), (6, .ap (18 :: π)), (7, .p (I 0))], [(18 :: π, .row false t_int 1 (some false) [I r.guard]), rulBox (5 :: π) r, Zo (2 :: π) d]) → _ :=
  fun x h => rrd_loop (π := π) d r (hd.writes r hmem) r.writes [] x rfl h
 have hll : (dlv d).length = d.inputs.length + d.elements.length := by simp [dlv]
 have hll2 := hv.ll
 have hL := fun π => Zhe (π := π) (dlv d) d.nodes (by omega) hd.nodes hd.args hv.check (Pv r) (by rw [Zf2]; have := hd.writes r hmem; omega) (rdFrom_in hv hmem)
 have hlp2 := rrd_loop2 (π := π) d hd.inputs (flagE (lvD d (Pv r))) (lvD d (Pv r)) (lvD_len d hd _) (fun n hn => by
  have := lvN_mem hn
  omega) (lvD d (Pv r)) []
 have hlt : n.toNat < d.rules.length := by omega
 have hr' : d.rules[n.toNat] = r := by simpa [hlt] using hr
 have hw : IntKind.i64.wrap ((d.inputs.length : Int) + d.elements.length) = ((dlv d).length : Int) := by rw [hll]; simp; exact w64 ⟨by omega, by omega⟩
 unfold rdE
 unfold lvD at hlp2 ⊢
 generalize Pv r = F at *
 generalize lvN (dlv d).length d.nodes F = R at *
 simp [e_rb_Reads, Z1, Zan, Z5, h0, hn, hlt, hr', Wx, thaw, thaw1]
 rw [hlp _ (by simp)]
 simp [hw, hL, Z4, thaw, thaw1]
 rw [hlp2 _ rfl (by simp [usedE, flagE])]
 simp
def wrUp (l : List Int) : Nat → List Int
 | 0 => []
 | k + 1 => wrUp l k ++ (if (k : Int) ∈ l then [(k : Int)] else [])
theorem Zgk (l : List Int) (n : Int) : ∀ k, n ∈ wrUp l k ↔ n ∈ l ∧ 0 ≤ n ∧ n < (k : Int)
 | 0 => by simp [wrUp]
 | k + 1 => by
  unfold wrUp
  rw [List.mem_append, Zgk l n k]
  by_cases h : (k : Int) ∈ l
  ·simp only [h, if_true, List.mem_singleton]
   constructor
   ·rintro (⟨a, b, c⟩ | rfl)
    ·exact ⟨a, b, by omega⟩
    ·exact ⟨h, by omega, by omega⟩
   ·rintro ⟨a, b, c⟩
    by_cases e : n = k
    ·exact .inr e
    ·exact .inl ⟨a, b, by omega⟩
  ·simp only [h, if_false, List.not_mem_nil, or_false]
   constructor
   ·rintro ⟨a, b, c⟩; exact ⟨a, b, by omega⟩
   ·rintro ⟨a, b, c⟩
    refine ⟨a, b, ?_⟩
    by_cases e : n = k
    ·subst e; exact absurd a h
    ·omega
theorem Zce (l : List Int) : ∀ k, (wrUp l k).Pairwise (· < ·)
 | 0 => by simp [wrUp]
 | k + 1 => by
  unfold wrUp
  rw [List.pairwise_append]
  refine ⟨Zce l k, by split <;> simp, fun a ha b hb => ?_⟩
  have := ((Zgk l a k).1 ha).2.2
  split at hb
  ·simp at hb; omega
  ·simp at hb
theorem Zg8 (l : List Int) : ∀ k, (wrUp l k).length ≤ k
 | 0 => by simp [wrUp]
 | k + 1 => by
  have := Zg8 l k
  unfold wrUp
  rw [List.length_append]
  split <;> simp <;> omega
theorem wrUp_eq (l : List Int) (k : Nat) (hl : ∀ n ∈ l, 0 ≤ n ∧ n < (k : Int)) : wrUp l k = cmpI (sortI l) := by
 refine Zcg (Zce l k) (Z7x _ (Ht l)) fun n => ?_
 rw [Z96, (Yn l).mem_iff, Zgk]
 exact ⟨fun h => h.1, fun h => ⟨h, hl n h⟩⟩
theorem rwr_loop2 (d : Des) (n : Int) (r : Rul) (hwl : r.writes.length ≤ 400) (hr : d.rules[n.toNat]? = some r) (h0 : 0 ≤ n) (hn : n < (d.rules.length : Int)) (k : Nat) (E : List Int) : ∀ (suf pre : List Wrt) (b : Bool) (x : Env × Sto), r.writes = pre ++ suf →
  mask [1, 2, 5, 6, 7, 8] [] x = some ([(1, .p (I n)), (2, .ref (2 :: π) 0), (5, .ap (1005 :: π)), (6, .p (I k)), (7, .p (.bool b)), (8, .p (I pre.length))], [rowL (1005 :: π) E, Zo (2 :: π) d]) →
  kpO [1, 2, 5, 6, 7] [4] [] (bkO 2 (iter (round EE iter π [] [1, 2, 5, 6, 7, 8] Z25) x)) = some (.nm, [(1, .p (I n)), (2, .ref (2 :: π) 0), (5, .ap (1005 :: π)), (6, .p (I k)), (7, .p (.bool (b || decide ((k : Int) ∈ suf.map fun w => w.el))))], [rowL (1005 :: π) E, Zo (2 :: π) d])
 | [], pre, b, x, h, hm => by
  rw [Z0 hm]
  have hlt : n.toNat < d.rules.length := by omega
  have hr' : d.rules[n.toNat] = r := by simpa [hlt] using hr
  have : pre.length = r.writes.length := by rw [h]; simp
  simp [Hb, Uv, hlt, hr', h0, hn, Wx, this]
 | y :: suf, pre, b, x, h, hm => by
  rw [Z0 hm]
  have hlt : n.toNat < d.rules.length := by omega
  have hr' : d.rules[n.toNat] = r := by simpa [hlt] using hr
  have hg : r.writes[pre.length]? = some y := by rw [h]; simp
  have hlt2 := Z7 h
  have hws := Zb (show pre.length < r.writes.length by omega) (show r.writes.length ≤ top63 by simp only [top63]; omega)
  have ih := fun b x => rwr_loop2 d n r hwl hr h0 hn k E suf (pre ++ [y]) b x
  have hmem : decide ((k : Int) ∈ (y :: suf).map fun w => w.el) = (decide (y.el = k) || decide ((k : Int) ∈ suf.map fun w => w.el)) := by
   rw [Bool.eq_iff_iff]; simp only [List.map_cons, List.mem_cons, decide_eq_true_eq, Bool.or_eq_true]; exact or_congr eq_comm Iff.rfl
  rw [hmem]
  generalize decide ((k : Int) ∈ suf.map fun w => w.el) = m at *
  cases b
  ·by_cases hy : y.el = k
   ·simp [Hb, Uv, hlt, hr', h0, hn, Wx, hg, hlt2, Ww, hy]
    refine (ih true _ (by simp [h]) (by simp [hws])).trans (by simp)
   ·simp [Hb, Uv, hlt, hr', h0, hn, Wx, hg, hlt2, Ww, hy]
    refine (ih false _ (by simp [h]) (by simp [hws])).trans (by simp)
  ·simp [Hb, Uv, hlt, hr', h0, hn, Wx, hg, hlt2, Ww]
   refine (ih true _ (by simp [h]) (by simp [hws])).trans (by simp)
theorem rwr_loop (d : Des) (hd : DesOk d) (n : Int) (r : Rul) (hwl : r.writes.length ≤ 400) (hr : d.rules[n.toNat]? = some r) (h0 : 0 ≤ n) (hn : n < (d.rules.length : Int)) : ∀ (s k : Nat) (x : Env × Sto), k + s = d.elements.length →
  mask [1, 2, 5, 6] [] x = some ([(1, .p (I n)), (2, .ref (2 :: π) 0), (5, .ap (1005 :: π)), (6, .p (I k))], [rowL (1005 :: π) (wrUp (r.writes.map fun w => w.el) k), Zo (2 :: π) d]) →
  kpO [5] [4] [] (bkO 0 (iter (round EE iter π [] [1, 2, 5, 6] Z26) x)) = some (.nm, [(5, .ap (1005 :: π))], [rowL (1005 :: π) (wrUp (r.writes.map fun w => w.el) d.elements.length)])
 | 0, k, x, h, hm => by
  rw [Z0 hm]
  have : k = d.elements.length := by omega
  subst this
  simp [Z1x, Nd]
 | s + 1, k, x, h, hm => by
  rw [Z0 hm]
  have he := hd.elements
  have hlt : (k : Int) < d.elements.length := by omega
  have hws := Zb (show k < d.elements.length by omega) (show d.elements.length ≤ top63 by simp only [top63]; omega)
  have ih := fun x => rwr_loop d hd n r hwl hr h0 hn s (k + 1) x (by omega)
  have hin := rwr_loop2 (π := π) d n r hwl hr h0 hn k (wrUp (r.writes.map fun w => w.el) k) r.writes [] false
  have hul := Zg8 (r.writes.map fun w => w.el) k
  have hrm : (wrUp (r.writes.map fun w => w.el) k).length + 1 ≤ room := by simp only [room]; omega
  have hs : wrUp (r.writes.map fun w => w.el) (k + 1) = wrUp (r.writes.map fun w => w.el) k ++ (if (k : Int) ∈ (r.writes.map fun w => w.el) then [(k : Int)] else []) := rfl
  rw [hs] at ih
  generalize wrUp (r.writes.map fun w => w.el) k = E at *
  by_cases hc : (k : Int) ∈ (r.writes.map fun w => w.el)
  ·simp only [hc, decide_true, Bool.or_true] at hin
   simp only [hc, if_true] at ih
   simp [Z1x, Nd, hlt]
   rw [hin _ rfl (by simp)]
   simp [hrm]
   exact ih _ (by simp [hws, Zc])
  ·simp only [hc, decide_false, Bool.or_false] at hin
   simp only [hc, if_false, List.append_nil] at ih
   simp [Z1x, Nd, hlt]
   rw [hin _ rfl (by simp)]
   simp
   exact ih _ (by simp [hws])
theorem wrE_in {d : Des} (hv : DesVal d) {r : Rul} (hr : r ∈ d.rules) : ∀ n ∈ r.writes.map (fun w => w.el), 0 ≤ n ∧ n < (d.elements.length : Int) := fun n hn => by
 obtain ⟨w, hw, rfl⟩ := List.mem_map.1 hn
 have h0 := hv.wrt r hr w hw
 unfold wrtE at h0
 split at h0
 ·contradiction
 ·rename_i h1
  exact (wrtE_1 (Classical.not_not.1 h1)).1
theorem e_Writes (d : Des) (hd : DesOk d) (hv : DesVal d) (n : Int) (r : Rul) (hr : d.rules[n.toNat]? = some r) (h0 : 0 ≤ n) (hn : n < (d.rules.length : Int)) :
  EE π Z04 [.p (Z5 d), .p (I n)] [] = some (.ap (1005 :: π), [rowL (1005 :: π) (wrE r)]) := by
 have hmem : r ∈ d.rules := List.mem_of_getElem? hr
 have hlp := rwr_loop (π := π) d hd n r (hd.writes r hmem) hr h0 hn d.elements.length 0
 unfold wrE
 rw [wrUp_eq _ _ (wrE_in hv hmem)] at hlp
 generalize cmpI (sortI (r.writes.map fun w => w.el)) = W at *
 simp [e_rb_Writes, Z1, Z7z, Z5, thaw, thaw1]
 rw [hlp _ (by simp) (by simp [wrUp, flagE])]
 simp
theorem Lc {α : Type} (f : α → PV) (P : α → Prop) : ∀ l : List PV, (∀ y ∈ l, ∃ a, y = f a ∧ P a) → ∃ k : List α, l = k.map f ∧ ∀ a ∈ k, P a
 | [], _ => ⟨[], rfl, fun a h => by cases h⟩
 | y :: r, h => by
  obtain ⟨a, rfl, ha⟩ := h y List.mem_cons_self
  obtain ⟨k, rfl, hk⟩ := Lc f P r fun z hz => h z (List.mem_cons_of_mem _ hz)
  exact ⟨a :: k, rfl, fun b hb => by
   rcases List.mem_cons.1 hb with rfl | hb
   ·exact ha
   ·exact hk b hb⟩
theorem ok_wf {n : Int} (h : (Go.Lit.int .i64 n).wf = true) : ok64 n := by
 simp only [Go.Lit.wf, Bool.and_eq_true, decide_eq_true_eq] at h
 have h1 : IntKind.i64.min = -9223372036854775808 := by decide
 have h2 : IntKind.i64.max = 9223372036854775807 := by decide
 exact ⟨by omega, by omega⟩
theorem Ld {x : PV} (h : Cel (.int .i64) x) : ∃ n, x = I n ∧ ok64 n := by
 simp only [Cel] at h
 obtain ⟨n, h, h2⟩ := h
 exact ⟨n, h, ok_wf h2⟩
theorem Zhn {x : PV} (h : Cel (.sl 1 false [.int .i64]) x) : ∃ k : List Int, x = Z2 k ∧ k.length ≤ top63 ∧ ∀ n ∈ k, ok64 n := by
 simp only [Cel, CelL] at h
 obtain ⟨l, rfl, hl, h⟩ := h
 obtain ⟨k, rfl, hk⟩ := Lc I ok64 l fun y hy => by
  obtain ⟨⟨x, ys, hc, ⟨n, hx, hn⟩, h0⟩, he⟩ := h y hy
  subst h0
  rw [hc] at he
  exact ⟨n, by rw [he, hx]; rfl, ok_wf hn⟩
 exact ⟨k, rfl, by simpa [Go.maxLen] using hl, hk⟩
abbrev NodOk (x : Nod) : Prop := ok64 x.op ∧ ok64 x.width ∧ ok64 x.value ∧ x.args.length ≤ top63 ∧ ∀ n ∈ x.args, ok64 n
theorem cel_nodes {x : PV} (h : Cel (.sl 4 true [.int .i64, .int .i64, .sl 1 false [.int .i64], .int .i64]) x) : ∃ k : List Nod, x = Z8 k ∧ k.length ≤ top63 ∧ ∀ p ∈ k, NodOk p := by
 rw [Cel] at h
 obtain ⟨l, rfl, hl, h⟩ := h
 obtain ⟨k, rfl, hk⟩ := Lc Ks NodOk l fun y hy => by
  obtain ⟨hc, he⟩ := h y hy
  simp only [CelL] at hc
  obtain ⟨a, r1, h1, ca, b, r2, h2, cb, c, r3, h3, cc, d, r4, h4, cd, h5⟩ := hc
  subst h5 h4 h3 h2
  rw [h1] at he
  obtain ⟨n1, rfl, k1⟩ := Ld ca
  obtain ⟨n2, rfl, k2⟩ := Ld cb
  obtain ⟨ar, rfl, k3, k4⟩ := Zhn cc
  obtain ⟨n4, rfl, k5⟩ := Ld cd
  exact ⟨⟨n1, n2, ar, n4⟩, he, k1, k2, k5, k3, k4⟩
 exact ⟨k, rfl, by simpa [Go.maxLen] using hl, hk⟩
theorem fw_loop0 (d : Des) (hl : d.nodes.length ≤ 1000) : ∀ (suf pre : List Nod) (x : Env × Sto), d.nodes = pre ++ suf → mask [1, 3] [] x = some ([(1, .ref (1 :: π) 0), (3, .p (I pre.length))], [Zo (1 :: π) d]) →
  kpO [1] [2] [] (bkO 0 (iter (round EE iter π [] [1, 3] Z4a) x)) = (if (suf.all fun x => decide (x.args.length ≤ 4)) = true then some (.nm, [(1, .ref (1 :: π) 0)], [Zo (1 :: π) d]) else some (.rt, [(2, .p (.bool false))], []))
 | [], pre, x, h, hm => by
  rw [Z0 hm]
  have : pre.length = d.nodes.length := by rw [h]; simp
  simp [Z3l, K2, this]
 | y :: suf, pre, x, h, hm => by
  rw [Z0 hm]
  have hg : d.nodes[pre.length]? = some y := by rw [h]; simp
  have hlt := Z7 h
  have hws := Zb (show pre.length < d.nodes.length by omega) (show d.nodes.length ≤ top63 by simp only [top63]; omega)
  have ih := fun x => fw_loop0 d hl suf (pre ++ [y]) x
  rw [show ((y :: suf).all fun x => decide (x.args.length ≤ 4)) = (decide (y.args.length ≤ 4) && suf.all fun x => decide (x.args.length ≤ 4)) from rfl]
  generalize suf.all (fun x => decide (x.args.length ≤ 4)) = b at *
  by_cases hy : y.args.length ≤ 4
  ·have hy' : ¬ (4 : Int) < y.args.length := by omega
   simp [Z3l, K2, hlt, hg, hy, hy']
   exact ih _ (by simp [h]) (by simp [hws])
  ·have hy' : (4 : Int) < y.args.length := by omega
   simp [Z3l, K2, hlt, hg, hy, hy']
theorem fw_loop1 (d : Des) (hl : d.rules.length ≤ 1000) : ∀ (suf pre : List Rul) (x : Env × Sto), d.rules = pre ++ suf → mask [1, 4] [] x = some ([(1, .ref (1 :: π) 0), (4, .p (I pre.length))], [Zo (1 :: π) d]) →
  kpO [1] [2] [] (bkO 2 (iter (round EE iter π [] [1, 4] Z49) x)) = (if (suf.all fun x => decide (x.writes.length ≤ 6)) = true then some (.nm, [(1, .ref (1 :: π) 0)], [Zo (1 :: π) d]) else some (.rt, [(2, .p (.bool false))], []))
 | [], pre, x, h, hm => by
  rw [Z0 hm]
  have : pre.length = d.rules.length := by rw [h]; simp
  simp [Z3k, Lz, this]
 | y :: suf, pre, x, h, hm => by
  rw [Z0 hm]
  have hg : d.rules[pre.length]? = some y := by rw [h]; simp
  have hlt := Z7 h
  have hws := Zb (show pre.length < d.rules.length by omega) (show d.rules.length ≤ top63 by simp only [top63]; omega)
  have ih := fun x => fw_loop1 d hl suf (pre ++ [y]) x
  rw [show ((y :: suf).all fun x => decide (x.writes.length ≤ 6)) = (decide (y.writes.length ≤ 6) && suf.all fun x => decide (x.writes.length ≤ 6)) from rfl]
  generalize suf.all (fun x => decide (x.writes.length ≤ 6)) = b at *
  by_cases hy : y.writes.length ≤ 6
  ·have hy' : ¬ (6 : Int) < y.writes.length := by omega
   simp [Z3k, Lz, hlt, hg, Wx, hy, hy']
   exact ih _ (by simp [h]) (by simp [hws])
  ·have hy' : (6 : Int) < y.writes.length := by omega
   simp [Z3k, Lz, hlt, hg, Wx, hy, hy']
theorem fw_loop2 (d : Des) (hl : d.attrs.length ≤ 1000) : ∀ (suf pre : List Atb) (x : Env × Sto), d.attrs = pre ++ suf → mask [1, 5] [] x = some ([(1, .ref (1 :: π) 0), (5, .p (I pre.length))], [Zo (1 :: π) d]) →
  kpO [] [2] [] (bkO 4 (iter (round EE iter π [] [1, 5] Z48) x)) = (if (suf.all fun x => decide (x.rules.length ≤ 8)) = true then some (.nm, [], []) else some (.rt, [(2, .p (.bool false))], []))
 | [], pre, x, h, hm => by
  rw [Z0 hm]
  have : pre.length = d.attrs.length := by rw [h]; simp
  simp [Z3j, Ly, this]
 | y :: suf, pre, x, h, hm => by
  rw [Z0 hm]
  have hg : d.attrs[pre.length]? = some y := by rw [h]; simp
  have hlt := Z7 h
  have hws := Zb (show pre.length < d.attrs.length by omega) (show d.attrs.length ≤ top63 by simp only [top63]; omega)
  have ih := fun x => fw_loop2 d hl suf (pre ++ [y]) x
  rw [show ((y :: suf).all fun x => decide (x.rules.length ≤ 8)) = (decide (y.rules.length ≤ 8) && suf.all fun x => decide (x.rules.length ≤ 8)) from rfl]
  generalize suf.all (fun x => decide (x.rules.length ≤ 8)) = b at *
  by_cases hy : y.rules.length ≤ 8
  ·have hy' : ¬ (8 : Int) < y.rules.length := by omega
   simp [Z3j, Ly, hlt, hg, Px, hy, hy']
   exact ih _ (by simp [h]) (by simp [hws])
  ·have hy' : (8 : Int) < y.rules.length := by omega
   simp [Z3j, Ly, hlt, hg, Px, hy, hy']
def fewS (d : Des) : Bool := decide (d.nodes.length ≤ 30) && decide (d.inputs.length ≤ 8) && decide (d.elements.length ≤ 10) && decide (d.rules.length ≤ 7) && decide (d.outputs.length ≤ 8) && decide (d.attrs.length ≤ 6)
def fewD (d : Des) : Bool := fewS d && ((d.nodes.all fun x => decide (x.args.length ≤ 4)) && ((d.rules.all fun x => decide (x.writes.length ≤ 6)) && (d.attrs.all fun x => decide (x.rules.length ≤ 8))))
theorem Zdq (d : Des) : EE π Z6j [.p (Z5 d)] [] = some (.p (.bool (fewD d)), []) := by
 unfold fewD fewS
 have n0 : (30 : Int) < d.nodes.length ↔ ¬ d.nodes.length ≤ 30 := by omega
 have n1 : (8 : Int) < d.inputs.length ↔ ¬ d.inputs.length ≤ 8 := by omega
 have n2 : (10 : Int) < d.elements.length ↔ ¬ d.elements.length ≤ 10 := by omega
 have n3 : (7 : Int) < d.rules.length ↔ ¬ d.rules.length ≤ 7 := by omega
 have n4 : (8 : Int) < d.outputs.length ↔ ¬ d.outputs.length ≤ 8 := by omega
 have n5 : (6 : Int) < d.attrs.length ↔ ¬ d.attrs.length ≤ 6 := by omega
 by_cases h0 : d.nodes.length ≤ 30
 ·by_cases h1 : d.inputs.length ≤ 8
  ·by_cases h2 : d.elements.length ≤ 10
   ·by_cases h3 : d.rules.length ≤ 7
    ·by_cases h4 : d.outputs.length ≤ 8
     ·by_cases h5 : d.attrs.length ≤ 6
      ·have l0 := fw_loop0 (π := π) d (by omega) d.nodes []
       have l1 := fw_loop1 (π := π) d (by omega) d.rules []
       have l2 := fw_loop2 (π := π) d (by omega) d.attrs []
       simp [Ku, Z1, Pp, Z5, n0, n1, n2, n3, n4, n5, h0, h1, h2, h3, h4, h5]
       rw [l0 _ rfl (by simp)]
       generalize (d.nodes.all fun x => decide (x.args.length ≤ 4)) = b0
       cases b0
       ·simp
       ·simp
        rw [l1 _ rfl (by simp)]
        generalize (d.rules.all fun x => decide (x.writes.length ≤ 6)) = b1
        cases b1
        ·simp
        ·simp
         rw [l2 _ rfl (by simp)]
         generalize (d.attrs.all fun x => decide (x.rules.length ≤ 8)) = b2
         cases b2 <;> simp
      ·simp [Ku, Z1, Pp, Z5, n0, n1, n2, n3, n4, n5, h0, h1, h2, h3, h4, h5]
     ·simp [Ku, Z1, Pp, Z5, n0, n1, n2, n3, n4, n5, h0, h1, h2, h3, h4]
    ·simp [Ku, Z1, Pp, Z5, n0, n1, n2, n3, n4, n5, h0, h1, h2, h3]
   ·simp [Ku, Z1, Pp, Z5, n0, n1, n2, n3, n4, n5, h0, h1, h2]
  ·simp [Ku, Z1, Pp, Z5, n0, n1, n2, n3, n4, n5, h0, h1]
 ·simp [Ku, Z1, Pp, Z5, n0, n1, n2, n3, n4, n5, h0]
theorem e_RuleErr (d : Des) (hd : d.rules.length ≤ 1000) (r : Int) : EE π Hd [.p (Z5 d), .p (I r)] [] = some (.p (I (F3 d r)), []) := by
 have hw : IntKind.i64.wrap ((d.rules.length : Int) - 1) = (d.rules.length : Int) - 1 := w64 ⟨by omega, by omega⟩
 unfold F3
 cases h : Z6 r 0 ((d.rules.length : Int) - 1) <;> simp [Zeh, Z1, Z22, Z5, hw, W6, h, unlE]
structure DesIn (d : Des) : Prop where
 name : okS d.name
 inN : ∀ p ∈ d.inputs, okS p.name
 elN : ∀ p ∈ d.elements, okS p.name
 ruN : ∀ p ∈ d.rules, okS p.name
 ouN : ∀ p ∈ d.outputs, okS p.name
theorem Zds {d : Des} (h : DesIn d) (hf : fewD d = true) : DesOk d := by
 unfold fewD fewS at hf
 simp only [Bool.and_eq_true, decide_eq_true_eq, List.all_eq_true] at hf
 obtain ⟨⟨⟨⟨⟨⟨h0, h1⟩, h2⟩, h3⟩, h4⟩, h5⟩, h6, h7, h8⟩ := hf
 exact ⟨h.name, by omega, by omega, by omega, by omega, by omega, by omega, h.inN, h.elN, h.ruN, h.ouN, fun x hx => by have := h6 x hx; omega, fun x hx => by have := h7 x hx; omega, fun x hx => by have := h8 x hx; omega⟩
theorem Zdv {x : PV} (h : Cel .str x) : ∃ s, x = .str s ∧ okS s := by
 simp only [Cel] at h
 obtain ⟨s, h, h2⟩ := h
 exact ⟨s, h, by simpa [okS, Go.maxLen, top63] using Nat.le_trans h2 (by simp [Go.maxLen])⟩
theorem cel_prts {x : PV} (h : Cel (.sl 2 true [.str, .int .i64]) x) : ∃ k : List Prt, x = X7 k ∧ ∀ p ∈ k, okS p.name := by
 rw [Cel] at h
 obtain ⟨l, rfl, hl, h⟩ := h
 obtain ⟨k, rfl, hk⟩ := Lc Wy (fun p => okS p.name) l fun y hy => by
  obtain ⟨hc, he⟩ := h y hy
  simp only [CelL] at hc
  obtain ⟨a, r1, h1, ca, b, r2, h2, cb, h5⟩ := hc
  subst h5 h2
  rw [h1] at he
  obtain ⟨s, rfl, ks⟩ := Zdv ca
  obtain ⟨n2, rfl, k2⟩ := Ld cb
  exact ⟨⟨s, n2⟩, he, ks⟩
 exact ⟨k, rfl, hk⟩
theorem cel_otps {x : PV} (h : Cel (.sl 2 true [.str, .int .i64]) x) : ∃ k : List Otp, x = Vh k ∧ ∀ p ∈ k, okS p.name := by
 rw [Cel] at h
 obtain ⟨l, rfl, hl, h⟩ := h
 obtain ⟨k, rfl, hk⟩ := Lc Un (fun p => okS p.name) l fun y hy => by
  obtain ⟨hc, he⟩ := h y hy
  simp only [CelL] at hc
  obtain ⟨a, r1, h1, ca, b, r2, h2, cb, h5⟩ := hc
  subst h5 h2
  rw [h1] at he
  obtain ⟨s, rfl, ks⟩ := Zdv ca
  obtain ⟨n2, rfl, k2⟩ := Ld cb
  exact ⟨⟨s, n2⟩, he, ks⟩
 exact ⟨k, rfl, hk⟩
theorem cel_elms {x : PV} (h : Cel (.sl 5 true [.str, .int .i64, .int .i64, .int .i64, .int .i64]) x) : ∃ k : List Elm, x = Xd k ∧ ∀ p ∈ k, okS p.name := by
 rw [Cel] at h
 obtain ⟨l, rfl, hl, h⟩ := h
 obtain ⟨k, rfl, hk⟩ := Lc Zr (fun p => okS p.name) l fun y hy => by
  obtain ⟨hc, he⟩ := h y hy
  simp only [CelL] at hc
  obtain ⟨a, r1, h1, ca, b, r2, h2, cb, c, r3, h3, cc, d, r4, h4, cd, e, r5, h5, ce, h6⟩ := hc
  subst h6 h5 h4 h3 h2
  rw [h1] at he
  obtain ⟨s, rfl, ks⟩ := Zdv ca
  obtain ⟨n2, rfl, _⟩ := Ld cb
  obtain ⟨n3, rfl, _⟩ := Ld cc
  obtain ⟨n4, rfl, _⟩ := Ld cd
  obtain ⟨n5, rfl, _⟩ := Ld ce
  exact ⟨⟨s, n2, n3, n4, n5⟩, he, ks⟩
 exact ⟨k, rfl, hk⟩
theorem cel_wrts {x : PV} (h : Cel (.sl 3 true [.int .i64, .int .i64, .int .i64]) x) : ∃ k : List Wrt, x = Z21 k := by
 rw [Cel] at h
 obtain ⟨l, rfl, hl, h⟩ := h
 obtain ⟨k, rfl, hk⟩ := Lc Ww (fun _ => True) l fun y hy => by
  obtain ⟨hc, he⟩ := h y hy
  simp only [CelL] at hc
  obtain ⟨a, r1, h1, ca, b, r2, h2, cb, c, r3, h3, cc, h6⟩ := hc
  subst h6 h3 h2
  rw [h1] at he
  obtain ⟨n1, rfl, _⟩ := Ld ca
  obtain ⟨n2, rfl, _⟩ := Ld cb
  obtain ⟨n3, rfl, _⟩ := Ld cc
  exact ⟨⟨n1, n2, n3⟩, he, trivial⟩
 exact ⟨k, rfl⟩
theorem cel_ruls {x : PV} (h : Cel (.sl 3 true [.str, .int .i64, .sl 3 true [.int .i64, .int .i64, .int .i64]]) x) : ∃ k : List Rul, x = Uz k ∧ ∀ p ∈ k, okS p.name := by
 rw [Cel] at h
 obtain ⟨l, rfl, hl, h⟩ := h
 obtain ⟨k, rfl, hk⟩ := Lc Wx (fun p => okS p.name) l fun y hy => by
  obtain ⟨hc, he⟩ := h y hy
  rw [CelL] at hc
  obtain ⟨a, r1, h1, ca, hc⟩ := hc
  rw [CelL] at hc
  obtain ⟨b, r2, rfl, cb, hc⟩ := hc
  rw [CelL] at hc
  obtain ⟨c, r3, rfl, cc, hc⟩ := hc
  rw [CelL] at hc
  subst hc
  rw [h1] at he
  obtain ⟨s, rfl, ks⟩ := Zdv ca
  obtain ⟨n2, rfl, _⟩ := Ld cb
  obtain ⟨w, rfl⟩ := cel_wrts cc
  exact ⟨⟨s, n2, w⟩, he, ks⟩
 exact ⟨k, rfl, hk⟩
theorem cel_atbs {x : PV} (h : Cel (.sl 2 true [.int .i64, .sl 1 false [.int .i64]]) x) : ∃ k : List Atb, x = Q0 k := by
 rw [Cel] at h
 obtain ⟨l, rfl, hl, h⟩ := h
 obtain ⟨k, rfl, hk⟩ := Lc Px (fun _ => True) l fun y hy => by
  obtain ⟨hc, he⟩ := h y hy
  rw [CelL] at hc
  obtain ⟨a, r1, h1, ca, hc⟩ := hc
  rw [CelL] at hc
  obtain ⟨b, r2, rfl, cb, hc⟩ := hc
  rw [CelL] at hc
  subst hc
  rw [h1] at he
  obtain ⟨n2, rfl, _⟩ := Ld ca
  obtain ⟨w, rfl, _⟩ := Zhn cb
  exact ⟨⟨n2, w⟩, he, trivial⟩
 exact ⟨k, rfl⟩
theorem cel_des {x : List PV} (h : CelL [.str, .sl 2 true [.str, .int .i64], .sl 5 true [.str, .int .i64, .int .i64, .int .i64, .int .i64], .sl 4 true [.int .i64, .int .i64, .sl 1 false [.int .i64], .int .i64], .sl 3 true [.str, .int .i64, .sl 3 true [.int .i64, .int .i64, .int .i64]], .sl 2 true [.str, .int .i64], .sl 2 true [.int .i64, .sl 1 false [.int .i64]]] x) : ∃ d : Des, x = Yd d ∧ DesIn d := by
 rw [CelL] at h
 obtain ⟨a, r1, rfl, ca, h⟩ := h
 rw [CelL] at h
 obtain ⟨b, r2, rfl, cb, h⟩ := h
 rw [CelL] at h
 obtain ⟨c, r3, rfl, cc, h⟩ := h
 rw [CelL] at h
 obtain ⟨n, r4, rfl, cn, h⟩ := h
 rw [CelL] at h
 obtain ⟨r, r5, rfl, cr, h⟩ := h
 rw [CelL] at h
 obtain ⟨o, r6, rfl, co, h⟩ := h
 rw [CelL] at h
 obtain ⟨t, r7, rfl, ct, h⟩ := h
 rw [CelL] at h
 subst h
 obtain ⟨s, rfl, k0⟩ := Zdv ca
 obtain ⟨ins, rfl, k1⟩ := cel_prts cb
 obtain ⟨els, rfl, k2⟩ := cel_elms cc
 obtain ⟨nds, rfl, _⟩ := cel_nodes cn
 obtain ⟨rls, rfl, k3⟩ := cel_ruls cr
 obtain ⟨ots, rfl, k4⟩ := cel_otps co
 obtain ⟨ats, rfl⟩ := cel_atbs ct
 exact ⟨⟨s, ins, els, nds, rls, ots, ats⟩, rfl, k0, k1, k2, k3, k4⟩
abbrev Zeb (π : Id) : Prop := EE π Hx [] [] = some (.p (.bool true), [])
theorem rdE_len (d : Des) (hd : DesOk d) (r : Rul) : (rdE d r).length ≤ 2000 := by
 have := lvD_len d hd (Pv r)
 have h2 : (rdE d r).length ≤ (lvD d (Pv r)).length := by unfold rdE usedE; rw [List.length_map]; exact List.length_filter_le _ _
 omega
theorem Zg9 {d : Des} (hd : DesOk d) (hv : DesVal d) {r : Rul} (hr : r ∈ d.rules) : (wrE r).length ≤ 1000 := by
 unfold wrE
 rw [← wrUp_eq _ _ (wrE_in hv hr)]
 have := Zg8 (r.writes.map fun w => w.el) d.elements.length
 have := hd.elements
 omega
end Go.Proofs.YteecfnfjlclhdaaGreat.V
