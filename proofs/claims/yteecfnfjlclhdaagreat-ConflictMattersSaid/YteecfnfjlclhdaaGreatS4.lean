/- Chapter 16: a design is opened. What rules read and write, by the program. What rules read and write, by the program: ReadsOf, WritesOf. ReadsOf and WritesOf; what rules read and write, by the reference. What rules read, by the reference. What rules write, by the reference; small designs. The argume -/
import Derived.Test.YteecfnfjlclhdaaGreatS3
import Derived.Test.YteecfnfjlclhdaaGreatK5
import Derived.Test.YteecfnfjlclhdaaGreatS1

set_option linter.unusedSimpArgs false
set_option linter.unusedVariables false

/- Chapter 16: a design is opened. -/
namespace Go.Proofs.YteecfnfjlclhdaaGreat.V
open Go (IntKind BinOp UnOp)
variable {π : Id}
abbrev Z61 (d : Des) : List PV := [.str d.name, Xn d.inputs, W0 d.elements, Za d.nodes, Ls d.rules, Us d.outputs, Lt d.attrs, Z1 (dlv d)]
abbrev Z6x (d : Des) : PV := .agg (Z61 d)
def Px (d : Des) (r : Int) : Int := unlE (Z8 r 0 ((d.rules.length : Int) - 1)) 6
theorem e_ruleErrC (d : Des) (hd : d.rules.length ≤ 1000) (r : Int) : EE π Qx [.p (Z6x d), .p (I r)] [] = some (.p (I (Px d r)), []) := by
 have hw : IntKind.i64.wrap ((d.rules.length : Int) - 1) = (d.rules.length : Int) - 1 := w64 ⟨by omega, by omega⟩
 simp [Zdy, Z0, Z0l, hw, e_withinC, Ua, Px]
theorem e_open1 (d : Des) (hd : d.rules.length ≤ 1000) (i r : Int) : EE π Z00 [.p (I i), .p (I r), .p (.ptr (Z61 d))] [] = some (.p (I (Px d r)), []) := by
 have h := fun π => e_ruleErrC (π := π) d hd r
 simp [e_cf_open_1, Z0, Z84, h]
theorem Zg8 (l : List Int) (hl : l.length ≤ top63) {f : Nat} {caps : List PV} {err : Nat → Int → Int} (hp : ∀ (i : Nat) x, l[i]? = some x → EE (19 :: π) f (.p (I i) :: .p (I x) :: caps.map fun v => AV.p v.fg) [] = some (.p (I (err i x)), [])) :
  ∀ (suf pre : List Int) (x : Env × Sto), l = pre ++ suf → mask [1, 9, 10, 11] [] x = some ([(1, .p (.fn f caps)), (9, .p (Z1 l)), (10, .p (I l.length)), (11, .p (I pre.length))], []) →
  kpO [] [4, 5] [] (bkO 0 (iter (round EE iter π [] [1, 9, 10, 11] F8) x)) = (if (eachE err pre.length suf).2 = 0 then some (.nm, [], []) else some (.rt, [(4, .p (I (eachE err pre.length suf).1)), (5, .p (I (eachE err pre.length suf).2))], []))
 | [], pre, x, h, hm => by
  rw [Z3 hm]
  subst h
  simp [Gt, Uj, eachE]
 | y :: suf, pre, x, h, hm => by
  rw [Z3 hm]
  have hy := hp pre.length y (by rw [h]; simp)
  by_cases hpy : err pre.length y = 0
  ·simp [Gt, Uj, Zc h, Y3 _ h, hy, hpy, eachE]
   rw [show pre.length + 1 = (pre ++ [y]).length by simp]
   exact Zg8 l hl hp suf (pre ++ [y]) _ (by simp [h]) (by simp [Zf (show pre.length < l.length by have := Zc h; omega) hl])
  ·simp [Gt, Uj, Zc h, Y3 _ h, hy, hpy, eachE]
theorem e_eachC (l : List Int) (hl : l.length ≤ top63) {f : Nat} {caps : List PV} {err : Nat → Int → Int} (hp : ∀ (i : Nat) x, l[i]? = some x → EE (19 :: π) f (.p (I i) :: .p (I x) :: caps.map fun v => AV.p v.fg) [] = some (.p (I (err i x)), [])) :
  EE π Ph [.p (Z1 l), .p (.fn f caps)] [] = some (.p (.tup [I (eachE err 0 l).1, I (eachE err 0 l).2]), []) := by
 simp [Zhy, Z0, Z4d]
 rw [Zg8 l hl hp l [] _ rfl (by simp)]
 by_cases hf : (eachE err 0 l).2 = 0
 ·have h1 : (eachE err 0 l).1 = 0 := Z58 err 0 l hf
  simp [hf, h1]
 ·simp [hf]
abbrev opBox (π : Id) (d : Des) : Id × Blk := (8 :: π, .box false [.p (.str d.name), .p (Xn d.inputs), .p (W0 d.elements), .p (Za d.nodes), .p (Ls d.rules), .p (Us d.outputs), .p (Lt d.attrs), .ap (800008 :: π)])
abbrev opZ (π : Id) : Id × Blk := (4 :: π, .box false [.p (.str ⟨#[]⟩), .p (.sl 2 (some true) []), .p (.sl 5 (some true) []), .p (.sl 4 (some true) []), .p (.sl 3 (some true) []), .p (.sl 2 (some true) []), .p (.sl 2 (some true) []), .p (.sl 1 (some true) [])])
theorem opn_loop1 (d : Des) (hd : DesOk d) (rs : PV) (e : Int) : ∀ (suf pre : List Prt) (x : Env × Sto), d.inputs = pre ++ suf →
  mask [1, 2, 4, 7, 8, 21, 22, 23] [] x = some ([(1, .p rs), (2, .ref (2 :: π) 0), (4, .ref (4 :: π) 0), (7, .p (I e)), (8, .ref (8 :: π) 0), (21, .p (Xn d.inputs)), (22, .p (I d.inputs.length)), (23, .p (I pre.length))], [rowL (800008 :: π) (pre.map fun p => p.width), opBox π d, opZ π, Y7 (2 :: π) d]) →
  kpO [1, 2, 4, 7, 8] [4, 5] [] (bkO 0 (iter (round EE iter π [] [1, 2, 4, 7, 8, 21, 22, 23] Z5x) x)) = some (.nm, [(1, .p rs), (2, .ref (2 :: π) 0), (4, .ref (4 :: π) 0), (7, .p (I e)), (8, .ref (8 :: π) 0)], [rowL (800008 :: π) (d.inputs.map fun p => p.width), opBox π d, opZ π, Y7 (2 :: π) d])
 | [], pre, x, h, hm => by
  rw [Z3 hm]
  have : pre = d.inputs := by simpa using h.symm
  subst this
  simp [Zbd, Z1j]
 | y :: suf, pre, x, h, hm => by
  rw [Z3 hm]
  have hg : d.inputs[pre.length]? = some y := by rw [h]; simp
  have ih := fun x => opn_loop1 d hd rs e suf (pre ++ [y]) x
  have hlt := Zc h
  have hi := hd.inputs
  have hws := Zf (show pre.length < d.inputs.length by omega) (show d.inputs.length ≤ top63 by simp only [top63]; omega)
  have hrm : pre.length + 1 ≤ room := by simp only [room]; omega
  simp [Zbd, Z1j, hlt, hg, Wt, hrm]
  exact ih _ (by simp [h]) (by simp [hws, Yj])
theorem opn_loop2 (d : Des) (hd : DesOk d) (rs : PV) (e : Int) : ∀ (suf pre : List Elm) (x : Env × Sto), d.elements = pre ++ suf →
  mask [1, 4, 7, 8, 36, 37, 38] [] x = some ([(1, .p rs), (4, .ref (4 :: π) 0), (7, .p (I e)), (8, .ref (8 :: π) 0), (36, .p (W0 d.elements)), (37, .p (I d.elements.length)), (38, .p (I pre.length))], [rowL (800008 :: π) (d.inputs.map (fun p => p.width) ++ pre.map fun p => p.width), opBox π d, opZ π]) →
  kpO [1, 4, 7, 8] [4, 5] [] (bkO 2 (iter (round EE iter π [] [1, 4, 7, 8, 36, 37, 38] Z5w) x)) = some (.nm, [(1, .p rs), (4, .ref (4 :: π) 0), (7, .p (I e)), (8, .ref (8 :: π) 0)], [rowL (800008 :: π) (dlv d), opBox π d, opZ π])
 | [], pre, x, h, hm => by
  rw [Z3 hm]
  have : pre = d.elements := by simpa using h.symm
  subst this
  simp [Zbc, Z1i, dlv]
 | y :: suf, pre, x, h, hm => by
  rw [Z3 hm]
  have hg : d.elements[pre.length]? = some y := by rw [h]; simp
  have ih := fun x => opn_loop2 d hd rs e suf (pre ++ [y]) x
  have hlt := Zc h
  have hi := hd.inputs
  have hi' := hd.elements
  have hws := Zf (show pre.length < d.elements.length by omega) (show d.elements.length ≤ top63 by simp only [top63]; omega)
  have hrm : d.inputs.length + pre.length + 1 ≤ room := by simp only [room]; omega
  have hfl : flagE (d.inputs.map (fun p => p.width) ++ (pre.map (fun p => p.width) ++ [y.width])) = some false := by rw [← List.append_assoc]; exact Yj _ _
  simp [Zbc, Z1i, hlt, hg, Zu, hrm]
  exact ih _ (by simp [h]) (by simp [hws, hfl])
def opE (d : Des) (rules : List Int) : Int := if (desE d).2 = 0 then (eachE (fun _ r => Px d r) 0 rules).2 else (desE d).2
abbrev netA (π : Id) (d : Des) : AV := .agg [.p (.str d.name), .p (Xn d.inputs), .p (W0 d.elements), .p (Za d.nodes), .p (Ls d.rules), .p (Us d.outputs), .p (Lt d.attrs), .ap (800008 :: π)]
theorem e_openC (d : Des) (hd : DesOk d) (rules : List Int) (hr : rules.length ≤ 1000) : EE π Z2v [.p (Z5 d), .p (Z1 rules)] [] = some (.tup [netA π d, .p (I (opE d rules))], [rowL (800008 :: π) (dlv d)]) := by
 have hc := fun π => e_CkD (π := π) d hd
 have hea := fun π => e_eachC (π := π) rules (by simp only [top63]; omega) (f := Z00) (caps := [.ptr [.str d.name, Xn d.inputs, W0 d.elements, Za d.nodes, Ls d.rules, Us d.outputs, Lt d.attrs, Z1 (dlv d)]]) (err := fun _ r => Px d r) (fun i x _ => by simpa using e_open1 d hd.rules _ x)
 have h1 := opn_loop1 (π := π) d hd (Z1 rules) (desE d).2 d.inputs []
 have h2 := opn_loop2 (π := π) d hd (Z1 rules) (desE d).2 d.elements []
 unfold opE
 unfold Z5 at hc
 generalize eachE (fun _ r => Px d r) 0 rules = R at *
 generalize desE d = D at *
 simp [e_cf_open, Z0, Zem, Z5, hc, thaw, thaw1]
 rw [h1 _ rfl (by simp [flagE])]
 simp [thaw, thaw1]
 rw [h2 _ rfl (by simp)]
 by_cases h0 : D.2 = 0
 ·simp [h0, hea, Z4]
 ·simp [h0]
structure DesVal (d : Des) : Prop where
 check : (X8 (dlv d) d.nodes).2 = 0
 guard : ∀ r ∈ d.rules, Qz d.nodes r.guard = true
 wrt : ∀ r ∈ d.rules, ∀ w ∈ r.writes, wrtE d.elements d.nodes w = 0
 rl : d.rules.length ≤ 16
 ll : d.inputs.length + d.elements.length ≤ 40
theorem Lq {x : Int × Int} {r : List (Int × Int)} (h : (X7 (x :: r)).2 = 0) : x.2 = 0 ∧ (X7 r).2 = 0 := by
 rw [P0] at h
 split at h
 ·exact ⟨by assumption, h⟩
 ·exact absurd h (by assumption)
theorem Z9e {d : Des} (h : (desE d).2 = 0) : DesVal d := by
 unfold desE Zct at h
 obtain ⟨_, h⟩ := Lq h
 obtain ⟨_, h⟩ := Lq h
 obtain ⟨h3, h⟩ := Lq h
 obtain ⟨_, h⟩ := Lq h
 obtain ⟨h5, h⟩ := Lq h
 obtain ⟨h6, h⟩ := Lq h
 obtain ⟨h7, h⟩ := Lq h
 have hr : ∀ r ∈ d.rules, Qz d.nodes r.guard = true ∧ ∀ w ∈ r.writes, wrtE d.elements d.nodes w = 0 := fun r hr => by
  obtain ⟨K, hK⟩ := Z56 _ _ _ _ _ h7 r hr
  unfold rulE at hK
  obtain ⟨k1, k2⟩ := (Zp _ _).1 hK
  obtain ⟨k2, _⟩ := (Zp _ _).1 k2
  obtain ⟨_, k3⟩ := (Zp _ _).1 k1
  obtain ⟨k3, _⟩ := (Zp _ _).1 k3
  refine ⟨(Qc (by decide)).1 k3, fun w hw => ?_⟩
  obtain ⟨j, hj⟩ := eachE_mem _ _ _ k2 w hw
  exact hj
 refine ⟨h5, fun r h => (hr r h).1, fun r h => (hr r h).2, ?_, ?_⟩
 ·have := (Qc (by decide)).1 h6
  simp at this; omega
 ·have := (Qc (by decide)).1 h3
  simp at this; omega
def Va (r : Rul) : List Int := r.guard :: r.writes.flatMap fun w => [w.whn, w.val]
def usedE (ni : Nat) (l : List Int) : List Int := (l.filter fun n => decide ((ni : Int) ≤ n)).map fun n => n - ni
abbrev lvD (d : Des) (fr : List Int) : List Int := lvN (dlv d).length d.nodes fr
def rdE (d : Des) (r : Rul) : List Int := usedE d.inputs.length (lvD d (Va r))
def wrE (r : Rul) : List Int := cmpI (sortI (r.writes.map fun w => w.el))
theorem lvN_mem {k : Nat} {nodes : List Nod} {fr : List Int} {n : Int} (h : n ∈ lvN k nodes fr) : 0 ≤ n ∧ n < (k : Int) := by
 unfold lvN isLv at h
 obtain ⟨j, hj, rfl, _⟩ := (Z8s _ _ _).1 h
 rw [Yy, List.length_replicate] at hj
 omega
theorem Z2i {d : Des} (hv : DesVal d) {r : Rul} (hr : r ∈ d.rules) : ∀ n ∈ Va r, 0 ≤ n ∧ n < (d.nodes.length : Int) := fun n hn => by
 unfold Va at hn
 have hc : ∀ {m : Int}, Qz d.nodes m = true → 0 ≤ m ∧ m < (d.nodes.length : Int) := fun {m} h => by
  unfold Qz at h
  rw [Bool.and_eq_true] at h
  exact Hc.1 h.1
 rcases List.mem_cons.1 hn with rfl | hn
 ·exact hc (hv.guard r hr)
 ·obtain ⟨w, hw, hn⟩ := List.mem_flatMap.1 hn
  have h0 := hv.wrt r hr w hw
  unfold wrtE at h0
  split at h0
  ·contradiction
  ·rename_i h1
   obtain ⟨_, h2, h3⟩ := wrtE_1 (Classical.not_not.1 h1)
   simp at hn
   rcases hn with rfl | rfl
   ·exact hc h2
   ·exact h3
theorem rdFrom_len (r : Rul) : (Va r).length = 1 + 2 * r.writes.length := by
 unfold Va
 induction r.writes with
 | nil => rfl
 | cons a l ih => simp at ih ⊢; omega
theorem Z9t : ∀ (l : List Bool) (i : Nat), (trues i l).length ≤ l.length
 | [], _ => by simp [trues]
 | b :: r, i => by
  have := Z9t r (i + 1)
  rw [trues]; split <;> simp <;> omega
theorem lvD_len (d : Des) (hd : DesOk d) (fr : List Int) : (lvD d fr).length ≤ 2000 := by
 have h := Z9t (isLv (dlv d).length d.nodes fr) 0
 have hl : (isLv (dlv d).length d.nodes fr).length = (dlv d).length := by unfold isLv; rw [Yy]; simp
 have hk : (dlv d).length ≤ 2000 := by have := hd.inputs; have := hd.elements; simp [dlv]; omega
 unfold lvD lvN
 omega
@[simp] theorem toPV_dtup {s : Sto} (cs : List AV) : toPV s depth (.tup cs) = (cs.mapM (toPV s 11)).map .tup := rfl
@[simp] theorem toPV_stup {s : Sto} (n : Nat) (cs : List AV) : toPV s (n + 1) (.tup cs) = (cs.mapM (toPV s n)).map .tup := rfl
@[simp] theorem reach_dtup {s : Sto} (cs : List AV) : reach s depth (.tup cs) = cs.flatMap (reach s 11) := rfl
@[simp] theorem reach_stup {s : Sto} (n : Nat) (cs : List AV) : reach s (n + 1) (.tup cs) = cs.flatMap (reach s n) := rfl
@[simp] theorem reach_sagg {s : Sto} (n : Nat) (cs : List AV) : reach s (n + 1) (.agg cs) = cs.flatMap (reach s n) := rfl
theorem rrd_loop (d : Des) (r : Rul) (hl : r.writes.length ≤ 400) : ∀ (suf pre : List Wrt) (x : Env × Sto), r.writes = pre ++ suf →
  mask [2, 5, 6, 7] [] x = some ([(2, .ref (2 :: π) 0), (5, .ref (5 :: π) 0), (6, .ap (18 :: π)), (7, .p (I pre.length))], [(18 :: π, .row false t_int 1 (some false) (ints (r.guard :: pre.flatMap fun w => [w.whn, w.val]))), rulBox (5 :: π) r, Y7 (2 :: π) d]) →
  kpO [2, 6] [4] [] (bkO 0 (iter (round EE iter π [] [2, 5, 6, 7] Z3t) x)) = some (.nm, [(2, .ref (2 :: π) 0), (6, .ap (18 :: π))], [(18 :: π, .row false t_int 1 (some false) (ints (Va r))), Y7 (2 :: π) d])
 | [], pre, x, h, hm => by
  rw [Z3 hm]
  have : pre = r.writes := by simpa using h.symm
  subst this
  unfold Va
  simp [Z89, Fo]
 | y :: suf, pre, x, h, hm => by
  rw [Z3 hm]
  have hg : r.writes[pre.length]? = some y := by rw [h]; simp
  have ih := fun x => rrd_loop d r hl suf (pre ++ [y]) x
  have hlt := Zc h
  have hws := Zf (show pre.length < r.writes.length by omega) (show r.writes.length ≤ top63 by simp only [top63]; omega)
  have hfm : (pre ++ [y]).flatMap (fun w => [w.whn, w.val]) = pre.flatMap (fun w => [w.whn, w.val]) ++ [y.whn, y.val] := by simp
  have hlen : (pre.flatMap fun w => [w.whn, w.val]).length = 2 * pre.length := by
   clear ih hg hm h hlt hws hfm
   induction pre with
   | nil => rfl
   | cons a r ih => simp at ih ⊢; omega
  rw [hfm] at ih
  generalize pre.flatMap (fun w => [w.whn, w.val]) = F at *
  have hrm : F.length + 1 + 2 ≤ room := by simp only [room]; omega
  simp [Z89, Fo, hlt, hg, W9, hrm, evRO]
  exact ih _ (by simp [h]) (by simp [hws])
theorem rrd_loop2 (d : Des) (hi : d.inputs.length ≤ 1000) (fl : Option Bool) (lv : List Int) (hlv : lv.length ≤ 2000) (hin : ∀ n ∈ lv, 0 ≤ n ∧ n < 3000) : ∀ (suf pre : List Int) (x : Env × Sto), lv = pre ++ suf →
  mask [2, 8, 9, 10] [] x = some ([(2, .ref (2 :: π) 0), (8, .ap (1010 :: 51 :: π)), (9, .ap (1009 :: π)), (10, .p (I pre.length))], [rowL (1009 :: π) (usedE d.inputs.length pre), (1010 :: 51 :: π, .row false t_int 1 fl (ints lv)), Y7 (2 :: π) d]) →
  kpO [9] [4] [] (bkO 2 (iter (round EE iter π [] [2, 8, 9, 10] Z3s) x)) = some (.nm, [(9, .ap (1009 :: π))], [rowL (1009 :: π) (usedE d.inputs.length lv)])
 | [], pre, x, h, hm => by
  rw [Z3 hm]
  have : pre = lv := by simpa using h.symm
  subst this
  simp [Z35, Kk]
 | y :: suf, pre, x, h, hm => by
  rw [Z3 hm]
  have hg : lv[pre.length]? = some y := by rw [h]; simp
  have ih := fun x => rrd_loop2 d hi fl lv hlv hin suf (pre ++ [y]) x
  have hlt := Zc h
  have hltn : pre.length < lv.length := by omega
  have hge : lv[pre.length] = y := by simpa [hltn] using hg
  have hy := hin y (by rw [h]; simp)
  have hws := Zf (show pre.length < lv.length by omega) (show lv.length ≤ top63 by simp only [top63]; omega)
  have hw : IntKind.i64.wrap (y - d.inputs.length) = y - d.inputs.length := w64 ⟨by omega, by omega⟩
  have hul : (usedE d.inputs.length pre).length ≤ pre.length := by unfold usedE; rw [List.length_map]; exact List.length_filter_le _ _
  have hrm : (usedE d.inputs.length pre).length + 1 ≤ room := by simp only [room]; omega
  by_cases hc : (d.inputs.length : Int) ≤ y
  ·have hs : usedE d.inputs.length (pre ++ [y]) = usedE d.inputs.length pre ++ [y - d.inputs.length] := by unfold usedE; simp [hc]
   rw [hs] at ih
   generalize usedE d.inputs.length pre = E at *
   simp [Z35, Kk, hlt, hltn, hg, hge, hc, hw, hrm, evRO]
   exact ih _ (by simp [h]) (by simp [hws, Yj])
  ·have hs : usedE d.inputs.length (pre ++ [y]) = usedE d.inputs.length pre := by unfold usedE; simp [hc]
   rw [hs] at ih
   generalize usedE d.inputs.length pre = E at *
   simp [Z35, Kk, hlt, hltn, hg, hge, hc, evRO]
   exact ih _ (by simp [h]) (by simp [hws])
theorem e_Reads (d : Des) (hd : DesOk d) (hv : DesVal d) (n : Int) (r : Rul) (hr : d.rules[n.toNat]? = some r) (h0 : 0 ≤ n) (hn : n < (d.rules.length : Int)) :
  EE π Z2j [.p (Z5 d), .p (I n)] [] = some (.ap (1009 :: π), [rowL (1009 :: π) (rdE d r)]) := by
 have hmem : r ∈ d.rules := List.mem_of_getElem? hr
 have hlp : ∀ x, mask [2, 5, 6, 7] [] x = some ([(2, .ref (2 :: π) 0), (5, .ref (5 :: π) 0), (6, .ap (18 :: π)), (7, .p (I 0))], [(18 :: π, .row false t_int 1 (some false) [I r.guard]), rulBox (5 :: π) r, Y7 (2 :: π) d]) → _ :=
  fun x h => rrd_loop (π := π) d r (hd.writes r hmem) r.writes [] x rfl h
 have hll : (dlv d).length = d.inputs.length + d.elements.length := by simp [dlv]
 have hll2 := hv.ll
 have hL := fun π => Zi2 (π := π) (dlv d) d.nodes (by omega) hd.nodes hd.args hv.check (Va r) (by rw [rdFrom_len]; have := hd.writes r hmem; omega) (Z2i hv hmem)
 have hlp2 := rrd_loop2 (π := π) d hd.inputs (flagE (lvD d (Va r))) (lvD d (Va r)) (lvD_len d hd _) (fun n hn => by
  have := lvN_mem hn
  omega) (lvD d (Va r)) []
 have hlt : n.toNat < d.rules.length := by omega
 have hr' : d.rules[n.toNat] = r := by simpa [hlt] using hr
 have hw : IntKind.i64.wrap ((d.inputs.length : Int) + d.elements.length) = ((dlv d).length : Int) := by rw [hll]; simp; exact w64 ⟨by omega, by omega⟩
 unfold rdE
 unfold lvD at hlp2 ⊢
 generalize Va r = F at *
 generalize lvN (dlv d).length d.nodes F = R at *
 simp [e_rb_Reads, Z0, Za7, Z5, h0, hn, hlt, hr', Xx, thaw, thaw1]
 rw [hlp _ (by simp)]
 simp [hw, hL, Z4, thaw, thaw1]
 rw [hlp2 _ rfl (by simp [usedE, flagE])]
 simp
def wrUp (l : List Int) : Nat → List Int
 | 0 => []
 | k + 1 => wrUp l k ++ (if (k : Int) ∈ l then [(k : Int)] else [])
theorem Zh6 (l : List Int) (n : Int) : ∀ k, n ∈ wrUp l k ↔ n ∈ l ∧ 0 ≤ n ∧ n < (k : Int)
 | 0 => by simp [wrUp]
 | k + 1 => by
  unfold wrUp
  rw [List.mem_append, Zh6 l n k]
  by_cases h : (k : Int) ∈ l
  ·simp only [h, if_true, List.mem_singleton]
   constructor
   ·rintro (⟨a, b, c⟩ | rfl)
    ·exact ⟨a, b, by omega⟩
    ·exact ⟨h, by omega, by omega⟩
   ·rintro ⟨a, b, c⟩
    by_cases e : n = k
    ·exact .inr e
    ·exact .inl ⟨a, b, by omega⟩
  ·simp only [h, if_false, List.not_mem_nil, or_false]
   constructor
   ·rintro ⟨a, b, c⟩; exact ⟨a, b, by omega⟩
   ·rintro ⟨a, b, c⟩
    refine ⟨a, b, ?_⟩
    by_cases e : n = k
    ·subst e; exact absurd a h
    ·omega
theorem Zco (l : List Int) : ∀ k, (wrUp l k).Pairwise (· < ·)
 | 0 => by simp [wrUp]
 | k + 1 => by
  unfold wrUp
  rw [List.pairwise_append]
  refine ⟨Zco l k, by split <;> simp, fun a ha b hb => ?_⟩
  have := ((Zh6 l a k).1 ha).2.2
  split at hb
  ·simp at hb; omega
  ·simp at hb
theorem Zgr (l : List Int) : ∀ k, (wrUp l k).length ≤ k
 | 0 => by simp [wrUp]
 | k + 1 => by
  have := Zgr l k
  unfold wrUp
  rw [List.length_append]
  split <;> simp <;> omega
theorem wrUp_eq (l : List Int) (k : Nat) (hl : ∀ n ∈ l, 0 ≤ n ∧ n < (k : Int)) : wrUp l k = cmpI (sortI l) := by
 refine Zcr (Zco l k) (Z7f _ (Z11 l)) fun n => ?_
 rw [Z3g, (Mi l).mem_iff, Zh6]
 exact ⟨fun h => h.1, fun h => ⟨h, hl n h⟩⟩
theorem rwr_loop2 (d : Des) (n : Int) (r : Rul) (hwl : r.writes.length ≤ 400) (hr : d.rules[n.toNat]? = some r) (h0 : 0 ≤ n) (hn : n < (d.rules.length : Int)) (k : Nat) (E : List Int) : ∀ (suf pre : List Wrt) (b : Bool) (x : Env × Sto), r.writes = pre ++ suf →
  mask [1, 2, 5, 6, 7, 8] [] x = some ([(1, .p (I n)), (2, .ref (2 :: π) 0), (5, .ap (1005 :: π)), (6, .p (I k)), (7, .p (.bool b)), (8, .p (I pre.length))], [rowL (1005 :: π) E, Y7 (2 :: π) d]) →
  kpO [1, 2, 5, 6, 7] [4] [] (bkO 2 (iter (round EE iter π [] [1, 2, 5, 6, 7, 8] Z1y) x)) = some (.nm, [(1, .p (I n)), (2, .ref (2 :: π) 0), (5, .ap (1005 :: π)), (6, .p (I k)), (7, .p (.bool (b || decide ((k : Int) ∈ suf.map fun w => w.el))))], [rowL (1005 :: π) E, Y7 (2 :: π) d])
 | [], pre, b, x, h, hm => by
  rw [Z3 hm]
  have hlt : n.toNat < d.rules.length := by omega
  have hr' : d.rules[n.toNat] = r := by simpa [hlt] using hr
  have : pre.length = r.writes.length := by rw [h]; simp
  simp [Hq, Up, hlt, hr', h0, hn, Xx, this]
 | y :: suf, pre, b, x, h, hm => by
  rw [Z3 hm]
  have hlt : n.toNat < d.rules.length := by omega
  have hr' : d.rules[n.toNat] = r := by simpa [hlt] using hr
  have hg : r.writes[pre.length]? = some y := by rw [h]; simp
  have hlt2 := Zc h
  have hws := Zf (show pre.length < r.writes.length by omega) (show r.writes.length ≤ top63 by simp only [top63]; omega)
  have ih := fun b x => rwr_loop2 d n r hwl hr h0 hn k E suf (pre ++ [y]) b x
  have hmem : decide ((k : Int) ∈ (y :: suf).map fun w => w.el) = (decide (y.el = k) || decide ((k : Int) ∈ suf.map fun w => w.el)) := by
   rw [Bool.eq_iff_iff]; simp only [List.map_cons, List.mem_cons, decide_eq_true_eq, Bool.or_eq_true]; exact or_congr eq_comm Iff.rfl
  rw [hmem]
  generalize decide ((k : Int) ∈ suf.map fun w => w.el) = m at *
  cases b
  ·by_cases hy : y.el = k
   ·simp [Hq, Up, hlt, hr', h0, hn, Xx, hg, hlt2, W9, hy]
    refine (ih true _ (by simp [h]) (by simp [hws])).trans (by simp)
   ·simp [Hq, Up, hlt, hr', h0, hn, Xx, hg, hlt2, W9, hy]
    refine (ih false _ (by simp [h]) (by simp [hws])).trans (by simp)
  ·simp [Hq, Up, hlt, hr', h0, hn, Xx, hg, hlt2, W9]
   refine (ih true _ (by simp [h]) (by simp [hws])).trans (by simp)
theorem rwr_loop (d : Des) (hd : DesOk d) (n : Int) (r : Rul) (hwl : r.writes.length ≤ 400) (hr : d.rules[n.toNat]? = some r) (h0 : 0 ≤ n) (hn : n < (d.rules.length : Int)) : ∀ (s k : Nat) (x : Env × Sto), k + s = d.elements.length →
  mask [1, 2, 5, 6] [] x = some ([(1, .p (I n)), (2, .ref (2 :: π) 0), (5, .ap (1005 :: π)), (6, .p (I k))], [rowL (1005 :: π) (wrUp (r.writes.map fun w => w.el) k), Y7 (2 :: π) d]) →
  kpO [5] [4] [] (bkO 0 (iter (round EE iter π [] [1, 2, 5, 6] Z1z) x)) = some (.nm, [(5, .ap (1005 :: π))], [rowL (1005 :: π) (wrUp (r.writes.map fun w => w.el) d.elements.length)])
 | 0, k, x, h, hm => by
  rw [Z3 hm]
  have : k = d.elements.length := by omega
  subst this
  simp [Z1k, Nl]
 | s + 1, k, x, h, hm => by
  rw [Z3 hm]
  have he := hd.elements
  have hlt : (k : Int) < d.elements.length := by omega
  have hws := Zf (show k < d.elements.length by omega) (show d.elements.length ≤ top63 by simp only [top63]; omega)
  have ih := fun x => rwr_loop d hd n r hwl hr h0 hn s (k + 1) x (by omega)
  have hin := rwr_loop2 (π := π) d n r hwl hr h0 hn k (wrUp (r.writes.map fun w => w.el) k) r.writes [] false
  have hul := Zgr (r.writes.map fun w => w.el) k
  have hrm : (wrUp (r.writes.map fun w => w.el) k).length + 1 ≤ room := by simp only [room]; omega
  have hs : wrUp (r.writes.map fun w => w.el) (k + 1) = wrUp (r.writes.map fun w => w.el) k ++ (if (k : Int) ∈ (r.writes.map fun w => w.el) then [(k : Int)] else []) := rfl
  rw [hs] at ih
  generalize wrUp (r.writes.map fun w => w.el) k = E at *
  by_cases hc : (k : Int) ∈ (r.writes.map fun w => w.el)
  ·simp only [hc, decide_true, Bool.or_true] at hin
   simp only [hc, if_true] at ih
   simp [Z1k, Nl, hlt]
   rw [hin _ rfl (by simp)]
   simp [hrm]
   exact ih _ (by simp [hws, Yj])
  ·simp only [hc, decide_false, Bool.or_false] at hin
   simp only [hc, if_false, List.append_nil] at ih
   simp [Z1k, Nl, hlt]
   rw [hin _ rfl (by simp)]
   simp
   exact ih _ (by simp [hws])
theorem wrE_in {d : Des} (hv : DesVal d) {r : Rul} (hr : r ∈ d.rules) : ∀ n ∈ r.writes.map (fun w => w.el), 0 ≤ n ∧ n < (d.elements.length : Int) := fun n hn => by
 obtain ⟨w, hw, rfl⟩ := List.mem_map.1 hn
 have h0 := hv.wrt r hr w hw
 unfold wrtE at h0
 split at h0
 ·contradiction
 ·rename_i h1
  exact (wrtE_1 (Classical.not_not.1 h1)).1
theorem Zcj (d : Des) (hd : DesOk d) (hv : DesVal d) (n : Int) (r : Rul) (hr : d.rules[n.toNat]? = some r) (h0 : 0 ≤ n) (hn : n < (d.rules.length : Int)) :
  EE π M4 [.p (Z5 d), .p (I n)] [] = some (.ap (1005 :: π), [rowL (1005 :: π) (wrE r)]) := by
 have hmem : r ∈ d.rules := List.mem_of_getElem? hr
 have hlp := rwr_loop (π := π) d hd n r (hd.writes r hmem) hr h0 hn d.elements.length 0
 unfold wrE
 rw [wrUp_eq _ _ (wrE_in hv hmem)] at hlp
 generalize cmpI (sortI (r.writes.map fun w => w.el)) = W at *
 simp [e_rb_Writes, Z0, Z7i, Z5, thaw, thaw1]
 rw [hlp _ (by simp) (by simp [wrUp, flagE])]
 simp
theorem Lw {α : Type} (f : α → PV) (P : α → Prop) : ∀ l : List PV, (∀ y ∈ l, ∃ a, y = f a ∧ P a) → ∃ k : List α, l = k.map f ∧ ∀ a ∈ k, P a
 | [], _ => ⟨[], rfl, fun a h => by cases h⟩
 | y :: r, h => by
  obtain ⟨a, rfl, ha⟩ := h y List.mem_cons_self
  obtain ⟨k, rfl, hk⟩ := Lw f P r fun z hz => h z (List.mem_cons_of_mem _ hz)
  exact ⟨a :: k, rfl, fun b hb => by
   rcases List.mem_cons.1 hb with rfl | hb
   ·exact ha
   ·exact hk b hb⟩
theorem ok_wf {n : Int} (h : (Go.Lit.int .i64 n).wf = true) : ok64 n := by
 simp only [Go.Lit.wf, Bool.and_eq_true, decide_eq_true_eq] at h
 have h1 : IntKind.i64.min = -9223372036854775808 := by decide
 have h2 : IntKind.i64.max = 9223372036854775807 := by decide
 exact ⟨by omega, by omega⟩
theorem Pq {x : PV} (h : Cel (.int .i64) x) : ∃ n, x = I n ∧ ok64 n := by
 simp only [Cel] at h
 obtain ⟨n, h, h2⟩ := h
 exact ⟨n, h, ok_wf h2⟩
theorem Zi9 {x : PV} (h : Cel (.sl 1 false [.int .i64]) x) : ∃ k : List Int, x = Z1 k ∧ k.length ≤ top63 ∧ ∀ n ∈ k, ok64 n := by
 simp only [Cel, CelL] at h
 obtain ⟨l, rfl, hl, h⟩ := h
 obtain ⟨k, rfl, hk⟩ := Lw I ok64 l fun y hy => by
  obtain ⟨⟨x, ys, hc, ⟨n, hx, hn⟩, h0⟩, he⟩ := h y hy
  subst h0
  rw [hc] at he
  exact ⟨n, by rw [he, hx]; rfl, ok_wf hn⟩
 exact ⟨k, rfl, by simpa [Go.maxLen] using hl, hk⟩
abbrev NodOk (x : Nod) : Prop := ok64 x.op ∧ ok64 x.width ∧ ok64 x.value ∧ x.args.length ≤ top63 ∧ ∀ n ∈ x.args, ok64 n
theorem cel_nodes {x : PV} (h : Cel (.sl 4 true [.int .i64, .int .i64, .sl 1 false [.int .i64], .int .i64]) x) : ∃ k : List Nod, x = Za k ∧ k.length ≤ top63 ∧ ∀ p ∈ k, NodOk p := by
 rw [Cel] at h
 obtain ⟨l, rfl, hl, h⟩ := h
 obtain ⟨k, rfl, hk⟩ := Lw Zl NodOk l fun y hy => by
  obtain ⟨hc, he⟩ := h y hy
  simp only [CelL] at hc
  obtain ⟨a, r1, h1, ca, b, r2, h2, cb, c, r3, h3, cc, d, r4, h4, cd, h5⟩ := hc
  subst h5 h4 h3 h2
  rw [h1] at he
  obtain ⟨n1, rfl, k1⟩ := Pq ca
  obtain ⟨n2, rfl, k2⟩ := Pq cb
  obtain ⟨ar, rfl, k3, k4⟩ := Zi9 cc
  obtain ⟨n4, rfl, k5⟩ := Pq cd
  exact ⟨⟨n1, n2, ar, n4⟩, he, k1, k2, k5, k3, k4⟩
 exact ⟨k, rfl, by simpa [Go.maxLen] using hl, hk⟩
theorem fw_loop0 (d : Des) (hl : d.nodes.length ≤ 1000) : ∀ (suf pre : List Nod) (x : Env × Sto), d.nodes = pre ++ suf → mask [1, 3] [] x = some ([(1, .ref (1 :: π) 0), (3, .p (I pre.length))], [Y7 (1 :: π) d]) →
  kpO [1] [2] [] (bkO 0 (iter (round EE iter π [] [1, 3] Z3r) x)) = (if (suf.all fun x => decide (x.args.length ≤ 4)) = true then some (.nm, [(1, .ref (1 :: π) 0)], [Y7 (1 :: π) d]) else some (.rt, [(2, .p (.bool false))], []))
 | [], pre, x, h, hm => by
  rw [Z3 hm]
  have : pre.length = d.nodes.length := by rw [h]; simp
  simp [Z34, Kj, this]
 | y :: suf, pre, x, h, hm => by
  rw [Z3 hm]
  have hg : d.nodes[pre.length]? = some y := by rw [h]; simp
  have hlt := Zc h
  have hws := Zf (show pre.length < d.nodes.length by omega) (show d.nodes.length ≤ top63 by simp only [top63]; omega)
  have ih := fun x => fw_loop0 d hl suf (pre ++ [y]) x
  rw [show ((y :: suf).all fun x => decide (x.args.length ≤ 4)) = (decide (y.args.length ≤ 4) && suf.all fun x => decide (x.args.length ≤ 4)) from rfl]
  generalize suf.all (fun x => decide (x.args.length ≤ 4)) = b at *
  by_cases hy : y.args.length ≤ 4
  ·have hy' : ¬ (4 : Int) < y.args.length := by omega
   simp [Z34, Kj, hlt, hg, hy, hy']
   exact ih _ (by simp [h]) (by simp [hws])
  ·have hy' : (4 : Int) < y.args.length := by omega
   simp [Z34, Kj, hlt, hg, hy, hy']
theorem fw_loop1 (d : Des) (hl : d.rules.length ≤ 1000) : ∀ (suf pre : List Rul) (x : Env × Sto), d.rules = pre ++ suf → mask [1, 4] [] x = some ([(1, .ref (1 :: π) 0), (4, .p (I pre.length))], [Y7 (1 :: π) d]) →
  kpO [1] [2] [] (bkO 2 (iter (round EE iter π [] [1, 4] Z3q) x)) = (if (suf.all fun x => decide (x.writes.length ≤ 6)) = true then some (.nm, [(1, .ref (1 :: π) 0)], [Y7 (1 :: π) d]) else some (.rt, [(2, .p (.bool false))], []))
 | [], pre, x, h, hm => by
  rw [Z3 hm]
  have : pre.length = d.rules.length := by rw [h]; simp
  simp [Z33, Ki, this]
 | y :: suf, pre, x, h, hm => by
  rw [Z3 hm]
  have hg : d.rules[pre.length]? = some y := by rw [h]; simp
  have hlt := Zc h
  have hws := Zf (show pre.length < d.rules.length by omega) (show d.rules.length ≤ top63 by simp only [top63]; omega)
  have ih := fun x => fw_loop1 d hl suf (pre ++ [y]) x
  rw [show ((y :: suf).all fun x => decide (x.writes.length ≤ 6)) = (decide (y.writes.length ≤ 6) && suf.all fun x => decide (x.writes.length ≤ 6)) from rfl]
  generalize suf.all (fun x => decide (x.writes.length ≤ 6)) = b at *
  by_cases hy : y.writes.length ≤ 6
  ·have hy' : ¬ (6 : Int) < y.writes.length := by omega
   simp [Z33, Ki, hlt, hg, Xx, hy, hy']
   exact ih _ (by simp [h]) (by simp [hws])
  ·have hy' : (6 : Int) < y.writes.length := by omega
   simp [Z33, Ki, hlt, hg, Xx, hy, hy']
theorem fw_loop2 (d : Des) (hl : d.attrs.length ≤ 1000) : ∀ (suf pre : List Atb) (x : Env × Sto), d.attrs = pre ++ suf → mask [1, 5] [] x = some ([(1, .ref (1 :: π) 0), (5, .p (I pre.length))], [Y7 (1 :: π) d]) →
  kpO [] [2] [] (bkO 4 (iter (round EE iter π [] [1, 5] Z3p) x)) = (if (suf.all fun x => decide (x.rules.length ≤ 8)) = true then some (.nm, [], []) else some (.rt, [(2, .p (.bool false))], []))
 | [], pre, x, h, hm => by
  rw [Z3 hm]
  have : pre.length = d.attrs.length := by rw [h]; simp
  simp [Z32, Kh, this]
 | y :: suf, pre, x, h, hm => by
  rw [Z3 hm]
  have hg : d.attrs[pre.length]? = some y := by rw [h]; simp
  have hlt := Zc h
  have hws := Zf (show pre.length < d.attrs.length by omega) (show d.attrs.length ≤ top63 by simp only [top63]; omega)
  have ih := fun x => fw_loop2 d hl suf (pre ++ [y]) x
  rw [show ((y :: suf).all fun x => decide (x.rules.length ≤ 8)) = (decide (y.rules.length ≤ 8) && suf.all fun x => decide (x.rules.length ≤ 8)) from rfl]
  generalize suf.all (fun x => decide (x.rules.length ≤ 8)) = b at *
  by_cases hy : y.rules.length ≤ 8
  ·have hy' : ¬ (8 : Int) < y.rules.length := by omega
   simp [Z32, Kh, hlt, hg, Pp, hy, hy']
   exact ih _ (by simp [h]) (by simp [hws])
  ·have hy' : (8 : Int) < y.rules.length := by omega
   simp [Z32, Kh, hlt, hg, Pp, hy, hy']
def fewS (d : Des) : Bool := decide (d.nodes.length ≤ 30) && decide (d.inputs.length ≤ 8) && decide (d.elements.length ≤ 10) && decide (d.rules.length ≤ 7) && decide (d.outputs.length ≤ 8) && decide (d.attrs.length ≤ 6)
def fewD (d : Des) : Bool := fewS d && ((d.nodes.all fun x => decide (x.args.length ≤ 4)) && ((d.rules.all fun x => decide (x.writes.length ≤ 6)) && (d.attrs.all fun x => decide (x.rules.length ≤ 8))))
theorem Za5 (d : Des) : EE π Z62 [.p (Z5 d)] [] = some (.p (.bool (fewD d)), []) := by
 unfold fewD fewS
 have n0 : (30 : Int) < d.nodes.length ↔ ¬ d.nodes.length ≤ 30 := by omega
 have n1 : (8 : Int) < d.inputs.length ↔ ¬ d.inputs.length ≤ 8 := by omega
 have n2 : (10 : Int) < d.elements.length ↔ ¬ d.elements.length ≤ 10 := by omega
 have n3 : (7 : Int) < d.rules.length ↔ ¬ d.rules.length ≤ 7 := by omega
 have n4 : (8 : Int) < d.outputs.length ↔ ¬ d.outputs.length ≤ 8 := by omega
 have n5 : (6 : Int) < d.attrs.length ↔ ¬ d.attrs.length ≤ 6 := by omega
 by_cases h0 : d.nodes.length ≤ 30
 ·by_cases h1 : d.inputs.length ≤ 8
  ·by_cases h2 : d.elements.length ≤ 10
   ·by_cases h3 : d.rules.length ≤ 7
    ·by_cases h4 : d.outputs.length ≤ 8
     ·by_cases h5 : d.attrs.length ≤ 6
      ·have l0 := fw_loop0 (π := π) d (by omega) d.nodes []
       have l1 := fw_loop1 (π := π) d (by omega) d.rules []
       have l2 := fw_loop2 (π := π) d (by omega) d.attrs []
       simp [He, Z0, Pj, Z5, n0, n1, n2, n3, n4, n5, h0, h1, h2, h3, h4, h5]
       rw [l0 _ rfl (by simp)]
       generalize (d.nodes.all fun x => decide (x.args.length ≤ 4)) = b0
       cases b0
       ·simp
       ·simp
        rw [l1 _ rfl (by simp)]
        generalize (d.rules.all fun x => decide (x.writes.length ≤ 6)) = b1
        cases b1
        ·simp
        ·simp
         rw [l2 _ rfl (by simp)]
         generalize (d.attrs.all fun x => decide (x.rules.length ≤ 8)) = b2
         cases b2 <;> simp
      ·simp [He, Z0, Pj, Z5, n0, n1, n2, n3, n4, n5, h0, h1, h2, h3, h4, h5]
     ·simp [He, Z0, Pj, Z5, n0, n1, n2, n3, n4, n5, h0, h1, h2, h3, h4]
    ·simp [He, Z0, Pj, Z5, n0, n1, n2, n3, n4, n5, h0, h1, h2, h3]
   ·simp [He, Z0, Pj, Z5, n0, n1, n2, n3, n4, n5, h0, h1, h2]
  ·simp [He, Z0, Pj, Z5, n0, n1, n2, n3, n4, n5, h0, h1]
 ·simp [He, Z0, Pj, Z5, n0, n1, n2, n3, n4, n5, h0]
theorem e_RuleErr (d : Des) (hd : d.rules.length ≤ 1000) (r : Int) : EE π Py [.p (Z5 d), .p (I r)] [] = some (.p (I (Px d r)), []) := by
 have hw : IntKind.i64.wrap ((d.rules.length : Int) - 1) = (d.rules.length : Int) - 1 := w64 ⟨by omega, by omega⟩
 unfold Px
 cases h : Z8 r 0 ((d.rules.length : Int) - 1) <;> simp [Zez, Z0, Z1u, Z5, hw, X9, h, unlE]
structure DesIn (d : Des) : Prop where
 name : okS d.name
 inN : ∀ p ∈ d.inputs, okS p.name
 elN : ∀ p ∈ d.elements, okS p.name
 ruN : ∀ p ∈ d.rules, okS p.name
 ouN : ∀ p ∈ d.outputs, okS p.name
theorem desOk_few {d : Des} (h : DesIn d) (hf : fewD d = true) : DesOk d := by
 unfold fewD fewS at hf
 simp only [Bool.and_eq_true, decide_eq_true_eq, List.all_eq_true] at hf
 obtain ⟨⟨⟨⟨⟨⟨h0, h1⟩, h2⟩, h3⟩, h4⟩, h5⟩, h6, h7, h8⟩ := hf
 exact ⟨h.name, by omega, by omega, by omega, by omega, by omega, by omega, h.inN, h.elN, h.ruN, h.ouN, fun x hx => by have := h6 x hx; omega, fun x hx => by have := h7 x hx; omega, fun x hx => by have := h8 x hx; omega⟩
theorem Ze4 {x : PV} (h : Cel .str x) : ∃ s, x = .str s ∧ okS s := by
 simp only [Cel] at h
 obtain ⟨s, h, h2⟩ := h
 exact ⟨s, h, by simpa [okS, Go.maxLen, top63] using Nat.le_trans h2 (by simp [Go.maxLen])⟩
theorem cel_prts {x : PV} (h : Cel (.sl 2 true [.str, .int .i64]) x) : ∃ k : List Prt, x = Xn k ∧ ∀ p ∈ k, okS p.name := by
 rw [Cel] at h
 obtain ⟨l, rfl, hl, h⟩ := h
 obtain ⟨k, rfl, hk⟩ := Lw Wt (fun p => okS p.name) l fun y hy => by
  obtain ⟨hc, he⟩ := h y hy
  simp only [CelL] at hc
  obtain ⟨a, r1, h1, ca, b, r2, h2, cb, h5⟩ := hc
  subst h5 h2
  rw [h1] at he
  obtain ⟨s, rfl, ks⟩ := Ze4 ca
  obtain ⟨n2, rfl, k2⟩ := Pq cb
  exact ⟨⟨s, n2⟩, he, ks⟩
 exact ⟨k, rfl, hk⟩
theorem cel_otps {x : PV} (h : Cel (.sl 2 true [.str, .int .i64]) x) : ∃ k : List Otp, x = Us k ∧ ∀ p ∈ k, okS p.name := by
 rw [Cel] at h
 obtain ⟨l, rfl, hl, h⟩ := h
 obtain ⟨k, rfl, hk⟩ := Lw U9 (fun p => okS p.name) l fun y hy => by
  obtain ⟨hc, he⟩ := h y hy
  simp only [CelL] at hc
  obtain ⟨a, r1, h1, ca, b, r2, h2, cb, h5⟩ := hc
  subst h5 h2
  rw [h1] at he
  obtain ⟨s, rfl, ks⟩ := Ze4 ca
  obtain ⟨n2, rfl, k2⟩ := Pq cb
  exact ⟨⟨s, n2⟩, he, ks⟩
 exact ⟨k, rfl, hk⟩
theorem cel_elms {x : PV} (h : Cel (.sl 5 true [.str, .int .i64, .int .i64, .int .i64, .int .i64]) x) : ∃ k : List Elm, x = W0 k ∧ ∀ p ∈ k, okS p.name := by
 rw [Cel] at h
 obtain ⟨l, rfl, hl, h⟩ := h
 obtain ⟨k, rfl, hk⟩ := Lw Zu (fun p => okS p.name) l fun y hy => by
  obtain ⟨hc, he⟩ := h y hy
  simp only [CelL] at hc
  obtain ⟨a, r1, h1, ca, b, r2, h2, cb, c, r3, h3, cc, d, r4, h4, cd, e, r5, h5, ce, h6⟩ := hc
  subst h6 h5 h4 h3 h2
  rw [h1] at he
  obtain ⟨s, rfl, ks⟩ := Ze4 ca
  obtain ⟨n2, rfl, _⟩ := Pq cb
  obtain ⟨n3, rfl, _⟩ := Pq cc
  obtain ⟨n4, rfl, _⟩ := Pq cd
  obtain ⟨n5, rfl, _⟩ := Pq ce
  exact ⟨⟨s, n2, n3, n4, n5⟩, he, ks⟩
 exact ⟨k, rfl, hk⟩
theorem cel_wrts {x : PV} (h : Cel (.sl 3 true [.int .i64, .int .i64, .int .i64]) x) : ∃ k : List Wrt, x = Z1s k := by
 rw [Cel] at h
 obtain ⟨l, rfl, hl, h⟩ := h
 obtain ⟨k, rfl, hk⟩ := Lw W9 (fun _ => True) l fun y hy => by
  obtain ⟨hc, he⟩ := h y hy
  simp only [CelL] at hc
  obtain ⟨a, r1, h1, ca, b, r2, h2, cb, c, r3, h3, cc, h6⟩ := hc
  subst h6 h3 h2
  rw [h1] at he
  obtain ⟨n1, rfl, _⟩ := Pq ca
  obtain ⟨n2, rfl, _⟩ := Pq cb
  obtain ⟨n3, rfl, _⟩ := Pq cc
  exact ⟨⟨n1, n2, n3⟩, he, trivial⟩
 exact ⟨k, rfl⟩
theorem cel_ruls {x : PV} (h : Cel (.sl 3 true [.str, .int .i64, .sl 3 true [.int .i64, .int .i64, .int .i64]]) x) : ∃ k : List Rul, x = Ls k ∧ ∀ p ∈ k, okS p.name := by
 rw [Cel] at h
 obtain ⟨l, rfl, hl, h⟩ := h
 obtain ⟨k, rfl, hk⟩ := Lw Xx (fun p => okS p.name) l fun y hy => by
  obtain ⟨hc, he⟩ := h y hy
  rw [CelL] at hc
  obtain ⟨a, r1, h1, ca, hc⟩ := hc
  rw [CelL] at hc
  obtain ⟨b, r2, rfl, cb, hc⟩ := hc
  rw [CelL] at hc
  obtain ⟨c, r3, rfl, cc, hc⟩ := hc
  rw [CelL] at hc
  subst hc
  rw [h1] at he
  obtain ⟨s, rfl, ks⟩ := Ze4 ca
  obtain ⟨n2, rfl, _⟩ := Pq cb
  obtain ⟨w, rfl⟩ := cel_wrts cc
  exact ⟨⟨s, n2, w⟩, he, ks⟩
 exact ⟨k, rfl, hk⟩
theorem cel_atbs {x : PV} (h : Cel (.sl 2 true [.int .i64, .sl 1 false [.int .i64]]) x) : ∃ k : List Atb, x = Lt k := by
 rw [Cel] at h
 obtain ⟨l, rfl, hl, h⟩ := h
 obtain ⟨k, rfl, hk⟩ := Lw Pp (fun _ => True) l fun y hy => by
  obtain ⟨hc, he⟩ := h y hy
  rw [CelL] at hc
  obtain ⟨a, r1, h1, ca, hc⟩ := hc
  rw [CelL] at hc
  obtain ⟨b, r2, rfl, cb, hc⟩ := hc
  rw [CelL] at hc
  subst hc
  rw [h1] at he
  obtain ⟨n2, rfl, _⟩ := Pq ca
  obtain ⟨w, rfl, _⟩ := Zi9 cb
  exact ⟨⟨n2, w⟩, he, trivial⟩
 exact ⟨k, rfl⟩
theorem cel_des {x : List PV} (h : CelL [.str, .sl 2 true [.str, .int .i64], .sl 5 true [.str, .int .i64, .int .i64, .int .i64, .int .i64], .sl 4 true [.int .i64, .int .i64, .sl 1 false [.int .i64], .int .i64], .sl 3 true [.str, .int .i64, .sl 3 true [.int .i64, .int .i64, .int .i64]], .sl 2 true [.str, .int .i64], .sl 2 true [.int .i64, .sl 1 false [.int .i64]]] x) : ∃ d : Des, x = Xy d ∧ DesIn d := by
 rw [CelL] at h
 obtain ⟨a, r1, rfl, ca, h⟩ := h
 rw [CelL] at h
 obtain ⟨b, r2, rfl, cb, h⟩ := h
 rw [CelL] at h
 obtain ⟨c, r3, rfl, cc, h⟩ := h
 rw [CelL] at h
 obtain ⟨n, r4, rfl, cn, h⟩ := h
 rw [CelL] at h
 obtain ⟨r, r5, rfl, cr, h⟩ := h
 rw [CelL] at h
 obtain ⟨o, r6, rfl, co, h⟩ := h
 rw [CelL] at h
 obtain ⟨t, r7, rfl, ct, h⟩ := h
 rw [CelL] at h
 subst h
 obtain ⟨s, rfl, k0⟩ := Ze4 ca
 obtain ⟨ins, rfl, k1⟩ := cel_prts cb
 obtain ⟨els, rfl, k2⟩ := cel_elms cc
 obtain ⟨nds, rfl, _⟩ := cel_nodes cn
 obtain ⟨rls, rfl, k3⟩ := cel_ruls cr
 obtain ⟨ots, rfl, k4⟩ := cel_otps co
 obtain ⟨ats, rfl⟩ := cel_atbs ct
 exact ⟨⟨s, ins, els, nds, rls, ots, ats⟩, rfl, k0, k1, k2, k3, k4⟩
abbrev Zbb (π : Id) : Prop := EE π Ga [] [] = some (.p (.bool true), [])
theorem Zgs {d : Des} (hd : DesOk d) (hv : DesVal d) {r : Rul} (hr : r ∈ d.rules) : (wrE r).length ≤ 1000 := by
 unfold wrE
 rw [← wrUp_eq _ _ (wrE_in hv hr)]
 have := Zgr (r.writes.map fun w => w.el) d.elements.length
 have := hd.elements
 omega
end Go.Proofs.YteecfnfjlclhdaaGreat.V
