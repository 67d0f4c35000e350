/- What all rules share, by the program. Which rule may precede which, and the relation of two rules, by the program. Which rule may precede which, and the relation of two rules, by the reference. RelationOf and MatrixOf. All values of some leaves, one after the other: in plain terms. All values of som -/
import Derived.Test.YteecfnfjlclhdaaGreatS4
import Derived.Test.YteecfnfjlclhdaaGreatS2
import Derived.Test.YteecfnfjlclhdaaGreatS1

set_option linter.unusedSimpArgs false
set_option linter.unusedVariables false

/- What all rules share, by the program. -/
namespace Go.Proofs.YteecfnfjlclhdaaGreat.V
open Go (IntKind BinOp UnOp)
variable {π : Id}
def kdOf (l : List Elm) (n : Int) : Int := (l.getD n.toNat elm0).kind
def Ze1 (els : List Elm) (a b : List Int) (k : Int) : Bool := a.any fun n => decide (kdOf els n = k) && memB b n
@[simp] theorem fgL_rd' (d : Des) (l : List Rul) : PV.fg.PV.fgL (l.map fun r => Z1 (rdE d r)) = l.map fun r => Z1 (rdE d r) := Hd _ _ (fun x => by simp) l
@[simp] theorem fgL_wr' (l : List Rul) : PV.fg.PV.fgL (l.map fun r => Z1 (wrE r)) = l.map fun r => Z1 (wrE r) := Hd _ _ (fun x => by simp) l
def mpR (d : Des) (ra rb : Rul) : Bool := !Ze1 d.elements (wrE ra) (rdE d rb) 0 && !Ze1 d.elements (rdE d ra) (wrE rb) 1
theorem usedE_in {ni : Nat} {m : Nat} {l : List Int} (hl : ∀ n ∈ l, 0 ≤ n ∧ n < ((ni + m : Nat) : Int)) : ∀ n ∈ usedE ni l, 0 ≤ n ∧ n < (m : Int) := fun n hn => by
 unfold usedE at hn
 obtain ⟨k, hk, rfl⟩ := List.mem_map.1 hn
 obtain ⟨h1, h2⟩ := List.mem_filter.1 hk
 have := hl k h1
 simp at h2
 omega
theorem rdE_in (d : Des) (r : Rul) : ∀ n ∈ rdE d r, 0 ≤ n ∧ n < (d.elements.length : Int) := usedE_in fun n hn => by
 have := lvN_mem hn
 simpa [dlv] using this
theorem wrE_in' {d : Des} (hv : DesVal d) {r : Rul} (hr : r ∈ d.rules) : ∀ n ∈ wrE r, 0 ≤ n ∧ n < (d.elements.length : Int) := fun n hn => by
 unfold wrE at hn
 rw [Z3g, (Mi _).mem_iff] at hn
 exact wrE_in hv hr n hn
def bothB (ra rb : Rul) : Bool := (wrE ra).any fun n => memB (wrE rb) n
def relE (same there back both : Bool) : Int := if same || (!there && !back) then 4 else if there && !back then 2 else if !there then 3 else if both then 1 else 0
theorem desKind {d : Des} (h : (desE d).2 = 0) : ∀ x ∈ d.elements, x.kind = 0 ∨ x.kind = 1 := fun x hx => by
 unfold desE Zct at h
 obtain ⟨_, h⟩ := Lq h
 obtain ⟨_, h⟩ := Lq h
 obtain ⟨_, h⟩ := Lq h
 obtain ⟨h4, h⟩ := Lq h
 obtain ⟨K, hK⟩ := Z56 _ _ _ _ _ h4 x hx
 rw [elmE_eq] at hK
 cases hw : Z8 x.kind 0 1 with
 | true => have := Zb.1 hw; omega
 | false =>
  rw [hw] at hK
  repeat' split at hK
  all_goals first | contradiction | omega | skip
theorem rdE_len' (d : Des) (hv : DesVal d) (r : Rul) : (rdE d r).length ≤ 40 := by
 have h := Z9t (isLv (dlv d).length d.nodes (Va r)) 0
 have hl : (isLv (dlv d).length d.nodes (Va r)).length = (dlv d).length := by unfold isLv; rw [Yy]; simp
 have hk : (dlv d).length ≤ 40 := by have := hv.ll; simp [dlv]; omega
 have h2 : (rdE d r).length ≤ (lvD d (Va r)).length := by unfold rdE usedE; rw [List.length_map]; exact List.length_filter_le _ _
 have h3 : (lvD d (Va r)).length = (trues 0 (isLv (dlv d).length d.nodes (Va r))).length := rfl
 omega
def mpK (d : Des) (ra rb : Rul) (k : Int) : Bool := if kdOf d.elements k = 1 then decide (k ∈ rdE d ra) && decide (k ∈ wrE rb) else decide (k ∈ wrE ra) && decide (k ∈ rdE d rb)
def anyUp (p : Int → Bool) : Nat → Nat → Bool
 | 0, _ => false
 | s + 1, i => p i || anyUp p s (i + 1)
theorem anyUp_iff (p : Int → Bool) : ∀ (s i : Nat), anyUp p s i = true ↔ ∃ k : Int, (i : Int) ≤ k ∧ k < ((i + s : Nat) : Int) ∧ p k = true
 | 0, i => by simp [anyUp]; omega
 | s + 1, i => by
  unfold anyUp
  rw [Bool.or_eq_true, anyUp_iff p s (i + 1)]
  constructor
  ·rintro (h | ⟨k, h1, h2, h3⟩)
   ·exact ⟨i, by omega, by omega, h⟩
   ·exact ⟨k, by omega, by omega, h3⟩
  ·rintro ⟨k, h1, h2, h3⟩
   by_cases e : k = i
   ·subst e; exact .inl h3
   ·exact .inr ⟨k, by omega, by omega, h3⟩
theorem may_loop (d : Des) (hd : DesOk d) (hv : DesVal d) (a b : Int) (ra rb : Rul) (ha : d.rules[a.toNat]? = some ra) (hb : d.rules[b.toNat]? = some rb) (ha0 : 0 ≤ a) (ha1 : a < (d.rules.length : Int)) (hb0 : 0 ≤ b) (hb1 : b < (d.rules.length : Int)) :
  ∀ (s i : Nat) (x : Env × Sto), i + s = d.elements.length → mask [1, 2, 3, 7] [] x = some ([(1, .p (I a)), (2, .p (I b)), (3, .ref (3 :: π) 0), (7, .p (I i))], [Y7 (3 :: π) d]) →
  kpO [] [6] [] (bkO 0 (iter (round EE iter π [] [1, 2, 3, 7] K5) x)) = (if anyUp (mpK d ra rb) s i = true then some (.rt, [(6, .p (.bool false))], []) else some (.nm, [], []))
 | 0, i, x, h, hm => by
  rw [Z3 hm]
  have : (i : Int) = d.elements.length := by omega
  simp [Yw, Y6, anyUp, this]
 | s + 1, i, x, h, hm => by
  rw [Z3 hm]
  have he := hd.elements
  have hlt : (i : Int) < d.elements.length := by omega
  have hltn : i < d.elements.length := by omega
  have hg : d.elements[i]? = some (d.elements.getD i elm0) := by simp [hltn]
  have hk : kdOf d.elements (i : Int) = (d.elements.getD i elm0).kind := by simp [kdOf]
  have hws := Zf hltn (show d.elements.length ≤ top63 by simp only [top63]; omega)
  have ih := fun x => may_loop d hd hv a b ra rb ha hb ha0 ha1 hb0 hb1 s (i + 1) x (by omega)
  have hma := List.mem_of_getElem? ha
  have hmb := List.mem_of_getElem? hb
  have hWa := fun π => Zcj (π := π) d hd hv a ra ha ha0 ha1
  have hWb := fun π => Zcj (π := π) d hd hv b rb hb hb0 hb1
  have hRa := fun π => e_Reads (π := π) d hd hv a ra ha ha0 ha1
  have hRb := fun π => e_Reads (π := π) d hd hv b rb hb hb0 hb1
  have hHWa := fun π => e_Has (π := π) (wrE ra) (Zgs hd hv hma) i
  have hHWb := fun π => e_Has (π := π) (wrE rb) (Zgs hd hv hmb) i
  have hHRa := fun π => e_Has (π := π) (rdE d ra) (by have := rdE_len' d hv ra; omega) i
  have hHRb := fun π => e_Has (π := π) (rdE d rb) (by have := rdE_len' d hv rb; omega) i
  unfold Z5 at hWa hWb hRa hRb
  have hst : anyUp (mpK d ra rb) (s + 1) i = (mpK d ra rb i || anyUp (mpK d ra rb) s (i + 1)) := rfl
  rw [hst]
  unfold mpK
  rw [hk]
  change ∀ x, _ → _ = if anyUp (fun k => if kdOf d.elements k = 1 then decide (k ∈ rdE d ra) && decide (k ∈ wrE rb) else decide (k ∈ wrE ra) && decide (k ∈ rdE d rb)) s (i + 1) = true then _ else _ at ih
  generalize anyUp (fun k => if kdOf d.elements k = 1 then decide (k ∈ rdE d ra) && decide (k ∈ wrE rb) else decide (k ∈ wrE ra) && decide (k ∈ rdE d rb)) s (i + 1) = T at *
  generalize d.elements.getD i elm0 = y at *
  generalize decide ((i : Int) ∈ wrE ra) = m1 at *
  generalize decide ((i : Int) ∈ wrE rb) = m2 at *
  generalize decide ((i : Int) ∈ rdE d ra) = m3 at *
  generalize decide ((i : Int) ∈ rdE d rb) = m4 at *
  generalize wrE ra = W1 at *
  generalize wrE rb = W2 at *
  generalize rdE d ra = R1 at *
  generalize rdE d rb = R2 at *
  by_cases hw : y.kind = 1
  ·cases m3
   ·simp [Yw, Y6, hlt, hg, Zu, hw, hRa, hHRa]
    exact ih _ (by simp [hws])
   ·cases m2
    ·simp [Yw, Y6, hlt, hg, Zu, hw, hRa, hHRa, hWb, hHWb]
     exact ih _ (by simp [hws])
    ·simp [Yw, Y6, hlt, hg, Zu, hw, hRa, hHRa, hWb, hHWb]
  ·cases m1
   ·simp [Yw, Y6, hlt, hg, Zu, hw, hWa, hHWa]
    exact ih _ (by simp [hws])
   ·cases m4
    ·simp [Yw, Y6, hlt, hg, Zu, hw, hRb, hHRb, hWa, hHWa]
     exact ih _ (by simp [hws])
    ·simp [Yw, Y6, hlt, hg, Zu, hw, hRb, hHRb, hWa, hHWa]
theorem any_mpK {d : Des} (hk : ∀ x ∈ d.elements, x.kind = 0 ∨ x.kind = 1) (hv : DesVal d) {ra rb : Rul} (hma : ra ∈ d.rules) (hmb : rb ∈ d.rules) : anyUp (mpK d ra rb) d.elements.length 0 = !mpR d ra rb := by
 have kd : ∀ {k : Int}, 0 ≤ k → k < (d.elements.length : Int) → kdOf d.elements k = 0 ∨ kdOf d.elements k = 1 := fun {k} h0 h1 => by
  have hlt : k.toNat < d.elements.length := by omega
  have : d.elements.getD k.toNat elm0 = d.elements[k.toNat] := by simp [hlt]
  unfold kdOf
  rw [this]
  exact hk _ (List.getElem_mem hlt)
 rw [Bool.eq_iff_iff, anyUp_iff]
 unfold mpR Ze1
 rw [Bool.not_eq_true', Bool.and_eq_false_iff, Bool.not_eq_false', Bool.not_eq_false', List.any_eq_true, List.any_eq_true]
 constructor
 ·rintro ⟨k, h0, h1, h2⟩
  unfold mpK at h2
  have h0' : 0 ≤ k := by omega
  have h1' : k < (d.elements.length : Int) := by omega
  split at h2
  ·rename_i hw
   simp only [Bool.and_eq_true, decide_eq_true_eq] at h2
   exact .inr ⟨k, h2.1, by simp [hw, Nr, h2.2]⟩
  ·rename_i hw
   simp only [Bool.and_eq_true, decide_eq_true_eq] at h2
   have : kdOf d.elements k = 0 := (kd h0' h1').resolve_right hw
   exact .inl ⟨k, h2.1, by simp [this, Nr, h2.2]⟩
 ·rintro (⟨k, h1, h2⟩ | ⟨k, h1, h2⟩)
  ·have hi := wrE_in' hv hma k h1
   simp only [Bool.and_eq_true, decide_eq_true_eq, Nr] at h2
   exact ⟨k, by omega, by omega, by unfold mpK; rw [if_neg (by omega)]; simp [h1, h2.2]⟩
  ·have hi := rdE_in d ra k h1
   simp only [Bool.and_eq_true, decide_eq_true_eq, Nr] at h2
   exact ⟨k, by omega, by omega, by unfold mpK; rw [if_pos h2.1]; simp [h1, h2.2]⟩
theorem e_May (d : Des) (hd : DesOk d) (h0 : (desE d).2 = 0) (a b : Int) (ra rb : Rul) (ha : d.rules[a.toNat]? = some ra) (hb : d.rules[b.toNat]? = some rb) (ha0 : 0 ≤ a) (ha1 : a < (d.rules.length : Int)) (hb0 : 0 ≤ b) (hb1 : b < (d.rules.length : Int)) :
  EE π Qo [.p (Z5 d), .p (I a), .p (I b)] [] = some (.p (.bool (mpR d ra rb)), []) := by
 have hlp := may_loop (π := π) d hd (Z9e h0) a b ra rb ha hb ha0 ha1 hb0 hb1 d.elements.length 0
 rw [any_mpK (desKind h0) (Z9e h0) (List.mem_of_getElem? ha) (List.mem_of_getElem? hb)] at hlp
 generalize mpR d ra rb = r at *
 simp [Zdq, Z0, Z0d, Z5]
 rw [hlp _ (by simp) (by simp)]
 cases r <;> simp
theorem rel_loop (d : Des) (hd : DesOk d) (hv : DesVal d) (a : Int) (ra : Rul) (ha : d.rules[a.toNat]? = some ra) (ha0 : 0 ≤ a) (ha1 : a < (d.rules.length : Int)) (l : List Int) (hl : l.length ≤ 1000) :
  ∀ (suf pre : List Int) (x : Env × Sto), l = pre ++ suf → mask [1, 3, 9, 10] [] x = some ([(1, .p (I a)), (3, .ref (3 :: π) 0), (9, .ap (1005 :: 25 :: π)), (10, .p (I pre.length))], [rowL (1005 :: 25 :: π) l, Y7 (3 :: π) d]) →
  kpO [] [6] [] (bkO 0 (iter (round EE iter π [] [1, 3, 9, 10] Lz) x)) = (if (suf.any fun n => memB (wrE ra) n) = true then some (.rt, [(6, .p (I 1))], []) else some (.nm, [], []))
 | [], pre, x, h, hm => by
  rw [Z3 hm]
  have : pre = l := by simpa using h.symm
  subst this
  simp [L7, V6]
 | y :: suf, pre, x, h, hm => by
  rw [Z3 hm]
  have hg : l[pre.length]? = some y := by rw [h]; simp
  have hlt := Zc h
  have hltn : pre.length < l.length := by omega
  have hge : l[pre.length] = y := by simpa [hltn] using hg
  have hws := Zf hltn (show l.length ≤ top63 by simp only [top63]; omega)
  have ih := fun x => rel_loop d hd hv a ra ha ha0 ha1 l hl suf (pre ++ [y]) x
  have hW := fun π => Zcj (π := π) d hd hv a ra ha ha0 ha1
  have hH := fun π => e_Has (π := π) (wrE ra) (Zgs hd hv (List.mem_of_getElem? ha)) y
  have hmb : memB (wrE ra) y = decide (y ∈ wrE ra) := by rw [Bool.eq_iff_iff, Nr, decide_eq_true_iff]
  unfold Z5 at hW
  have hst : (List.any (y :: suf) fun n => memB (wrE ra) n) = (memB (wrE ra) y || suf.any fun n => memB (wrE ra) n) := rfl
  rw [hst, hmb]
  generalize decide (y ∈ wrE ra) = m at *
  generalize (suf.any fun n => memB (wrE ra) n) = T at *
  generalize wrE ra = W at *
  cases m
  ·simp [L7, V6, hlt, hltn, hg, hge, hW, hH, evRO]
   exact ih _ (by simp [h]) (by simp [hws])
  ·simp [L7, V6, hlt, hltn, hg, hge, hW, hH, evRO]
def relR (there back both : Bool) : Int := if there && back then (if both then 1 else 0) else if there then 2 else if back then 3 else 4
theorem relR_eq (t b o : Bool) : relE false t b o = relR t b o := by cases t <;> cases b <;> cases o <;> rfl
theorem both_comm (ra rb : Rul) : bothB ra rb = (wrE rb).any fun n => memB (wrE ra) n := by
 unfold bothB
 rw [Bool.eq_iff_iff, List.any_eq_true, List.any_eq_true]
 constructor
 ·rintro ⟨n, h1, h2⟩; exact ⟨n, Nr.1 h2, Nr.2 h1⟩
 ·rintro ⟨n, h1, h2⟩; exact ⟨n, Nr.1 h2, Nr.2 h1⟩
theorem e_RelR (d : Des) (hd : DesOk d) (h0 : (desE d).2 = 0) (a b : Int) (ra rb : Rul) (ha : d.rules[a.toNat]? = some ra) (hb : d.rules[b.toNat]? = some rb) (ha0 : 0 ≤ a) (ha1 : a < (d.rules.length : Int)) (hb0 : 0 ≤ b) (hb1 : b < (d.rules.length : Int)) :
  EE π Ql [.p (Z5 d), .p (I a), .p (I b)] [] = some (.p (I (relR (mpR d ra rb) (mpR d rb ra) (bothB ra rb))), []) := by
 have hv := Z9e h0
 have hm1 := fun π => e_May (π := π) d hd h0 a b ra rb ha hb ha0 ha1 hb0 hb1
 have hm2 := fun π => e_May (π := π) d hd h0 b a rb ra hb ha hb0 hb1 ha0 ha1
 have hW := fun π => Zcj (π := π) d hd hv b rb hb hb0 hb1
 have hlp := rel_loop (π := π) d hd hv a ra ha ha0 ha1 (wrE rb) (Zgs hd hv (List.mem_of_getElem? hb)) (wrE rb) []
 rw [← both_comm] at hlp
 unfold Z5 at hm1 hm2 hW
 unfold relR
 generalize mpR d ra rb = t at *
 generalize mpR d rb ra = k at *
 generalize bothB ra rb = o at *
 cases t
 ·cases k <;> simp [Z04, Z0, P5, Z5, hm1, hm2, evRO, Z4]
 ·cases k
  ·simp [Z04, Z0, P5, Z5, hm1, hm2, evRO, Z4]
  ·simp [Z04, Z0, P5, Z5, hm1, hm2, evRO, Z4, hW]
   rw [hlp _ rfl (by simp)]
   cases o <;> simp
def pairE (d : Des) (a b : Int) : Int := if Px d a ≠ 0 then Px d a else if Px d b ≠ 0 then Px d b else if a = b then 23 else 0
theorem e_PairErr (d : Des) (hd : d.rules.length ≤ 1000) (a b : Int) : EE π Hs [.p (Z5 d), .p (I a), .p (I b)] [] = some (.p (I (pairE d a b)), []) := by
 have h1 := fun π => e_RuleErr (π := π) d hd a
 have h2 := fun π => e_RuleErr (π := π) d hd b
 unfold Z5 at h1 h2
 unfold pairE
 by_cases k1 : Px d a = 0
 ·by_cases k2 : Px d b = 0
  ·by_cases k3 : a = b
   ·subst k3
    simp [Hy, Z0, Uo, Z5, h1, k1]
   ·simp [Hy, Z0, Uo, Z5, h1, k1, h2, k2, k3]
  ·simp [Hy, Z0, Uo, Z5, h1, k1, h2, k2]
 ·simp [Hy, Z0, Uo, Z5, h1, k1]
theorem Zdg (l : List Int) (hl : l.length ≤ top63) : ∀ (suf pre : List Int) (x : Env × Sto), l = pre ++ suf → mask [5, 6, 7] [] x = some ([(5, .p (Z1 l)), (6, .p (I l.length)), (7, .p (I pre.length))], []) →
  kpO [] [2] [] (bkO 0 (iter (round EE iter π [] [5, 6, 7] Z4c) x)) = (if Z9 suf = 0 then some (.nm, [], []) else some (.rt, [(2, .p (I (Z9 suf)))], []))
 | [], pre, x, h, hm => by
  rw [Z3 hm]
  subst h
  simp [Z3a, Kv, Z9]
 | y :: suf, pre, x, h, hm => by
  rw [Z3 hm]
  by_cases hy : y = 0
  ·simp [Z3a, Kv, Zc h, Y3 _ h, hy, Z9]
   exact Zdg l hl suf (pre ++ [y]) _ (by simp [h]) (by simp [Zf (show pre.length < l.length by have := Zc h; omega) hl])
  ·simp [Z3a, Kv, Zc h, Y3 _ h, hy, Z9]
theorem e_firstC (l : List Int) (hl : l.length ≤ top63) : EE π Pg [.p (Z1 l)] [] = some (.p (I (Z9 l)), []) := by
 simp [e_cf_first, Z0, Zb1]
 rw [Zdg l hl l [] _ rfl (by simp)]
 by_cases hf : Z9 l = 0 <;> simp [hf]
theorem Ng (a b : Int) : EE π Pg [.p (.sl 1 none [I a, I b])] [] = some (.p (I (Z9 [a, b])), []) := e_firstC [a, b] (by simp [top63])
abbrev netF (d : Des) : PV := .agg [.str d.name, Xn d.inputs, W0 d.elements, Za d.nodes, Ls d.rules, Us d.outputs, Lt d.attrs, .sl 1 (flagE (dlv d)) (ints (dlv d))]
def twoE (d : Des) (a b : Int) : Int := Z9 [opE d [a, b], unlE (decide (a ≠ b)) 23]
theorem e_openTwo (d : Des) (hd : DesOk d) (a b : Int) : EE π Mz [.p (Z5 d), .p (I a), .p (I b)] [] = some (.p (.tup [netF d, I (twoE d a b)]), []) := by
 have ho := fun π => e_openC (π := π) d hd [a, b] (by simp)
 unfold twoE
 unfold Z5 at ho
 simp only [List.map_cons, List.map_nil, Z1, ints] at ho
 generalize opE d [a, b] = E at *
 simp [e_cf_openTwo, Z0, Z5y, Z5, ho, Z4, evRO, Ua, Ng]
theorem opE2 (d : Des) (a b : Int) : opE d [a, b] = if (desE d).2 = 0 then (if Px d a ≠ 0 then Px d a else Px d b) else (desE d).2 := by
 unfold opE eachE eachE eachE
 by_cases h : Px d a = 0 <;> by_cases h2 : Px d b = 0 <;> simp [h, h2]
theorem Zgt (d : Des) (a b : Int) : twoE d a b = if (desE d).2 = 0 then pairE d a b else (desE d).2 := by
 unfold twoE pairE
 rw [opE2]
 by_cases h0 : (desE d).2 = 0
 ·by_cases h1 : Px d a = 0
  ·by_cases h2 : Px d b = 0
   ·by_cases h3 : a = b <;> simp [h0, h1, h2, h3, Z9, unlE]
   ·simp [h0, h1, h2, Z9, unlE]
  ·simp [h0, h1, Z9, unlE]
 ·simp [h0, Z9, unlE]
theorem pairE_z {d : Des} {a b : Int} (h : pairE d a b = 0) : Z8 a 0 ((d.rules.length : Int) - 1) = true ∧ Z8 b 0 ((d.rules.length : Int) - 1) = true ∧ a ≠ b := by
 unfold pairE at h
 split at h
 ·contradiction
 ·split at h
  ·contradiction
  ·split at h
   ·contradiction
   ·rename_i h1 h2 h3
    exact ⟨(Qc (by decide)).1 (Classical.not_not.1 h1), (Qc (by decide)).1 (Classical.not_not.1 h2), h3⟩
def rul0 : Rul := ⟨⟨#[]⟩, 0, []⟩
def rulAt (d : Des) (n : Int) : Rul := d.rules.getD n.toNat rul0
theorem W4 {d : Des} {n : Int} (h0 : 0 ≤ n) (h1 : n < (d.rules.length : Int)) : d.rules[n.toNat]? = some (rulAt d n) := by
 have : n.toNat < d.rules.length := by omega
 simp [rulAt, this]
def relI (d : Des) (a b : Int) : Int := relE (decide (a = b)) (mpR d (rulAt d a) (rulAt d b)) (mpR d (rulAt d b) (rulAt d a)) (bothB (rulAt d a) (rulAt d b))
def nextP (leaves : List Int) : List Int → List Int → Bool × List Int
 | [], s => (false, s)
 | n :: r, s => if fitsB (s.getD n.toNat 0 + 1) (leaves.getD n.toNat 0) = true then (true, s.set n.toNat (s.getD n.toNat 0 + 1)) else nextP leaves r (s.set n.toNat 0)
theorem Zd3 (leaves : List Int) (b : List Int) : ∀ (a s : List Int), nextP leaves (a ++ b) s = match nextP leaves a s with | (true, t) => (true, t) | (false, t) => nextP leaves b t
 | [], s => rfl
 | n :: r, s => by
  have ih := Zd3 leaves b r (s.set n.toNat 0)
  rw [List.cons_append]
  by_cases h : fitsB (s.getD n.toNat 0 + 1) (leaves.getD n.toNat 0) = true
  ·rw [show nextP leaves (n :: (r ++ b)) s = _ from if_pos h, show nextP leaves (n :: r) s = _ from if_pos h]
  ·rw [show nextP leaves (n :: (r ++ b)) s = _ from if_neg h, show nextP leaves (n :: r) s = _ from if_neg h]
   exact ih
def Lnk (leaves L : List Int) : List (List Int) → Bool × List Int → Prop
 | [], _ => False
 | [s], z => nextP leaves L s = z
 | s :: t :: r, z => nextP leaves L s = (true, t) ∧ Lnk leaves L (t :: r) z
theorem Lnk.app {leaves L : List Int} {b : List Int} {B : List (List Int)} {z : Bool × List Int} : ∀ {A : List (List Int)}, Lnk leaves L A (true, b) → Lnk leaves L (b :: B) z → Lnk leaves L (A ++ b :: B) z
 | [], h, _ => h.elim
 | [s], h, k => ⟨h, k⟩
 | s :: t :: r, h, k => ⟨h.1, Lnk.app h.2 k⟩
theorem Lnk.more {leaves L M : List Int} {z : List Int} : ∀ {A : List (List Int)}, Lnk leaves L A (false, z) → Lnk leaves (L ++ M) A (nextP leaves M z)
 | [], h => h.elim
 | [s], h => by
  have h : nextP leaves L s = (false, z) := h
  show nextP leaves (L ++ M) s = _
  rw [Zd3, h]
 | s :: t :: r, h => by
  refine ⟨?_, Lnk.more h.2⟩
  rw [Zd3, h.1]
theorem LeafOk.set {leaves s : List Int} (h : LeafOk leaves s) {n : Int} (hn : n.toNat < leaves.length) {v : Int} (hv : Okv v (leaves.getD n.toNat 0)) : LeafOk leaves (s.set n.toNat v) := by
 have hl := h.len
 refine ⟨by simpa using hl, fun j hj => ?_⟩
 rw [Zhg _ _ _ _ _ (by omega)]
 split
 ·rename_i e; rw [← e]; exact hv
 ·exact h.ok j hj
theorem LeafOk.zero (leaves : List Int) : LeafOk leaves (List.replicate leaves.length 0) := ⟨by simp, fun j hj => by
 have : (List.replicate leaves.length (0 : Int)).getD j 0 = 0 := by simp [List.getD, hj]
 rw [this]
 exact ⟨Int.le_refl _, Xb _⟩⟩
variable {π κ : Id}
@[simp] theorem clean_ap (i : Id) : AV.clean (.ap i) = true := rfl
@[simp] theorem clean_ref (i : Id) (k : Nat) : AV.clean (.ref i k) = true := rfl
@[simp] theorem clean_yld (i : Id) : AV.clean (.yld i) = true := rfl
@[simp] theorem clean_p (v : PV) : AV.clean (.p v) = v.clean := rfl
@[simp] theorem clean_int (k : IntKind) (n : Int) : PV.clean (.int k n) = true := rfl
@[simp] theorem clean_bool (b : Bool) : PV.clean (.bool b) = true := rfl
@[simp] theorem clean_nil (sz : Nat) (nl : Option Bool) : PV.clean (.sl sz nl []) = true := rfl
@[simp] theorem clean_box (b : Bool) (cs : List AV) : Blk.clean (.box b cs) = cs.all AV.clean := rfl
@[simp] theorem clean_frm (π : Id) (n : Nat) (e : Env) (ps : List Nat) (x y : IR) (st : FSt) : Blk.clean (.frm π n e ps x y st) = e.all fun x => x.2.clean := rfl
@[simp] theorem clean_ints (b : Bool) (T sz : Nat) (nl : Option Bool) (V : List Int) : Blk.clean (.row b T sz nl (ints V)) = true := by
 simp only [Blk.clean, List.all_map, List.all_eq_true]
 intro n _
 rfl
theorem Zc9 (nodes : List Nod) (L : List Int) : ∀ (l : List Nod) (o : List Int), (valsN nodes L l o).length = o.length + l.length := by
 intro l
 induction l with
 | nil => intro o; rfl
 | cons x r ih => intro o; rw [valsN, ih]; simp; omega
structure RunsOk (leaves : List Int) (nodes : List Nod) (l : List Int) : Prop where
 lw : ∀ n ∈ leaves, 1 ≤ n ∧ n ≤ 16
 ll : leaves.length ≤ 1000
 nl : nodes.length ≤ 1000
 al : ∀ x ∈ nodes, x.args.length ≤ 1000
 ok : ∀ i x, nodes[i]? = some x → nodeE leaves nodes i x = 0
 len : l.length ≤ 1000
 inL : ∀ n ∈ l, 0 ≤ n ∧ n < (leaves.length : Int)
def Cl (nodes : List Nod) (o : List Bool) (i : Nat) : Prop := ∀ x, nodes[i]? = some x → o.getD i false = true → ∀ n ∈ x.args, o.getD n.toNat false = true
theorem Z1h (nodes : List Nod) : ∀ (k : Nat) (o : List Bool) (j : Nat), j < o.length → o.getD j false = true → (Fa nodes k o).getD j false = true
 | 0, o, j, _, h => h
 | k + 1, o, j, hj, h => by
  rw [Fa]
  split
  ·split
   ·refine Z1h nodes k _ j (by rw [Yy]; exact hj) ?_
    rw [M5 _ _ _ hj, h]; rfl
   ·exact Z1h nodes k _ j hj h
  ·exact Z1h nodes k _ j hj h
theorem Zb3 (nodes : List Nod) (hin : ∀ (i : Nat) (x : Nod), nodes[i]? = some x → ∀ n ∈ x.args, 0 ≤ n ∧ n < (i : Int)) : ∀ (k : Nat) (o : List Bool), k ≤ nodes.length → o.length = nodes.length → (∀ i, k ≤ i → Cl nodes o i) → ∀ i, Cl nodes (Fa nodes k o) i
 | 0, o, _, _, h, i => h i (Nat.zero_le _)
 | k + 1, o, hk, ho, h, i => by
  rw [Fa]
  have hkl : k < nodes.length := by omega
  have hx : nodes[k]? = some nodes[k] := List.getElem?_eq_getElem hkl
  rw [hx]
  simp only
  split
  ·rename_i hb
   refine Zb3 nodes hin k _ (by omega) (by rw [Yy]; exact ho) (fun i hi x hxi hoi n hn => ?_) i
   have hil := (List.getElem?_eq_some_iff.1 hxi).1
   have hni := hin i x hxi n hn
   rw [M5 _ _ _ (by omega)]
   by_cases e : i = k
   ·subst e
    rw [hx] at hxi
    cases hxi
    simp only [Bool.or_eq_true, List.any_eq_true, decide_eq_true_eq]
    exact .inr ⟨n, hn, rfl⟩
   ·rw [M5 _ _ _ (by omega)] at hoi
    simp only [Bool.or_eq_true, List.any_eq_true, decide_eq_true_eq] at hoi ⊢
    rcases hoi with hoi | ⟨m, hm, e2⟩
    ·exact .inl (h i (by omega) x hxi hoi n hn)
    ·have := hin k _ hx m hm
     omega
  ·rename_i hb
   refine Zb3 nodes hin k _ (by omega) ho (fun i hi => ?_) i
   by_cases e : i = k
   ·subst e
    exact fun x _ hoi => absurd hoi hb
   ·exact h i (by omega)
theorem belN_cl {nodes : List Nod} (hin : ∀ (i : Nat) (x : Nod), nodes[i]? = some x → ∀ n ∈ x.args, 0 ≤ n ∧ n < (i : Int)) (fr : List Int) (i : Nat) : Cl nodes (belN nodes fr) i := by
 unfold belN
 exact Zb3 nodes hin _ _ (Nat.le_refl _) (by rw [Yy]; simp) (fun i hi x hx => by have := (List.getElem?_eq_some_iff.1 hx).1; omega) i
theorem belN_from {nodes : List Nod} (fr : List Int) (n : Int) (hn : n ∈ fr) (hlt : n.toNat < nodes.length) : (belN nodes fr).getD n.toNat false = true := by
 unfold belN
 refine Z1h _ _ _ _ (by rw [Yy]; simpa using hlt) ?_
 rw [M5 _ _ _ (by simpa using hlt)]
 simp only [Bool.or_eq_true, List.any_eq_true, decide_eq_true_eq]
 exact .inr ⟨n, hn, rfl⟩
theorem lvOf_in' : ∀ (B : List Bool) (l : List Nod) (i : Nat) (x : Nod), l[i]? = some x → B.getD i false = true → x.op = 1 → x.value ∈ lvOf B l
 | [], l, i, x, _, h, _ => by simp [List.getD] at h
 | b :: B, [], i, x, h, _, _ => by simp at h
 | b :: B, y :: l, 0, x, h, hb, ho => by
  simp at h
  subst h
  have hb : b = true := by simpa [List.getD] using hb
  rw [lvOf, if_pos ⟨hb, ho⟩]; simp
 | b :: B, y :: l, i + 1, x, h, hb, ho => by
  have ih := lvOf_in' B l i x (by simpa using h) (by simpa [List.getD] using hb) ho
  rw [lvOf]
  split
  ·exact List.mem_cons_of_mem _ ih
  ·exact ih
theorem mem_lvN {leaves : List Int} {nodes : List Nod} (hc : (X8 leaves nodes).2 = 0) (fr : List Int) (n : Int) : n ∈ lvN leaves.length nodes fr ↔ n ∈ lvOf (belN nodes fr) nodes := by
 rw [← lvN_eq hc, Z3g, (Mi _).mem_iff]
theorem Z6o {leaves : List Int} {nodes : List Nod} (hc : (X8 leaves nodes).2 = 0) (fr : List Int) (L1 L2 : List Int) (h : ∀ n ∈ lvN leaves.length nodes fr, L1.getD n.toNat 0 = L2.getD n.toNat 0) :
  ∀ (suf pre : List Nod) (v1 v2 : List Int), nodes = pre ++ suf → v1.length = pre.length → v2.length = pre.length → (∀ j, j < pre.length → (belN nodes fr).getD j false = true → v1.getD j 0 = v2.getD j 0) →
  ∀ j, j < nodes.length → (belN nodes fr).getD j false = true → (valsN nodes L1 suf v1).getD j 0 = (valsN nodes L2 suf v2).getD j 0
 | [], pre, v1, v2, hp, h1, h2, hv, j, hj, hb => by
  have : nodes = pre := by simpa using hp
  exact hv j (by rw [← this]; exact hj) hb
 | x :: suf, pre, v1, v2, hp, h1, h2, hv, j, hj, hb => by
  have hx : nodes[pre.length]? = some x := by rw [hp]; simp
  have hval : (belN nodes fr).getD pre.length false = true → valN nodes L1 v1 x = valN nodes L2 v2 x := fun hbp => by
   unfold valN
   by_cases h1 : x.op = 1
   ·rw [if_pos h1, if_pos h1]
    exact h _ ((mem_lvN hc fr _).2 (lvOf_in' _ _ _ _ hx hbp h1))
   ·rw [if_neg h1, if_neg h1]
    have : Wu v1 x.args = Wu v2 x.args := by
     apply List.map_congr_left
     intro n hn
     have hni := args_in hc hx n hn
     exact hv n.toNat (by omega) (belN_cl (fun i y hy => args_in hc hy) fr pre.length x hx hbp n hn)
    rw [this]
  rw [valsN, valsN]
  refine Z6o hc fr L1 L2 h suf (pre ++ [x]) _ _ (by simp [hp]) (by simp [h1]) (by simp [h2]) (fun i hi hbi => ?_) j hj hb
  rw [List.length_append] at hi
  by_cases e : i < pre.length
  ·have e1 : (v1 ++ [valN nodes L1 v1 x]).getD i 0 = v1.getD i 0 := by simp [List.getD, List.getElem?_append_left (show i < v1.length by omega)]
   have e2 : (v2 ++ [valN nodes L2 v2 x]).getD i 0 = v2.getD i 0 := by simp [List.getD, List.getElem?_append_left (show i < v2.length by omega)]
   rw [e1, e2]
   exact hv i e hbi
  ·have : i = pre.length := by simp at hi; omega
   subst this
   have e1 : (v1 ++ [valN nodes L1 v1 x]).getD pre.length 0 = valN nodes L1 v1 x := by simp [List.getD, ← h1]
   have e2 : (v2 ++ [valN nodes L2 v2 x]).getD pre.length 0 = valN nodes L2 v2 x := by simp [List.getD, ← h2]
   rw [e1, e2]
   exact hval hbi
theorem vals_agree {leaves : List Int} {nodes : List Nod} (hc : (X8 leaves nodes).2 = 0) (fr : List Int) (hfin : ∀ n ∈ fr, 0 ≤ n ∧ n < (nodes.length : Int)) (L1 L2 : List Int) (h : ∀ n ∈ lvN leaves.length nodes fr, L1.getD n.toNat 0 = L2.getD n.toNat 0) (n : Int) (hn : n ∈ fr) :
  (valsN nodes L1 nodes []).getD n.toNat 0 = (valsN nodes L2 nodes []).getD n.toNat 0 := by
 have := hfin n hn
 exact Z6o hc fr L1 L2 h nodes [] [] [] rfl rfl rfl (fun j hj => absurd hj (by simp)) n.toNat (by omega) (belN_from fr n hn (by omega))
theorem Zga {α : Type} (f : Nat → α → Int) : ∀ (l : List α) (k : Nat), (∀ i x, l[i]? = some x → f (k + i) x = 0) → (eachE f k l).2 = 0
 | [], _, _ => rfl
 | x :: r, k, h => by
  rw [eachE, if_pos (by simpa using h 0 x rfl)]
  exact Zga f r (k + 1) fun i y hy => by
   have := h (i + 1) y (by simpa using hy)
   rwa [show k + (i + 1) = k + 1 + i by omega] at this
theorem valuesE_z {leaves values : List Int} (hlw : ∀ n ∈ leaves, 1 ≤ n ∧ n ≤ 16) (h : LeafOk leaves values) : Yl leaves values = 0 := by
 have hl := h.len
 unfold Yl
 rw [if_neg (by simp [hl])]
 refine Zga _ _ _ fun i x hx => ?_
 have hi := (List.getElem?_eq_some_iff.1 hx).1
 have hil : i < leaves.length := by omega
 have hok := h.ok i hil
 have e1 : values.getD i 0 = x := by simp [List.getD, hx]
 have e2 : leaves.getD i 0 = leaves[i] := by simp [List.getD, hil]
 have hw := hlw _ (List.getElem_mem hil)
 rw [e1, e2] at hok
 rw [Nat.zero_add]
 unfold fitE fitsB
 rw [e2]
 refine (Qc (by decide)).2 ?_
 simp only [Bool.and_eq_true, decide_eq_true_eq, Zb]
 exact ⟨by omega, hok.1, by have := hok.2; omega⟩
abbrev valsD (d : Des) (p : List Int) : List Int := valsN d.nodes p d.nodes []
def hapW (V : List Int) (off : Nat) : List Wrt → List Int → List Int
 | [], o => o
 | w :: r, o => hapW V off r (if V.getD w.whn.toNat 0 = 1 then o.set (off + w.el.toNat) (V.getD w.val.toNat 0) else o)
def aftP (d : Des) (r : Rul) (p : List Int) : List Int := hapW (valsD d p) d.inputs.length r.writes p
theorem Zch (V : List Int) (off : Nat) : ∀ (ws : List Wrt) (o : List Int), (hapW V off ws o).length = o.length
 | [], _ => rfl
 | w :: r, o => by
  rw [hapW, Zch V off r]
  split <;> simp
theorem Zfy (V : List Int) (off j : Nat) : ∀ (ws : List Wrt) (o : List Int), (∀ w ∈ ws, off + w.el.toNat ≠ j) → (hapW V off ws o).getD j 0 = o.getD j 0
 | [], _, _ => rfl
 | w :: r, o, h => by
  rw [hapW, Zfy V off j r _ fun x hx => h x (by simp [hx])]
  split
  ·simp only [List.getD_eq_getElem?_getD]
   rw [List.getElem?_set_ne (h w (by simp))]
  ·rfl
theorem Za0 {V V' : List Int} {off : Nat} : ∀ (ws : List Wrt) (o : List Int), (∀ w ∈ ws, V.getD w.whn.toNat 0 = V'.getD w.whn.toNat 0 ∧ V.getD w.val.toNat 0 = V'.getD w.val.toNat 0) → hapW V off ws o = hapW V' off ws o
 | [], _, _ => rfl
 | w :: r, o, h => by
  have h1 := h w (by simp)
  rw [hapW, hapW, h1.1, h1.2]
  exact Za0 r _ fun x hx => h x (by simp [hx])
theorem Zhf {V : List Int} {off k : Nat} {x : Int} : ∀ (ws : List Wrt) (o : List Int), (∀ w ∈ ws, off + w.el.toNat ≠ k) → hapW V off ws (o.set k x) = (hapW V off ws o).set k x
 | [], _, _ => rfl
 | w :: r, o, h => by
  have h1 := h w (by simp)
  rw [hapW, hapW]
  split
  ·rw [List.set_comm _ _ (fun e => h1 e.symm)]
   exact Zhf r _ fun y hy => h y (by simp [hy])
  ·exact Zhf r _ fun y hy => h y (by simp [hy])
theorem hapW_comm {V V' : List Int} {off : Nat} (ws2 : List Wrt) : ∀ (ws1 : List Wrt) (o : List Int), (∀ w ∈ ws1, ∀ u ∈ ws2, w.el.toNat ≠ u.el.toNat) → hapW V' off ws2 (hapW V off ws1 o) = hapW V off ws1 (hapW V' off ws2 o)
 | [], _, _ => rfl
 | w :: r, o, h => by
  have h1 := h w (by simp)
  rw [hapW, hapW, hapW_comm ws2 r _ fun x hx => h x (by simp [hx])]
  split
  ·rw [Zhf ws2 o fun u hu => by have := h1 u hu; omega]
  ·rfl
theorem hapW_off (V ins : List Int) : ∀ (ws : List Wrt) (st : List Int), hapW V ins.length ws (ins ++ st) = ins ++ hapW V 0 ws st
 | [], _ => rfl
 | w :: r, st => by
  rw [hapW, hapW, ← hapW_off V ins r]
  split
  ·rw [List.set_append_right _ _ (by omega), Nat.add_sub_cancel_left, Nat.zero_add]
  ·rfl
theorem vals_okD {leaves L : List Int} {nodes : List Nod} (hG : ∀ i x, nodes[i]? = some x → nodeE leaves nodes i x = 0) (hL : LeafOk leaves L) : ∀ (suf pre : List Nod) (vs : List Int), nodes = pre ++ suf → InvV nodes pre.length vs → InvV nodes nodes.length (valsN nodes L suf vs)
 | [], pre, vs, h, hI => by
  have : nodes = pre := by simpa using h
  rw [this] at hI ⊢
  exact hI
 | x :: suf, pre, vs, h, hI => by
  have hx : nodes[pre.length]? = some x := by rw [h]; simp
  have := Zhc hG hL hI hx
  rw [valsN]
  exact vals_okD hG hL suf (pre ++ [x]) _ (by simp [h]) (by simpa using this)
theorem Z2b {d : Des} (hv : DesVal d) {r : Rul} (hr : r ∈ d.rules) {w : Wrt} (hw : w ∈ r.writes) : (0 ≤ w.el ∧ w.el < (d.elements.length : Int)) ∧ (0 ≤ w.whn ∧ w.whn < (d.nodes.length : Int)) ∧ (0 ≤ w.val ∧ w.val < (d.nodes.length : Int)) ∧ widOf d.nodes w.val = ewOf d.elements w.el := by
 have h := hv.wrt r hr w hw
 unfold wrtE at h
 split at h
 ·rename_i h1; exact absurd h h1
 ·rename_i h1
  have h1 := wrtE_1 (Classical.not_not.1 h1)
  have h2 := (Qc (by decide)).1 h
  have h3 := h1.2.1
  unfold Qz at h3
  rw [Bool.and_eq_true] at h3
  exact ⟨h1.1, Hc.1 h3.1, ⟨h1.2.2.1, h1.2.2.2⟩, by simpa using h2⟩
theorem Lv (d : Des) : (dlv d).length = d.inputs.length + d.elements.length := by simp [dlv]
theorem dlv_el (d : Des) {e : Nat} (h : e < d.elements.length) : (dlv d).getD (d.inputs.length + e) 0 = ewOf d.elements (e : Int) := by
 simp [dlv, ewOf, List.getD_eq_getElem?_getD, List.getElem?_append_right, h]
theorem hapW_ok {d : Des} {V : List Int} : ∀ (ws : List Wrt) (o : List Int), (∀ w ∈ ws, (0 ≤ w.el ∧ w.el < (d.elements.length : Int)) ∧ Okv (V.getD w.val.toNat 0) (ewOf d.elements w.el)) → LeafOk (dlv d) o → LeafOk (dlv d) (hapW V d.inputs.length ws o)
 | [], _, _, h => h
 | w :: r, o, h, ho => by
  obtain ⟨h1, h2⟩ := h w (by simp)
  rw [hapW]
  refine hapW_ok r _ (fun x hx => h x (by simp [hx])) ?_
  split
  ·refine ⟨by rw [List.length_set]; exact ho.len, fun j hj => ?_⟩
   have hl := ho.len
   simp only [List.getD_eq_getElem?_getD (l := o.set _ _)]
   by_cases hje : d.inputs.length + w.el.toNat = j
   ·subst hje
    rw [List.getElem?_set_self (by omega), dlv_el d (by omega), show ((w.el.toNat : Nat) : Int) = w.el by omega]
    exact h2
   ·rw [List.getElem?_set_ne hje]
    have := ho.ok j hj
    rwa [List.getD_eq_getElem?_getD (l := o)] at this
  ·exact ho
theorem Zio {d : Des} (hv : DesVal d) {r : Rul} (hr : r ∈ d.rules) {p : List Int} (hp : LeafOk (dlv d) p) : LeafOk (dlv d) (aftP d r p) := by
 have hI := vals_okD (L5 hv.check) hp d.nodes [] [] rfl ⟨rfl, fun j hj => absurd hj (by simp)⟩
 refine hapW_ok _ _ (fun w hw => ?_) hp
 obtain ⟨h1, h2, h3, h4⟩ := Z2b hv hr hw
 refine ⟨h1, ?_⟩
 have := hI.ok w.val.toNat (by omega)
 rwa [show ((w.val.toNat : Nat) : Int) = w.val by omega, h4] at this
theorem wrE_mem {r : Rul} {n : Int} : n ∈ wrE r ↔ ∃ w ∈ r.writes, w.el = n := by
 unfold wrE
 rw [Z3g, (Mi _).mem_iff, List.mem_map]
theorem rdE_mem {d : Des} {r : Rul} {n : Int} : n ∈ rdE d r ↔ (0 ≤ n ∧ n + d.inputs.length ∈ lvD d (Va r)) := by
 unfold rdE usedE
 rw [List.mem_map]
 constructor
 ·rintro ⟨m, hm, rfl⟩
  rw [List.mem_filter] at hm
  have h2 : (d.inputs.length : Int) ≤ m := by simpa using hm.2
  exact ⟨by omega, by rw [show m - d.inputs.length + d.inputs.length = m by omega]; exact hm.1⟩
 ·rintro ⟨h0, h⟩
  exact ⟨n + d.inputs.length, List.mem_filter.2 ⟨h, by simp; omega⟩, by omega⟩
theorem common_no {els : List Elm} {a b : List Int} {k n : Int} (h : (!Ze1 els a b k) = true) (ha : n ∈ a) (hb : n ∈ b) : kdOf els n ≠ k := by
 intro hk
 unfold Ze1 at h
 rw [Bool.not_eq_true', List.any_eq_false] at h
 have := h n ha
 rw [Nr.2 hb] at this
 simp [hk] at this
theorem kdOf_get {els : List Elm} (hk : ∀ x ∈ els, x.kind = 0 ∨ x.kind = 1) {n : Int} (h : 0 ≤ n ∧ n < (els.length : Int)) : kdOf els n = 0 ∨ kdOf els n = 1 := by
 unfold kdOf
 have hl : n.toNat < els.length := by omega
 have : els.getD n.toNat elm0 = els[n.toNat] := by simp [List.getD_eq_getElem?_getD, hl]
 rw [this]
 exact hk _ (List.getElem_mem hl)
theorem wr_rd {d : Des} (hv : DesVal d) (hk : ∀ x ∈ d.elements, x.kind = 0 ∨ x.kind = 1) {ra rb : Rul} (h1 : mpR d ra rb = true) (h2 : mpR d rb ra = true) {n : Int} (ha : n ∈ wrE ra) (hb : n ∈ rdE d rb) : False := by
 unfold mpR at h1 h2
 rw [Bool.and_eq_true] at h1 h2
 rcases kdOf_get hk (rdE_in d rb n hb) with h | h
 ·exact common_no h1.1 ha hb h
 ·exact common_no h2.2 hb ha h
theorem Z88 {d : Des} (hv : DesVal d) (hk : ∀ x ∈ d.elements, x.kind = 0 ∨ x.kind = 1) {ra rb : Rul} (hra : ra ∈ d.rules) (hrb : rb ∈ d.rules) (h1 : mpR d ra rb = true) (h2 : mpR d rb ra = true) (p : List Int) {n : Int} (hn : n ∈ Va rb) :
  (valsD d (aftP d ra p)).getD n.toNat 0 = (valsD d p).getD n.toNat 0 := by
 refine vals_agree hv.check (Va rb) (Z2i hv hrb) _ _ (fun m hm => ?_) n hn
 have hm2 := lvN_mem hm
 refine Zfy _ _ _ _ _ fun w hw he => ?_
 have hwf := (Z2b hv hra hw).1
 refine wr_rd hv hk h1 h2 (wrE_mem.2 ⟨w, hw, rfl⟩) (rdE_mem.2 ⟨hwf.1, ?_⟩)
 rw [show w.el + (d.inputs.length : Int) = m by omega]
 exact hm
theorem free_comm {d : Des} (hv : DesVal d) (hk : ∀ x ∈ d.elements, x.kind = 0 ∨ x.kind = 1) {ra rb : Rul} (hra : ra ∈ d.rules) (hrb : rb ∈ d.rules) (h1 : mpR d ra rb = true) (h2 : mpR d rb ra = true) (h3 : bothB ra rb = false) (p : List Int) :
  aftP d rb (aftP d ra p) = aftP d ra (aftP d rb p) := by
 have e1 : aftP d rb (aftP d ra p) = hapW (valsD d p) d.inputs.length rb.writes (aftP d ra p) := Za0 _ _ fun w hw =>
  ⟨Z88 hv hk hra hrb h1 h2 p (by unfold Va; simp only [List.mem_cons, List.mem_flatMap]; exact .inr ⟨w, hw, by simp⟩), Z88 hv hk hra hrb h1 h2 p (by unfold Va; simp only [List.mem_cons, List.mem_flatMap]; exact .inr ⟨w, hw, by simp⟩)⟩
 have e2 : aftP d ra (aftP d rb p) = hapW (valsD d p) d.inputs.length ra.writes (aftP d rb p) := Za0 _ _ fun w hw =>
  ⟨Z88 hv hk hrb hra h2 h1 p (by unfold Va; simp only [List.mem_cons, List.mem_flatMap]; exact .inr ⟨w, hw, by simp⟩), Z88 hv hk hrb hra h2 h1 p (by unfold Va; simp only [List.mem_cons, List.mem_flatMap]; exact .inr ⟨w, hw, by simp⟩)⟩
 rw [e1, e2]
 refine hapW_comm _ _ _ fun w hw u hu he => ?_
 unfold bothB at h3
 rw [List.any_eq_false] at h3
 have hwf := (Z2b hv hra hw).1
 have huf := (Z2b hv hrb hu).1
 have := h3 w.el (wrE_mem.2 ⟨w, hw, rfl⟩)
 rw [Nr.2 (wrE_mem.2 ⟨u, hu, by omega⟩)] at this
 simp at this
abbrev aftS (π : Id) (d : Des) (nl : Option Bool) (V o : List Int) : Sto := [(0 :: 23 :: π, .row false t_int 1 nl (ints o)), rowI (1006 :: 36 :: 19 :: π) (flagE d.nodes) V, (3 :: π, .box false ((Z61 d).map .p))]
theorem aft_loop (d : Des) (hd : DesOk d) (V : List Int) (hV : V.length = d.nodes.length) (ws : List Wrt) (hwl : ws.length ≤ 1000) (hws : ∀ w ∈ ws, (0 ≤ w.el ∧ w.el < (d.elements.length : Int)) ∧ (0 ≤ w.whn ∧ w.whn < (d.nodes.length : Int)) ∧ (0 ≤ w.val ∧ w.val < (d.nodes.length : Int))) (nl : Option Bool) :
  ∀ (suf pre : List Wrt) (o : List Int) (x : Env × Sto), ws = pre ++ suf → o.length = d.inputs.length + d.elements.length →
  mask [3, 7, 9, 33, 34, 35] [] x = some ([(3, .ref (3 :: π) 0), (7, .ap (1006 :: 36 :: 19 :: π)), (9, .ap (0 :: 23 :: π)), (33, .p (Z1s ws)), (34, .p (I ws.length)), (35, .p (I pre.length))], aftS π d nl V o) →
  kpO [9] [6] [] (bkO 0 (iter (round EE iter π [] [3, 7, 9, 33, 34, 35] F7) x)) = some (.nm, [(9, .ap (0 :: 23 :: π))], [(0 :: 23 :: π, .row false t_int 1 nl (ints (hapW V d.inputs.length suf o)))])
 | [], pre, o, x, h, ho, hm => by
  rw [Z3 hm]
  have : pre = ws := by simpa using h.symm
  subst this
  simp [Gs, Ui, hapW]
 | w :: suf, pre, o, x, h, ho, hm => by
  rw [Z3 hm]
  have hlt := Zc h
  have hltn : pre.length < ws.length := by omega
  have hg : ws[pre.length]? = some w := by rw [h]; simp
  have hge : ws[pre.length] = w := by simpa [hltn] using hg
  have hsu := Zf hltn (show ws.length ≤ top63 by simp only [top63]; omega)
  obtain ⟨⟨k1, k2⟩, ⟨k3, k4⟩, ⟨k5, k6⟩⟩ := hws w (by rw [h]; simp)
  have hin := hd.inputs
  have hel := hd.elements
  have ih := fun o x => aft_loop d hd V hV ws hwl hws nl suf (pre ++ [w]) o x (by simp [h])
  have hst : hapW V d.inputs.length (w :: suf) o = hapW V d.inputs.length suf (if V.getD w.whn.toNat 0 = 1 then o.set (d.inputs.length + w.el.toNat) (V.getD w.val.toNat 0) else o) := rfl
  have v1 : w.whn.toNat < V.length := by omega
  have v2 : w.val.toNat < V.length := by omega
  have g1 : V.getD w.whn.toNat 0 = V[w.whn.toNat] := by simp [List.getD_eq_getElem?_getD, v1]
  have g2 : V.getD w.val.toNat 0 = V[w.val.toNat] := by simp [List.getD_eq_getElem?_getD, v2]
  have hw : IntKind.i64.wrap ((d.inputs.length : Int) + w.el) = ((d.inputs.length + w.el.toNat : Nat) : Int) := by rw [L6 (by omega) (by omega)]; omega
  have hol : d.inputs.length + w.el.toNat < o.length := by omega
  rw [hst, g1, g2]
  generalize hav : V[w.whn.toNat] = a at *
  generalize hbv : V[w.val.toNat] = b at *
  generalize d.inputs.length + w.el.toNat = j at *
  by_cases ha : a = 1
  ·rw [if_pos ha]
   simp [Gs, Ui, hlt, hltn, hg, hge, W9, k1, k3, k5, v1, v2, hav, ha, hw, hol, hbv]
   exact ih _ _ (by simp [ho]) (by simp [hsu, PV.setc])
  ·rw [if_neg ha]
   simp [Gs, Ui, hlt, hltn, hg, hge, W9, k1, k3, k5, v1, v2, hav, ha]
   exact ih _ _ ho (by simp [hsu])
theorem Zhz (d : Des) (hd : DesOk d) (hv : DesVal d) (r : Int) (ru : Rul) (hr : d.rules[r.toNat]? = some ru) (h0 : 0 ≤ r) (h1 : r < (d.rules.length : Int)) (p : List Int) (hp : LeafOk (dlv d) p) :
  EE π Vv [.p (Z6x d), .p (I r), .p (Z1 p)] [] = some (.ap (0 :: 23 :: π), [(0 :: 23 :: π, .row false t_int 1 (flE (ints p)) (ints (aftP d ru p)))]) := by
 have hll := Lv d
 have hl40 := hv.ll
 have hpl := hp.len
 have hro : p.length ≤ room := by simp only [room]; omega
 have hlw := (Yc hv.check).2.2
 have hV := fun π => Zgh (π := π) (dlv d) d.nodes p (by omega) hd.nodes (by omega) hd.args
 simp only [hv.check, valuesE_z hlw hp, ne_eq, not_true, if_false] at hV
 have hrl : r.toNat < d.rules.length := by omega
 have hge : d.rules[r.toNat] = ru := by rw [List.getElem?_eq_getElem hrl] at hr; simpa using hr
 have hmem : ru ∈ d.rules := List.mem_of_getElem? hr
 have hlp := fun x => aft_loop (π := π) d hd (valsD d p) (by rw [Zc9]; simp) ru.writes (by have := hd.writes ru hmem; omega) (fun w hw => by have := Z2b hv hmem hw; exact ⟨this.1, this.2.1, this.2.2.1⟩) (flE (ints p)) ru.writes [] p x rfl (by omega)
 unfold aftP
 simp [Zhx, Z0, Z4b, Z6x, hV, Z4, Z8l, Zgm, h0, h1, hr, hrl, hge, hro, Xx]
 rw [hlp _ (by simp)]
 simp
theorem eql_loop (a b : List Int) (hab : a.length = b.length) (ha : a.length ≤ 1000) :
  ∀ (s t p q : List Int) (x : Env × Sto), a = p ++ s → b = q ++ t → p.length = q.length → mask [0, 1, 12, 13] [] x = some ([(0, .p (Z1 a)), (1, .p (Z1 b)), (12, .p (I a.length)), (13, .p (I p.length))], []) →
  kpO [] [4] [] (bkO 0 (iter (round EE iter π [] [0, 1, 12, 13] P3) x)) = if s = t then some (.nm, [], []) else some (.rt, [(4, .p (.bool false))], [])
 | [], t, p, q, x, h1, h2, h3, hm => by
  rw [Z3 hm]
  have hp : p = a := by simpa using h1.symm
  have ht : t = [] := by
   have := congrArg List.length h2
   simp only [List.length_append] at this
   exact List.length_eq_zero_iff.1 (by rw [← hp] at hab; omega)
  subst hp ht
  simp [Qe, Xp]
 | y :: r, [], p, q, x, h1, h2, h3, hm => by
  exfalso
  have e1 := congrArg List.length h1
  have e2 := congrArg List.length h2
  simp at e1 e2
  omega
 | y :: r, z :: u, p, q, x, h1, h2, h3, hm => by
  rw [Z3 hm]
  have h4 := Zc h1
  have h4n : p.length < a.length := by omega
  have h5n : p.length < b.length := by omega
  have h5i : (p.length : Int) < b.length := by omega
  have g1 : a[p.length]? = some y := by rw [h1]; simp
  have g2 : b[p.length]? = some z := by rw [h2, h3]; simp
  have k1 : a[p.length] = y := by simpa [h4n] using g1
  have k2 : b[p.length] = z := by simpa [h5n] using g2
  have hws := Zf h4n (show a.length ≤ top63 by simp only [top63]; omega)
  have ih := fun x => eql_loop a b hab ha r u (p ++ [y]) (q ++ [z]) x (by simp [h1]) (by simp [h2]) (by simp [h3])
  by_cases hyz : y = z
  ·simp [Qe, Xp, h4, h4n, h5n, h5i, g1, g2, k1, k2, hyz]
   exact ih _ (by simp [hws])
  ·simp [Qe, Xp, h4, h4n, h5n, h5i, g1, g2, k1, k2, hyz]
theorem e_EqualI (a b : List Int) (ha : a.length ≤ 1000) : EE π Uv [.p (Z1 a), .p (Z1 b)] [] = some (.p (.bool (decide (a = b))), []) := by
 by_cases hab : a.length = b.length
 ·have habi : (a.length : Int) = b.length := by omega
  have hlp := fun x => eql_loop (π := π) a b hab ha a b [] [] x rfl rfl rfl
  simp [Z1c, Z0, Q4, hab]
  rw [hlp _ (by simp [hab])]
  by_cases hf : a = b <;> simp [hf]
 ·have habi : ¬ (a.length : Int) = b.length := by omega
  have hne : ¬ a = b := fun e => hab (by rw [e])
  simp [Z1c, Z0, Q4, hab, habi, hne]
def matB (d : Des) (ra rb : Rul) (p : List Int) : Bool := !decide (aftP d rb (aftP d ra p) = aftP d ra (aftP d rb p))
theorem aftP_len (d : Des) (r : Rul) (p : List Int) : (aftP d r p).length = p.length := Zch _ _ _ _
theorem Za1 (d : Des) (hd : DesOk d) (hv : DesVal d) (a b : Int) (ra rb : Rul) (ha : d.rules[a.toNat]? = some ra) (hb : d.rules[b.toNat]? = some rb) (ha0 : 0 ≤ a) (ha1 : a < (d.rules.length : Int)) (hb0 : 0 ≤ b) (hb1 : b < (d.rules.length : Int)) (p : List Int) (hp : LeafOk (dlv d) p) :
  EE π Qy [.p (Z6x d), .p (I a), .p (I b), .p (Z1 p)] [] = some (.p (.bool (matB d ra rb p)), []) := by
 have hma : ra ∈ d.rules := List.mem_of_getElem? ha
 have hmb : rb ∈ d.rules := List.mem_of_getElem? hb
 have hA := fun π => Zhz (π := π) d hd hv a ra ha ha0 ha1 p hp
 have hB := fun π => Zhz (π := π) d hd hv b rb hb hb0 hb1 p hp
 have hAB := fun π => Zhz (π := π) d hd hv b rb hb hb0 hb1 _ (Zio hv hma hp)
 have hBA := fun π => Zhz (π := π) d hd hv a ra ha ha0 ha1 _ (Zio hv hmb hp)
 have hl := hp.len
 have hl2 := Lv d
 have hl3 := hv.ll
 have hE := fun π => e_EqualI (π := π) (aftP d rb (aftP d ra p)) (aftP d ra (aftP d rb p)) (by rw [aftP_len, aftP_len]; omega)
 unfold matB
 generalize hq : decide (aftP d rb (aftP d ra p) = aftP d ra (aftP d rb p)) = q at *
 generalize aftP d rb (aftP d ra p) = X at *
 generalize aftP d ra (aftP d rb p) = Y at *
 generalize aftP d ra p = PA at *
 generalize aftP d rb p = PB at *
 simp [Zdz, Z0, Z0m, Z6x, hA, hB, hAB, hBA, hE, Z4, evRO]
def meetB (d : Des) (ra rb : Rul) (p : List Int) : Bool := decide ((valsD d p).getD ra.guard.toNat 0 = 1) && decide ((valsD d p).getD rb.guard.toNat 0 = 1)
theorem e_meet (d : Des) (hd : DesOk d) (hv : DesVal d) (a b : Int) (ra rb : Rul) (ha : d.rules[a.toNat]? = some ra) (hb : d.rules[b.toNat]? = some rb) (ha0 : 0 ≤ a) (ha1 : a < (d.rules.length : Int)) (hb0 : 0 ≤ b) (hb1 : b < (d.rules.length : Int)) (p : List Int) (hp : LeafOk (dlv d) p) :
  EE π L0 [.p (Z6x d), .p (I a), .p (I b), .p (Z1 p)] [] = some (.p (.bool (meetB d ra rb p)), []) := by
 have hma : ra ∈ d.rules := List.mem_of_getElem? ha
 have hmb : rb ∈ d.rules := List.mem_of_getElem? hb
 have hll := Lv d
 have hl40 := hv.ll
 have hpl := hp.len
 have hlw := (Yc hv.check).2.2
 have hV := fun π => Zgh (π := π) (dlv d) d.nodes p (by omega) hd.nodes (by omega) hd.args
 simp only [hv.check, valuesE_z hlw hp, ne_eq, not_true, if_false] at hV
 have hVl : (valsN d.nodes p d.nodes []).length = d.nodes.length := by rw [Zc9]; simp
 obtain ⟨k1, k2⟩ := Z2i hv hma ra.guard (by simp [Va])
 obtain ⟨k3, k4⟩ := Z2i hv hmb rb.guard (by simp [Va])
 have hal : a.toNat < d.rules.length := by omega
 have hbl : b.toNat < d.rules.length := by omega
 have hag : d.rules[a.toNat] = ra := by rw [List.getElem?_eq_getElem hal] at ha; simpa using ha
 have hbg : d.rules[b.toNat] = rb := by rw [List.getElem?_eq_getElem hbl] at hb; simpa using hb
 unfold meetB valsD
 generalize valsN d.nodes p d.nodes [] = V at *
 have v1 : ra.guard.toNat < V.length := by omega
 have v2 : rb.guard.toNat < V.length := by omega
 have g1 : V.getD ra.guard.toNat 0 = V[ra.guard.toNat] := by simp [List.getD_eq_getElem?_getD, v1]
 have g2 : V.getD rb.guard.toNat 0 = V[rb.guard.toNat] := by simp [List.getD_eq_getElem?_getD, v2]
 rw [g1, g2]
 generalize hx : V[ra.guard.toNat] = x at *
 generalize hy : V[rb.guard.toNat] = y at *
 by_cases h1 : x = 1
 ·simp [Zbl, Z0, Z1g, Z6x, hV, Z4, ha0, ha, hal, hag, Xx, k1, v1, hx, h1, hb0, hb, hbl, hbg, k3, v2, hy]
 ·simp [Zbl, Z0, Z1g, Z6x, hV, Z4, ha0, ha, hal, hag, Xx, k1, v1, hx, h1]
theorem e_MattersAt1 (d : Des) (hlw : ∀ n ∈ dlv d, 1 ≤ n ∧ n ≤ 16) (i : Nat) (hi : i < (dlv d).length) (n : Int) :
  EE π U8 [.p (I i), .p (I n), .p (.ptr [.str d.name, Xn d.inputs, W0 d.elements, Za d.nodes, Ls d.rules, Us d.outputs, Lt d.attrs, Z1 (dlv d)])] [] = some (.p (I (fitE (dlv d) i n)), []) := by
 have hgd : (dlv d).getD i 0 = (dlv d)[i] := by simp [List.getD_eq_getElem?_getD, hi]
 obtain ⟨w1, w2⟩ := hlw _ (List.getElem_mem hi)
 have hgi : (dlv d)[i]? = some (dlv d)[i] := by simp [hi]
 unfold fitE fitsB
 rw [hgd]
 generalize hw : (dlv d)[i] = w at *
 have h0 : decide (0 ≤ w) = true := by simp; omega
 have h1 : ¬ w < 0 := by omega
 have hs := shl1 (by omega : 0 ≤ w) w2
 have hp : 0 < pw w := by unfold pw; exact Int.pow_pos (by omega)
 have hp2 : pw w ≤ 65536 := by
  unfold pw
  obtain ⟨k, hk⟩ : ∃ k : Nat, w = k := ⟨w.toNat, by omega⟩
  subst hk
  rw [Int.toNat_natCast]
  have : (2 : Nat) ^ k ≤ 2 ^ 16 := Nat.pow_le_pow_right (by omega) (by omega)
  have h3 : ((2 ^ k : Nat) : Int) ≤ 65536 := by omega
  simpa using h3
 have hwr : IntKind.i64.wrap (pw w - 1) = pw w - 1 := L6 (by omega) (by omega)
 rw [h0, Bool.true_and]
 generalize pw w = q at *
 simp [Zbv, Z0, F9, hi, hgi, hw, h1, hs, hwr, e_withinC, Ua, IntKind.bits]
def matA (d : Des) (a b : Int) (p : List Int) : Bool × Int :=
 if twoE d a b ≠ 0 then (false, twoE d a b) else if Yl (dlv d) p ≠ 0 then (false, Yl (dlv d) p)
 else if meetB d (rulAt d a) (rulAt d b) p = true then (matB d (rulAt d a) (rulAt d b) p, 0) else (false, 20)
theorem two_z {d : Des} {a b : Int} (h : twoE d a b = 0) : (desE d).2 = 0 ∧ (0 ≤ a ∧ a < (d.rules.length : Int)) ∧ (0 ≤ b ∧ b < (d.rules.length : Int)) ∧ a ≠ b := by
 rw [Zgt] at h
 have h0 : (desE d).2 = 0 := by
  split at h
  ·assumption
  ·contradiction
 rw [if_pos h0] at h
 obtain ⟨ha, hb, hab⟩ := pairE_z h
 have ha := Zb.1 ha
 have hb := Zb.1 hb
 exact ⟨h0, ⟨by omega, by omega⟩, ⟨by omega, by omega⟩, hab⟩
theorem Z7e (d : Des) (hd : DesOk d) (a b : Int) (p : List Int) (hpl : p.length ≤ 1000) :
  EE π Hx [.p (Z5 d), .p (I a), .p (I b), .p (Z1 p)] [] = some (.p (.tup [.bool (matA d a b p).1, I (matA d a b p).2]), []) := by
 have ho := fun π => e_openTwo (π := π) d hd a b
 unfold Z5 at ho
 unfold matA
 by_cases h : twoE d a b = 0
 ·obtain ⟨h0, ⟨a0, a1⟩, ⟨b0, b1⟩, hab⟩ := two_z h
  have hv := Z9e h0
  have hlw := (Yc hv.check).2.2
  have hll := Lv d
  have hl40 := hv.ll
  rw [if_neg (by simp [h])]
  by_cases hl : p.length = (dlv d).length
  ·have hli : (p.length : Int) = (dlv d).length := by omega
   have hea := fun π => e_eachC (π := π) p (by simp only [top63]; omega) (f := U8) (caps := [.ptr [.str d.name, Xn d.inputs, W0 d.elements, Za d.nodes, Ls d.rules, Us d.outputs, Lt d.attrs, Z1 (dlv d)]]) (err := fitE (dlv d)) (fun i x hx => by
    have := (List.getElem?_eq_some_iff.1 hx).1
    simpa using e_MattersAt1 d hlw i (by omega) x)
   have hve : Yl (dlv d) p = (eachE (fitE (dlv d)) 0 p).2 := by unfold Yl; rw [if_neg (by simp [hl])]
   by_cases hvz : Yl (dlv d) p = 0
   ·have hp := Z8t hvz
    have hme := fun π => e_meet (π := π) d hd hv a b _ _ (W4 a0 a1) (W4 b0 b1) a0 a1 b0 b1 p hp
    have hma := fun π => Za1 (π := π) d hd hv a b _ _ (W4 a0 a1) (W4 b0 b1) a0 a1 b0 b1 p hp
    rw [if_neg (by simp [hvz])]
    rw [hve] at hvz
    generalize meetB d (rulAt d a) (rulAt d b) p = M at *
    generalize matB d (rulAt d a) (rulAt d b) p = T at *
    generalize eachE (fitE (dlv d)) 0 p = q at *
    generalize twoE d a b = E at *
    subst h
    cases M
    ·simp [Un, Z0, Wb, Z5, ho, Z4, hl, hli, Ua, Ng, unlE, Z9, hea, hvz, hme]
    ·simp [Un, Z0, Wb, Z5, ho, Z4, hl, hli, Ua, Ng, unlE, Z9, hea, hvz, hme, hma]
   ·rw [if_pos (by simpa using hvz), hve]
    rw [hve] at hvz
    generalize eachE (fitE (dlv d)) 0 p = q at *
    generalize twoE d a b = E at *
    subst h
    simp [Un, Z0, Wb, Z5, ho, Z4, hl, hli, Ua, Ng, unlE, Z9, hea, hvz]
  ·have hli : ¬ (p.length : Int) = (dlv d).length := by omega
   have hv2 : Yl (dlv d) p = 10 := by unfold Yl; rw [if_pos (by simpa using hl)]
   rw [hv2]
   generalize twoE d a b = E at *
   subst h
   simp [Un, Z0, Wb, Z5, ho, Z4, hl, hli, Ua, Ng, unlE, Z9]
 ·rw [if_pos (by simpa using h)]
  generalize twoE d a b = E at *
  by_cases hl : (p.length : Int) = (dlv d).length
  ·simp [Un, Z0, Wb, Z5, ho, Z4, h, hl, Ua, Ng, unlE, Z9]
  ·simp [Un, Z0, Wb, Z5, ho, Z4, h, hl, Ua, Ng, unlE, Z9]
theorem e_LeafValues (a b : List Int) (ha : a.length + b.length ≤ 1000) : EE π Lj [.p (Z1 a), .p (Z1 b)] [] = some (.ap (3 :: 6 :: π), [(3 :: 6 :: π, .row false t_int 1 (some false) (ints (a ++ b)))]) := by
 have hci := fun π => Hf (π := π) (ints a) (by simp only [List.length_map, room]; omega)
 cases b with
 | nil =>
  have hro : a.length ≤ room := by simp only [room]; simp at ha; omega
  simp [Z5a, Z0, K6, hci, hro]
 | cons x r =>
  have hro : a.length + (r.length + 1) ≤ room := by simp only [room]; simp at ha; omega
  simp [Z5a, Z0, K6, hci, hro]
def hapS (d : Des) (ins : List Int) (r : Rul) (st : List Int) : List Int := hapW (valsD d (ins ++ st)) 0 r.writes st
theorem Z6f {d : Des} {ins st : List Int} {r : Rul} (h : ins.length = d.inputs.length) : aftP d r (ins ++ st) = ins ++ hapS d ins r st := by
 unfold aftP hapS
 rw [← h, hapW_off]
abbrev hapSt (π : Id) (V o : List Int) : Sto := [(3 :: 20 :: π, .row false t_int 1 (some false) (ints o)), rowI (12 :: 18 :: π) (some false) V]
theorem hap_loop (d : Des) (V : List Int) (hV : V.length = d.nodes.length) (ws : List Wrt) (hwl : ws.length ≤ 1000) (hws : ∀ w ∈ ws, (0 ≤ w.el ∧ w.el < (d.elements.length : Int)) ∧ (0 ≤ w.whn ∧ w.whn < (d.nodes.length : Int)) ∧ (0 ≤ w.val ∧ w.val < (d.nodes.length : Int))) :
  ∀ (suf pre : List Wrt) (o : List Int) (x : Env × Sto), ws = pre ++ suf → o.length = d.elements.length →
  mask [9, 10, 11, 12] [] x = some ([(9, .ap (12 :: 18 :: π)), (10, .ap (3 :: 20 :: π)), (11, .p (Z1s ws)), (12, .p (I pre.length))], hapSt π V o) →
  kpO [10] [8] [] (bkO 0 (iter (round EE iter π [] [9, 10, 11, 12] F3) x)) = some (.nm, [(10, .ap (3 :: 20 :: π))], [(3 :: 20 :: π, .row false t_int 1 (some false) (ints (hapW V 0 suf o)))])
 | [], pre, o, x, h, ho, hm => by
  rw [Z3 hm]
  have : pre = ws := by simpa using h.symm
  subst this
  simp [Gp, Uf, hapW]
 | w :: suf, pre, o, x, h, ho, hm => by
  rw [Z3 hm]
  have hlt := Zc h
  have hltn : pre.length < ws.length := by omega
  have hg : ws[pre.length]? = some w := by rw [h]; simp
  have hge : ws[pre.length] = w := by simpa [hltn] using hg
  have hsu := Zf hltn (show ws.length ≤ top63 by simp only [top63]; omega)
  obtain ⟨⟨k1, k2⟩, ⟨k3, k4⟩, ⟨k5, k6⟩⟩ := hws w (by rw [h]; simp)
  have ih := fun o x => hap_loop d V hV ws hwl hws suf (pre ++ [w]) o x (by simp [h])
  have hst : hapW V 0 (w :: suf) o = hapW V 0 suf (if V.getD w.whn.toNat 0 = 1 then o.set (0 + w.el.toNat) (V.getD w.val.toNat 0) else o) := rfl
  have v1 : w.whn.toNat < V.length := by omega
  have v2 : w.val.toNat < V.length := by omega
  have g1 : V.getD w.whn.toNat 0 = V[w.whn.toNat] := by simp [List.getD_eq_getElem?_getD, v1]
  have g2 : V.getD w.val.toNat 0 = V[w.val.toNat] := by simp [List.getD_eq_getElem?_getD, v2]
  have hol : w.el.toNat < o.length := by omega
  rw [hst, g1, g2, Nat.zero_add]
  generalize hav : V[w.whn.toNat] = a at *
  generalize hbv : V[w.val.toNat] = b at *
  by_cases ha : a = 1
  ·rw [if_pos ha]
   simp [Gp, Uf, hlt, hltn, hg, hge, W9, k1, k3, k5, v1, v2, hav, ha, hol, hbv]
   exact ih _ _ (by simp [ho]) (by simp [hsu, PV.setc])
  ·rw [if_neg ha]
   simp [Gp, Uf, hlt, hltn, hg, hge, W9, k1, k3, k5, v1, v2, hav, ha]
   exact ih _ _ ho (by simp [hsu])
theorem Z6b (d : Des) (hd : DesOk d) (hv : DesVal d) (r : Int) (ru : Rul) (hr : d.rules[r.toNat]? = some ru) (h0 : 0 ≤ r) (h1 : r < (d.rules.length : Int)) (ins st : List Int) (hin : ins.length = d.inputs.length) (hp : LeafOk (dlv d) (ins ++ st)) :
  EE π Vs [.p (Z5 d), .p (I r), .p (Z1 ins), .p (Z1 st)] [] = some (.ap (3 :: 20 :: π), [(3 :: 20 :: π, .row false t_int 1 (some false) (ints (hapS d ins ru st)))]) := by
 have hll := Lv d
 have hl40 := hv.ll
 have hpl := hp.len
 rw [List.length_append] at hpl
 have hL := fun π => e_LeafValues (π := π) ins st (by omega)
 have hN := fun π => Zbm (π := π) hd.nodes hd.args (L5 hv.check) hp
 have hci := fun π => Hf (π := π) (ints st) (by simp only [List.length_map, room]; omega)
 have hrl : r.toNat < d.rules.length := by omega
 have hge : d.rules[r.toNat] = ru := by rw [List.getElem?_eq_getElem hrl] at hr; simpa using hr
 have hmem : ru ∈ d.rules := List.mem_of_getElem? hr
 have hlp := fun x => hap_loop (π := π) d (valsD d (ins ++ st)) (by rw [Zc9]; simp) ru.writes (by have := hd.writes ru hmem; omega) (fun w hw => by have := Z2b hv hmem hw; exact ⟨this.1, this.2.1, this.2.2.1⟩) ru.writes [] st x rfl (by omega)
 unfold hapS
 simp only [Z1, ints, List.map_append] at hL hN
 have hfg : PV.fg.PV.fgL (List.map I ins ++ List.map I st) = List.map I ins ++ List.map I st := by
  rw [show List.map I ins ++ List.map I st = (ins ++ st).map (PV.int .i64) by simp, fgL_ints]
 unfold valsD at *
 generalize valsN d.nodes (ins ++ st) d.nodes [] = V at *
 simp [Zhm, Z0, Z3v, Z5, hL, hN, hci, hfg, Z4, evRO, h0, h1, hr, hrl, hge, Xx]
 rw [hlp _ (by simp)]
 simp
theorem isv_loop (leaves vs : List Int) (hlw : ∀ n ∈ leaves, 1 ≤ n ∧ n ≤ 16) (hl : vs.length = leaves.length) (hvl : vs.length ≤ 1000) :
  ∀ (suf pre : List Int) (x : Env × Sto), vs = pre ++ suf → mask [0, 1, 5] [] x = some ([(0, .p (Z1 leaves)), (1, .p (Z1 vs)), (5, .p (I pre.length))], []) →
  kpO [] [4] [] (bkO 0 (iter (round EE iter π [] [0, 1, 5] F2) x)) = if (eachE (fitE leaves) pre.length suf).2 = 0 then some (.nm, [], []) else some (.rt, [(4, .p (.bool false))], [])
 | [], pre, x, h, hm => by
  rw [Z3 hm]
  have : pre = vs := by simpa using h.symm
  subst this
  simp [Gn, Ue, eachE]
 | y :: suf, pre, x, h, hm => by
  rw [Z3 hm]
  have hlt := Zc h
  have hltn : pre.length < vs.length := by omega
  have hg : vs[pre.length]? = some y := by rw [h]; simp
  have hge : vs[pre.length] = y := by simpa [hltn] using hg
  have hsu := Zf hltn (show vs.length ≤ top63 by simp only [top63]; omega)
  have ih := fun x => isv_loop leaves vs hlw hl hvl suf (pre ++ [y]) x (by simp [h])
  have hll : pre.length < leaves.length := by omega
  obtain ⟨w1, w2⟩ := hlw _ (List.getElem_mem hll)
  have hF := fun π => e_Fits (π := π) y leaves[pre.length] ⟨by omega, w2⟩
  have hgd : leaves.getD pre.length 0 = leaves[pre.length] := by simp [List.getD_eq_getElem?_getD, hll]
  have hst : eachE (fitE leaves) pre.length (y :: suf) = if fitE leaves pre.length y = 0 then eachE (fitE leaves) (pre.length + 1) suf else (pre.length, fitE leaves pre.length y) := rfl
  have hfe : fitE leaves pre.length y = unlE (fitsB y leaves[pre.length]) 2 := by unfold fitE; rw [hgd]
  rw [hst, hfe]
  have hgl : leaves[pre.length]? = some leaves[pre.length] := by simp [hll]
  generalize hw : leaves[pre.length] = w at *
  cases hf : fitsB y w with
  | true =>
   rw [hf] at hF
   simp [Gn, Ue, hlt, hltn, hg, hge, hll, hgl, hw, hF, unlE]
   have := ih
   simp only [List.length_append, List.length_singleton] at this
   exact this _ (by simp [hsu])
  | false =>
   rw [hf] at hF
   simp [Gn, Ue, hlt, hltn, hg, hge, hll, hgl, hw, hF, unlE]
theorem eachE_fit (leaves : List Int) : ∀ (l : List Int) (k : Nat), (eachE (fitE leaves) k l).2 = 0 ∨ (eachE (fitE leaves) k l).2 = 2
 | [], _ => .inl rfl
 | x :: r, k => by
  rw [eachE]
  split
  ·exact eachE_fit leaves r (k + 1)
  ·rename_i h
   right
   show fitE leaves k x = 2
   unfold fitE at h ⊢
   cases hb : fitsB x (leaves.getD k 0) with
   | true => rw [hb] at h; exact absurd rfl h
   | false => rfl
theorem e_PointErr (d : Des) (hd : DesOk d) (hv : DesVal d) (p : List Int) (hpl : p.length ≤ 1000) : EE π Lf [.p (Z5 d), .p (Z1 p)] [] = some (.p (I (Yl (dlv d) p)), []) := by
 have hL := fun π => Z07 (π := π) d hd.inputs hd.elements
 have hlw := (Yc hv.check).2.2
 unfold Z5 at hL
 unfold Yl
 by_cases hl : p.length = (dlv d).length
 ·have hli : (p.length : Int) = (dlv d).length := by omega
  have hlp := fun π x => isv_loop (π := π) (dlv d) p hlw hl hpl p [] x rfl
  have h2 := eachE_fit (dlv d) p 0
  rw [if_neg (by simp [hl])]
  have hI : ∀ π, EE π Fd [.p (Z1 (dlv d)), .p (Z1 p)] [] = some (.p (.bool (decide ((eachE (fitE (dlv d)) 0 p).2 = 0))), []) := fun π => by
   simp [Zhl, Z0, Z3u, hl]
   rw [hlp _ _ (by simp)]
   simp only [List.length_nil]
   by_cases hz : (eachE (fitE (dlv d)) 0 p).2 = 0
   ·simp [hz]
   ·simp [hz]
  generalize (eachE (fitE (dlv d)) 0 p).2 = q at *
  rcases h2 with h2 | h2
  ·subst h2
   simp [Z05, Z0, P6, Z5, hL, hl, hli, hI, Z4]
  ·subst h2
   simp [Z05, Z0, P6, Z5, hL, hl, hli, hI, Z4]
 ·have hli : ¬ (p.length : Int) = (dlv d).length := by omega
  rw [if_pos (by simpa using hl)]
  simp [Z05, Z0, P6, Z5, hL, hl, hli, Z4]
def sumI : List Int → Int
 | [] => 0
 | x :: r => x + sumI r
theorem Zgx : ∀ a b : List Int, sumI (a ++ b) = sumI a + sumI b
 | [], b => by simp [sumI]
 | x :: r, b => by simp only [List.cons_append, sumI, Zgx r b]; omega
theorem Zgw {l : List Int} (h : ∀ n ∈ l, 1 ≤ n ∧ n ≤ 16) : 0 ≤ sumI l ∧ sumI l ≤ 16 * l.length := by
 induction l with
 | nil => simp [sumI]
 | cons x r ih =>
  have h1 := h x (by simp)
  have h2 := ih fun n hn => h n (by simp [hn])
  simp only [sumI, List.length_cons]
  omega
theorem alb_loop (leaves : List Int) (hlw : ∀ n ∈ leaves, 1 ≤ n ∧ n ≤ 16) (hl : leaves.length ≤ 1000) :
  ∀ (suf pre : List Int) (x : Env × Sto), leaves = pre ++ suf → mask [0, 3, 4] [] x = some ([(0, .p (Z1 leaves)), (3, .p (I (sumI pre))), (4, .p (I pre.length))], []) →
  kpO [3] [2] [] (bkO 0 (iter (round EE iter π [] [0, 3, 4] Hh) x)) = some (.nm, [(3, .p (I (sumI leaves)))], [])
 | [], pre, x, h, hm => by
  rw [Z3 hm]
  have : pre = leaves := by simpa using h.symm
  subst this
  simp [Z2d, Pl]
 | y :: suf, pre, x, h, hm => by
  rw [Z3 hm]
  have hlt := Zc h
  have hltn : pre.length < leaves.length := by omega
  have hg : leaves[pre.length]? = some y := by rw [h]; simp
  have hge : leaves[pre.length] = y := by simpa [hltn] using hg
  have hsu := Zf hltn (show leaves.length ≤ top63 by simp only [top63]; omega)
  have ih := fun x => alb_loop leaves hlw hl suf (pre ++ [y]) x (by simp [h])
  have hs := Zgw (l := pre) fun n hn => hlw n (by rw [h]; simp [hn])
  have hy := hlw y (by rw [h]; simp)
  have hw : IntKind.i64.wrap (sumI pre + y) = sumI (pre ++ [y]) := by rw [Zgx, L6 (by omega) (by omega)]; simp [sumI]
  generalize sumI (pre ++ [y]) = S1 at *
  generalize sumI pre = S0 at *
  simp [Z2d, Pl, hlt, hltn, hg, hge, hw]
  exact ih _ (by simp [hsu])
theorem Z5j (leaves : List Int) (hlw : ∀ n ∈ leaves, 1 ≤ n ∧ n ≤ 16) (hl : leaves.length ≤ 1000) : EE π Uk [.p (Z1 leaves)] [] = some (.p (I (sumI leaves)), []) := by
 have hlp := fun x => alb_loop (π := π) leaves hlw hl leaves [] x rfl
 simp [Zf1, Z0, Z1w]
 rw [hlp _ (by simp [sumI])]
 simp
def allE (d : Des) : Int := if 12 < sumI (dlv d) then 8 else 0
theorem Zi6 (d : Des) (hd : DesOk d) (hv : DesVal d) : EE π Lg [.p (Z5 d)] [] = some (.p (I (allE d)), []) := by
 have hL := fun π => Z07 (π := π) d hd.inputs hd.elements
 have hlw := (Yc hv.check).2.2
 have hA := fun π => Z5j (π := π) (dlv d) hlw (by have := Lv d; have := hv.ll; omega)
 unfold Z5 at hL
 unfold allE
 by_cases h : 12 < sumI (dlv d)
 ·simp [Z98, Z0, Fk, Z5, hL, hA, Z4, h]
 ·simp [Z98, Z0, Fk, Z5, hL, hA, Z4, h]
theorem e_MeetsR (d : Des) (hd : DesOk d) (hv : DesVal d) (a b : Int) (ra rb : Rul) (ha : d.rules[a.toNat]? = some ra) (hb : d.rules[b.toNat]? = some rb) (ha0 : 0 ≤ a) (ha1 : a < (d.rules.length : Int)) (hb0 : 0 ≤ b) (hb1 : b < (d.rules.length : Int)) (p : List Int) (hp : LeafOk (dlv d) p) :
  EE π G9 [.p (Z5 d), .p (I a), .p (I b), .p (Z1 p)] [] = some (.p (.bool (meetB d ra rb p)), []) := by
 have hma : ra ∈ d.rules := List.mem_of_getElem? ha
 have hmb : rb ∈ d.rules := List.mem_of_getElem? hb
 have hN := fun π => Zbm (π := π) hd.nodes hd.args (L5 hv.check) hp
 have hVl : (valsN d.nodes p d.nodes []).length = d.nodes.length := by rw [Zc9]; simp
 obtain ⟨k1, k2⟩ := Z2i hv hma ra.guard (by simp [Va])
 obtain ⟨k3, k4⟩ := Z2i hv hmb rb.guard (by simp [Va])
 have hal : a.toNat < d.rules.length := by omega
 have hbl : b.toNat < d.rules.length := by omega
 have hag : d.rules[a.toNat] = ra := by rw [List.getElem?_eq_getElem hal] at ha; simpa using ha
 have hbg : d.rules[b.toNat] = rb := by rw [List.getElem?_eq_getElem hbl] at hb; simpa using hb
 unfold meetB valsD
 generalize valsN d.nodes p d.nodes [] = V at *
 have v1 : ra.guard.toNat < V.length := by omega
 have v2 : rb.guard.toNat < V.length := by omega
 have g1 : V.getD ra.guard.toNat 0 = V[ra.guard.toNat] := by simp [List.getD_eq_getElem?_getD, v1]
 have g2 : V.getD rb.guard.toNat 0 = V[rb.guard.toNat] := by simp [List.getD_eq_getElem?_getD, v2]
 rw [g1, g2]
 generalize hx : V[ra.guard.toNat] = x at *
 generalize hy : V[rb.guard.toNat] = y at *
 by_cases h1 : x = 1
 ·simp [Zbi, Z0, Z1e, Z5, hN, Z4, ha0, ha, hal, hag, Xx, k1, v1, hx, h1, hb0, hb, hbl, hbg, k3, v2, hy]
 ·simp [Zbi, Z0, Z1e, Z5, hN, Z4, ha0, ha, hal, hag, Xx, k1, v1, hx, h1]
theorem Zgi (d : Des) (hd : DesOk d) (hv : DesVal d) (a b : Int) (ra rb : Rul) (ha : d.rules[a.toNat]? = some ra) (hb : d.rules[b.toNat]? = some rb) (ha0 : 0 ≤ a) (ha1 : a < (d.rules.length : Int)) (hb0 : 0 ≤ b) (hb1 : b < (d.rules.length : Int)) (p : List Int) (hp : LeafOk (dlv d) p) :
  EE π Pz [.p (Z5 d), .p (I a), .p (I b), .p (Z1 p)] [] = some (.p (.bool (matB d ra rb p)), []) := by
 have hma : ra ∈ d.rules := List.mem_of_getElem? ha
 have hmb : rb ∈ d.rules := List.mem_of_getElem? hb
 have hl := hp.len
 have hl2 := Lv d
 have hl3 := hv.ll
 obtain ⟨ins, st, hps, hin⟩ : ∃ ins st, p = ins ++ st ∧ ins.length = d.inputs.length := ⟨p.take d.inputs.length, p.drop d.inputs.length, (List.take_append_drop _ _).symm, by rw [List.length_take]; omega⟩
 subst hps
 have e1 := Z6f (d := d) (ins := ins) (st := st) (r := ra) hin
 have e2 := Z6f (d := d) (ins := ins) (st := st) (r := rb) hin
 have e3 := Z6f (d := d) (ins := ins) (st := hapS d ins ra st) (r := rb) hin
 have e4 := Z6f (d := d) (ins := ins) (st := hapS d ins rb st) (r := ra) hin
 have hA := fun π => Z6b (π := π) d hd hv a ra ha ha0 ha1 ins st hin hp
 have hB := fun π => Z6b (π := π) d hd hv b rb hb hb0 hb1 ins st hin hp
 have hAB := fun π => Z6b (π := π) d hd hv b rb hb hb0 hb1 ins (hapS d ins ra st) hin (e1 ▸ Zio hv hma hp)
 have hBA := fun π => Z6b (π := π) d hd hv a ra ha ha0 ha1 ins (hapS d ins rb st) hin (e2 ▸ Zio hv hmb hp)
 have hx : (hapS d ins rb (hapS d ins ra st)).length = st.length := by unfold hapS; rw [Zch, Zch]
 rw [List.length_append] at hl
 have hI := fun π => e_Ints (π := π) (hapS d ins rb (hapS d ins ra st)) (hapS d ins ra (hapS d ins rb st)) (by rw [hx]; simp only [top63]; omega)
 have hM : matB d ra rb (ins ++ st) = !decide (hapS d ins rb (hapS d ins ra st) = hapS d ins ra (hapS d ins rb st)) := by
  unfold matB
  rw [e1, e2, e3, e4]
  congr 1
  exact decide_eq_decide.2 ⟨fun h => List.append_cancel_left h, fun h => by rw [h]⟩
 rw [hM]
 have hll : ins.length ≤ ins.length + st.length := by omega
 have hli : (ins.length : Int) ≤ ins.length + st.length := by omega
 generalize decide (hapS d ins rb (hapS d ins ra st) = hapS d ins ra (hapS d ins rb st)) = q at *
 generalize hapS d ins rb (hapS d ins ra st) = X at *
 generalize hapS d ins ra (hapS d ins rb st) = Y at *
 generalize hapS d ins ra st = PA at *
 generalize hapS d ins rb st = PB at *
 unfold Z5 at hA hB hAB hBA
 have h0n : (0 : Int) ≤ ins.length + st.length := by omega
 have htn : ((ins.length : Int) + st.length).toNat = ins.length + st.length := by omega
 have htk : List.take st.length (List.map I st) = List.map I st := List.take_of_length_le (by simp)
 simp [Zf0, Z0, Z1v, Z5, ← hin, hll, hli, h0n, htn, htk, hA, hB, hAB, hBA, hI, Z4, evRO, seg]
def upI (n : Nat) : List Int := (List.range n).map fun i : Nat => (i : Int)
theorem upI_succ (n : Nat) : upI (n + 1) = upI n ++ [(n : Int)] := by simp [upI, List.range_succ]
theorem Z4o (n : Nat) : (upI n).length = n := by simp [upI]
theorem upI_get {n i : Nat} (h : i < n) : (upI n)[i]? = some (i : Int) := by simp [upI, h]
theorem sumI_take {l : List Int} {i : Nat} (h : i < l.length) : sumI (l.take (i + 1)) = sumI (l.take i) + l[i] := by
 rw [List.take_add_one, Zgx, List.getElem?_eq_getElem h]
 simp [sumI]
def wsm (l : List Int) : Nat → Int
 | 0 => 0
 | i + 1 => IntKind.i64.wrap (wsm l i + l.getD i 0)
theorem wsm_eq {l : List Int} (hlw : ∀ n ∈ l, 1 ≤ n ∧ n ≤ 16) (hl : l.length ≤ 1000) : ∀ i : Nat, i ≤ l.length → wsm l i = sumI (l.take i)
 | 0, _ => rfl
 | i + 1, hi => by
  have ih := wsm_eq hlw hl i (by omega)
  have hs := Zgw (l := l.take i) fun n hn => hlw n (List.mem_of_mem_take hn)
  have hil : i < l.length := by omega
  have hy := hlw _ (List.getElem_mem hil)
  have htl : (l.take i).length ≤ 1000 := by rw [List.length_take]; omega
  have hg : l.getD i 0 = l[i] := by simp [List.getD_eq_getElem?_getD, hil]
  rw [wsm, ih, hg, sumI_take hil, L6 (by omega) (by omega)]
theorem bits_loop (d : Des) (hl : (dlv d).length ≤ 2000) :
  ∀ (m i : Nat) (x : Env × Sto), i + m = (dlv d).length → mask [2, 5, 8, 9, 10] [] x = some ([(2, .ref (2 :: π) 0), (5, .p (I (wsm (dlv d) i))), (8, .p (Z1 (upI (dlv d).length))), (9, .p (I (dlv d).length)), (10, .p (I i))], [(2 :: π, .box false ((Z61 d).map .p))]) →
  kpO [5] [4] [] (bkO 0 (iter (round EE iter π [] [2, 5, 8, 9, 10] Z0n) x)) = some (.nm, [(5, .p (I (wsm (dlv d) (dlv d).length)))], [])
 | 0, i, x, h, hm => by
  rw [Z3 hm]
  have hi : i = (dlv d).length := by omega
  subst hi
  simp [Z4s, Ku]
 | m + 1, i, x, h, hm => by
  rw [Z3 hm]
  have hil : i < (dlv d).length := by omega
  have hlt : (i : Int) < (dlv d).length := by omega
  have hg := upI_get hil
  have hul := Z4o (dlv d).length
  have hge : (upI (dlv d).length)[i]'(by omega) = (i : Int) := by rw [List.getElem?_eq_getElem (by omega)] at hg; simpa using hg
  have hgl : (dlv d)[i]? = some (dlv d)[i] := by simp [hil]
  have hsu := Zf hil (show (dlv d).length ≤ top63 by simp only [top63]; omega)
  have ih := fun x => bits_loop d hl m (i + 1) x (by omega)
  have hw : wsm (dlv d) (i + 1) = IntKind.i64.wrap (wsm (dlv d) i + (dlv d).getD i 0) := rfl
  have hgd : (dlv d).getD i 0 = (dlv d)[i] := by simp [List.getD_eq_getElem?_getD, hil]
  rw [hgd] at hw
  generalize hyy : (dlv d)[i] = y at *
  generalize wsm (dlv d) (i + 1) = S1 at *
  generalize wsm (dlv d) i = S0 at *
  have hul2 : i < (upI (dlv d).length).length := by omega
  simp [Z4s, Ku, hlt, hil, hg, hge, hul, hul2, hgl, hyy]
  exact ih _ (by simp [hsu, hw])
theorem e_bits (d : Des) (hl : (dlv d).length ≤ 2000) : EE π L3 [.p (Z6x d), .p (Z1 (upI (dlv d).length))] [] = some (.p (I (wsm (dlv d) (dlv d).length)), []) := by
 have hlp := fun x => bits_loop (π := π) d hl (dlv d).length 0 x (by omega)
 have hul := Z4o (dlv d).length
 simp [e_cf_nw_bits, Z0, Z5z, Z6x]
 rw [hlp _ (by simp [wsm, hul])]
 simp
def digD (lv : List Int) : Nat → Nat → List Int → List Int
 | 0, _, o => o
 | n + 1, k, o => digD lv n (k / 2 ^ (lv.getD n 0).toNat) (o.set n ((k % 2 ^ (lv.getD n 0).toNat : Nat) : Int))
def pntD (lv : List Int) (k : Nat) : List Int := digD lv lv.length k (List.replicate lv.length 0)
theorem digD_ok {lv : List Int} (hlw : ∀ n ∈ lv, 1 ≤ n ∧ n ≤ 16) : ∀ (n k : Nat) (o : List Int), n ≤ lv.length → LeafOk lv o → LeafOk lv (digD lv n k o)
 | 0, _, _, _, h => h
 | n + 1, k, o, hn, h => by
  rw [digD]
  refine digD_ok hlw n _ _ (by omega) ⟨by rw [List.length_set]; exact h.len, fun j hj => ?_⟩
  have hl := h.len
  by_cases he : n = j
  ·subst he
   have hm := Nat.mod_lt k (Nat.two_pow_pos (lv.getD n 0).toNat)
   have hg : (o.set n ((k % 2 ^ (lv.getD n 0).toNat : Nat) : Int)).getD n 0 = ((k % 2 ^ (lv.getD n 0).toNat : Nat) : Int) := by
    rw [List.getD_eq_getElem?_getD, List.getElem?_set_self (by omega)]; rfl
   rw [hg]
   refine ⟨by omega, ?_⟩
   unfold pw
   have : ((2 : Int) ^ (lv.getD n 0).toNat) = ((2 ^ (lv.getD n 0).toNat : Nat) : Int) := by simp
   rw [this]
   omega
  ·have := h.ok j hj
   have hg : (o.set n ((k % 2 ^ (lv.getD n 0).toNat : Nat) : Int)).getD j 0 = o.getD j 0 := by
    rw [List.getD_eq_getElem?_getD, List.getElem?_set_ne he, ← List.getD_eq_getElem?_getD]
   rw [hg]
   exact this
theorem zeros_ok {lv : List Int} : LeafOk lv (List.replicate lv.length 0) := by
 refine ⟨by simp, fun j hj => ?_⟩
 have : (List.replicate lv.length (0 : Int)).getD j 0 = 0 := by simp [List.getD_eq_getElem?_getD, hj]
 rw [this]
 refine ⟨Int.le_refl _, ?_⟩
 unfold pw
 exact Int.pow_pos (by omega)
theorem pntD_ok {lv : List Int} (hlw : ∀ n ∈ lv, 1 ≤ n ∧ n ≤ 16) (k : Nat) : LeafOk lv (pntD lv k) := digD_ok hlw _ _ _ (Nat.le_refl _) zeros_ok
def fstP (d : Des) (ra rb : Rul) : Nat → Nat → Option (List Int)
 | 0, _ => none
 | m + 1, k => if (meetB d ra rb (pntD (dlv d) k) && matB d ra rb (pntD (dlv d) k)) = true then some (pntD (dlv d) k) else fstP d ra rb m (k + 1)
end Go.Proofs.YteecfnfjlclhdaaGreat.V
