/- What all rules share, by the program. Which rule may precede which, and the relation of two rules, by the program. Which rule may precede which, and the relation of two rules, by the reference. RelationOf and MatrixOf. Sorted values of a list. Rules of a design, opened; the order of some rules, by t -/
import Derived.Test.YteecfnfjlclhdaaGreatS4

set_option linter.unusedSimpArgs false
set_option linter.unusedVariables false

/- What all rules share, by the program. -/
namespace Go.Proofs.YteecfnfjlclhdaaGreat.V
open Go (IntKind BinOp UnOp)
variable {π : Id}
abbrev rdP (d : Des) (r : Rul) : PV := .sl 1 (flagE (rdE d r)) (ints (rdE d r))
abbrev wrP (r : Rul) : PV := .sl 1 (flagE (r.writes.map fun w => w.el)) (ints (wrE r))
abbrev rowLL (id : Id) (l : List PV) : Id × Blk := (id, .row false V0 1 (flagE l) l)
abbrev shCells (π : Id) (d : Des) : List AV := [.p (.str d.name), .p (X7 d.inputs), .p (Xd d.elements), .p (Z8 d.nodes), .p (Uz d.rules), .p (Vh d.outputs), .p (Q0 d.attrs), .p (Z2 (dlv d)), .ap (900003 :: π), .ap (1000003 :: π)]
abbrev shZ : List AV := [.p (.str ⟨#[]⟩), .p (.sl 2 (some true) []), .p (.sl 5 (some true) []), .p (.sl 4 (some true) []), .p (.sl 3 (some true) []), .p (.sl 2 (some true) []), .p (.sl 2 (some true) []), .p (.sl 1 (some true) []), .p (.sl 1 (some true) []), .p (.sl 1 (some true) [])]
theorem shr_region (N : PV) (C1 C2 C3 : List AV) (h1 : C1.length = 8) (h1' : AV.mkAgg (seg 0 8 C1) = .p N) (h1i : AV.ids.AV.idsL C1 = []) (h2i : AV.ids.AV.idsL C2 = [])
  (h3 : C3.length = 10) (h38 : C3[8]'(by omega) = .ap (900003 :: π)) (h39 : C3[9]'(by omega) = .ap (1000003 :: π)) (h3i : AV.ids.AV.idsL C3 = [900003 :: π, 1000003 :: π])
  (K3 : List AV) (hk : ∀ p : Id → Bool, p (900003 :: π) = true → p (1000003 :: π) = true → C3.map (AV.killP p) = K3) (hk3 : K3.length = 10) (hki : AV.ids.AV.idsL K3 = [])
  (L3 : List AV) (hs1 : Zm K3 8 [AV.ap (900003 :: π)] = L3) (hl3 : L3.length = 10) (hs2 : Zm L3 9 [AV.ap (1000003 :: π)] = C3)
  (n : Int) (k : Nat) (R W : List PV) (fr fw fR fW : Option Bool) (r w : List Int) (hfr : fR = flagE R) (hfw : fW = flagE W) (hR : R.length + 1 ≤ room) (hW : W.length + 1 ≤ room)
  (hN : N.fg = N)
  (hrd : ∀ π, EE π L2 [.p N, .p (I k)] [] = some (.ap (1004 :: 41 :: π), [(1004 :: 41 :: π, .row false t_int 1 fr (ints r))]))
  (hwr : ∀ π, EE π N8 [.p N, .p (I k)] [] = some (.p (.sl 1 fw (ints w)), [])) (hlt : (k : Int) < n) (hws : IntKind.i64.wrap ((k : Int) + 1) = k + 1) :
  ∃ st, evC EE iter π [] U3 [(1, .ref (1 :: π) 0), (2, .ref (2 :: π) 0), (3, .ref (3 :: π) 0), (10, .p (I n)), (11, .p (I k))] [(1000003 :: π, .row false V0 1 fW W), (900003 :: π, .row false V0 1 fR R), (3 :: π, .box false C3), (2 :: π, .box false C2), (1 :: π, .box false C1)] = some (.nm, st) ∧ mask [1, 2, 3, 10, 11] [] st = some ([(1, .ref (1 :: π) 0), (2, .ref (2 :: π) 0), (3, .ref (3 :: π) 0), (10, .p (I n)), (11, .p (I (k + 1 : Nat)))], [(1000003 :: π, .row false V0 1 (some false) (W ++ [.sl 1 fw (ints w)])), (900003 :: π, .row false V0 1 (some false) (R ++ [.sl 1 fr (ints r)])), (3 :: π, .box false C3), (2 :: π, .box false C2), (1 :: π, .box false C1)]) := by
 obtain ⟨q, hq⟩ : ∃ q, evC EE iter π [] U3 [(1, .ref (1 :: π) 0), (2, .ref (2 :: π) 0), (3, .ref (3 :: π) 0), (10, .p (I n)), (11, .p (I k))] [(1000003 :: π, .row false V0 1 fW W), (900003 :: π, .row false V0 1 fR R), (3 :: π, .box false C3), (2 :: π, .box false C2), (1 :: π, .box false C1)] = q := ⟨_, rfl⟩
 have hq2 := hq
 simp [-seg, -AV.mkAgg, -Zm, Z2u, Pu, hlt, hrd, hwr, evRO, Z4, hR, hW, h1, h1', h1i, h2i, h3, h38, h39, h3i, hk, hk3, hs1, hl3, hs2, hN, hws] at hq2
 subst hq2
 refine ⟨_, hq, ?_⟩
 simp [h1i, h2i, h3i]
theorem Z9k (d : Des) (l : List Rul) : PV.fg.PV.fgL (l.map (rdP d)) = l.map fun r => Z2 (rdE d r) := L6 _ _ (fun x => by simp) l
theorem Z9j (l : List Rul) : PV.fg.PV.fgL (l.map wrP) = l.map fun r => Z2 (wrE r) := L6 _ _ (fun x => by simp) l
theorem shr_loop (d : Des) (hd : DesOk d) (hv : DesVal d) : ∀ (suf pre : List Rul) (x : Env × Sto), d.rules = pre ++ suf →
  mask [1, 2, 3, 10, 11] [] x = some ([(1, .ref (1 :: π) 0), (2, .ref (2 :: π) 0), (3, .ref (3 :: π) 0), (10, .p (I d.rules.length)), (11, .p (I pre.length))], [rowLL (1000003 :: π) (pre.map wrP), rowLL (900003 :: π) (pre.map (rdP d)), (3 :: π, .box false (shCells π d)), (2 :: π, .box false shZ), Zf9 (1 :: π) d]) →
  kpO [2, 3] [2] [] (bkO 0 (iter (round EE iter π [] [1, 2, 3, 10, 11] U3) x)) = some (.nm, [(2, .ref (2 :: π) 0), (3, .ref (3 :: π) 0)], [rowLL (1000003 :: π) (d.rules.map wrP), rowLL (900003 :: π) (d.rules.map (rdP d)), (3 :: π, .box false (shCells π d)), (2 :: π, .box false shZ)])
 | [], pre, x, h, hm => by
  rw [Z0 hm]
  have : pre = d.rules := by simpa using h.symm
  subst this
  simp [Z2u, Pu]
 | y :: suf, pre, x, h, hm => by
  rw [Z0 hm]
  have hg : d.rules[pre.length]? = some y := by rw [h]; simp
  have hlt := Z7 h
  have hr := hd.rules
  have hws := Zb (show pre.length < d.rules.length by omega) (show d.rules.length ≤ top63 by simp only [top63]; omega)
  have hrd := fun π => e_readsC (π := π) d hd hv pre.length y (by simpa using hg) (by omega) hlt
  have hwr := fun π => e_writesC (π := π) d hd pre.length y (by simpa using hg) (by omega) hlt
  have hrm : pre.length + 1 ≤ room := by simp only [room]; omega
  obtain ⟨st, h1, h2⟩ := shr_region (π := π) (Zfi d) ((Z6i d).map .p) shZ (shCells π d) (by simp) (by simp) (by simp) (by simp) (by simp) (by simp) (by simp) (by simp)
   _ (fun p h1 h2 => by simp only [List.map_cons, List.map_nil, AV.killP, AV.ids, List.any_nil, List.any_cons, h1, h2, Bool.or_false, if_true, Bool.false_eq_true, if_false]; rfl) (by simp) (by simp) _ rfl (by simp) (by simp)
   d.rules.length pre.length (pre.map (rdP d)) (pre.map wrP) (flagE (rdE d y)) (flagE (y.writes.map fun w => w.el)) _ _ (rdE d y) (wrE y) rfl rfl (by simpa using hrm) (by simpa using hrm) (by simp) hrd hwr hlt hws
  rw [h1]
  simp only [nextO_nm]
  exact shr_loop d hd hv suf (pre ++ [y]) st (by simp [h]) (by rw [h2]; simp [Zc])
abbrev shA (π : Id) (d : Des) : AV := .agg [.p (.str d.name), .p (X7 d.inputs), .p (Xd d.elements), .p (Z8 d.nodes), .p (Uz d.rules), .p (Vh d.outputs), .p (Q0 d.attrs), .p (Z2 (dlv d)), .ap (900003 :: π), .ap (1000003 :: π)]
abbrev shS (π : Id) (d : Des) : Sto := [rowLL (1000003 :: π) (d.rules.map wrP), rowLL (900003 :: π) (d.rules.map (rdP d))]
theorem e_shared (d : Des) (hd : DesOk d) (hv : DesVal d) : EE π N9 [.p (Zfi d)] [] = some (shA π d, shS π d) := by
 have hlp := shr_loop (π := π) d hd hv d.rules []
 simp [Zeq, Z1, Z2m, thaw, thaw1]
 rw [hlp _ rfl (by simp [flagE])]
 simp
def kdOf (l : List Elm) (n : Int) : Int := (l.getD n.toNat elm0).kind
def Z7w (els : List Elm) (a b : List Int) (k : Int) : Bool := a.any fun n => decide (kdOf els n = k) && memB b n
abbrev shLs (d : Des) : List PV := [.str d.name, X7 d.inputs, Xd d.elements, Z8 d.nodes, Uz d.rules, Vh d.outputs, Q0 d.attrs, Z2 (dlv d), .sl 1 none (d.rules.map fun r => Z2 (rdE d r)), .sl 1 none (d.rules.map fun r => Z2 (wrE r))]
abbrev encShr (d : Des) : PV := .agg (shLs d)
@[simp] theorem fgL_rd' (d : Des) (l : List Rul) : PV.fg.PV.fgL (l.map fun r => Z2 (rdE d r)) = l.map fun r => Z2 (rdE d r) := L6 _ _ (fun x => by simp) l
@[simp] theorem fgL_wr' (l : List Rul) : PV.fg.PV.fgL (l.map fun r => Z2 (wrE r)) = l.map fun r => Z2 (wrE r) := L6 _ _ (fun x => by simp) l
theorem e_common1 (d : Des) (b : List Int) (hb : b.length ≤ 2000) (k n : Int) (h0 : 0 ≤ n) (hn : n < (d.elements.length : Int)) :
  EE π Ul [.p (I n), .p (.ptr (shLs d)), .p (.ptr [I k]), .p (.ptr [Z2 b])] [] = some (.p (.bool (decide (kdOf d.elements n = k) && memB b n)), []) := by
 have hlt : n.toNat < d.elements.length := by omega
 have hg : d.elements[n.toNat] = d.elements.getD n.toNat elm0 := by simp [hlt]
 have hk : kdOf d.elements n = (d.elements.getD n.toNat elm0).kind := rfl
 have hc := fun π => Zal (π := π) b (by simp only [top63]; omega) n
 rw [hk]
 generalize d.elements.getD n.toNat elm0 = x at *
 generalize memB b n = m at *
 by_cases hx : x.kind = k
 ·simp [Z53, Z1, Nq, h0, hn, hlt, hg, Zr, hx, hc, evRO, Z4]
 ·simp [Z53, Z1, Nq, h0, hn, hlt, hg, Zr, hx, evRO, Z4]
theorem e_common (d : Des) (a b : List Int) (ha : a.length ≤ 2000) (hb : b.length ≤ 2000) (k : Int) (hin : ∀ n ∈ a, 0 ≤ n ∧ n < (d.elements.length : Int)) :
  EE π N7 [.p (encShr d), .p (Z2 a), .p (Z2 b), .p (I k)] [] = some (.p (.bool (Z7w d.elements a b k)), []) := by
 have hc := fun π => e_CoFI (π := π) a (by simp only [top63]; omega) (f := Ul) (caps := [.ptr (shLs d), .ptr [I k], .ptr [Z2 b]]) (p := fun n => decide (kdOf d.elements n = k) && memB b n) (fun x hx => by
  have := e_common1 (π := 16 :: 7 :: π) d b hb k x (hin x hx).1 (hin x hx).2
  simpa using this)
 unfold Z7w
 generalize (a.any fun n => decide (kdOf d.elements n = k) && memB b n) = r at *
 simp [Zen, Z1, Z2j, Z4, hc]
def mpR (d : Des) (ra rb : Rul) : Bool := !Z7w d.elements (wrE ra) (rdE d rb) 0 && !Z7w d.elements (rdE d ra) (wrE rb) 1
theorem usedE_in {ni : Nat} {m : Nat} {l : List Int} (hl : ∀ n ∈ l, 0 ≤ n ∧ n < ((ni + m : Nat) : Int)) : ∀ n ∈ usedE ni l, 0 ≤ n ∧ n < (m : Int) := fun n hn => by
 unfold usedE at hn
 obtain ⟨k, hk, rfl⟩ := List.mem_map.1 hn
 obtain ⟨h1, h2⟩ := List.mem_filter.1 hk
 have := hl k h1
 simp at h2
 omega
theorem rdE_in (d : Des) (r : Rul) : ∀ n ∈ rdE d r, 0 ≤ n ∧ n < (d.elements.length : Int) := usedE_in fun n hn => by
 have := lvN_mem hn
 simpa [dlv] using this
theorem wrE_in' {d : Des} (hv : DesVal d) {r : Rul} (hr : r ∈ d.rules) : ∀ n ∈ wrE r, 0 ≤ n ∧ n < (d.elements.length : Int) := fun n hn => by
 unfold wrE at hn
 rw [Z96, (Yn _).mem_iff] at hn
 exact wrE_in hv hr n hn
theorem e_mayC (d : Des) (hd : DesOk d) (hv : DesVal d) (a b : Int) (ra rb : Rul) (ha : d.rules[a.toNat]? = some ra) (hb : d.rules[b.toNat]? = some rb) (ha0 : 0 ≤ a) (ha1 : a < (d.rules.length : Int)) (hb0 : 0 ≤ b) (hb1 : b < (d.rules.length : Int)) :
  EE π Zv [.p (encShr d), .p (I a), .p (I b)] [] = some (.p (.bool (mpR d ra rb)), []) := by
 have hla : a.toNat < d.rules.length := by omega
 have hlb : b.toNat < d.rules.length := by omega
 have hra : d.rules[a.toNat] = ra := by simpa [hla] using ha
 have hrb : d.rules[b.toNat] = rb := by simpa [hlb] using hb
 have hma := List.mem_of_getElem? ha
 have hmb := List.mem_of_getElem? hb
 have hwa := Zg9 hd hv hma
 have hwb := Zg9 hd hv hmb
 have hc1 := fun π => e_common (π := π) d (wrE ra) (rdE d rb) (by omega) (rdE_len d hd rb) 0 (wrE_in' hv hma)
 have hc2 := fun π => e_common (π := π) d (rdE d ra) (wrE rb) (rdE_len d hd ra) (by omega) 1 (rdE_in d ra)
 unfold mpR
 generalize Z7w d.elements (wrE ra) (rdE d rb) 0 = b1 at *
 generalize Z7w d.elements (rdE d ra) (wrE rb) 1 = b2 at *
 cases b1
 ·simp [Z1q, Z1, Qf, ha0, ha1, hb0, hb1, hla, hlb, hra, hrb, hc1, hc2, evRO, Z4]
 ·simp [Z1q, Z1, Qf, ha0, ha1, hb0, hb1, hla, hlb, hra, hrb, hc1, evRO, Z4]
theorem desKind {d : Des} (h : (desE d).2 = 0) : ∀ x ∈ d.elements, x.kind = 0 ∨ x.kind = 1 := fun x hx => by
 unfold desE Zci at h
 obtain ⟨_, h⟩ := L5 h
 obtain ⟨_, h⟩ := L5 h
 obtain ⟨_, h⟩ := L5 h
 obtain ⟨h4, h⟩ := L5 h
 obtain ⟨K, hK⟩ := Z5l _ _ _ _ _ h4 x hx
 rw [elmE_eq] at hK
 cases hw : Z6 x.kind 0 1 with
 | true => have := Y7.1 hw; omega
 | false =>
  rw [hw] at hK
  repeat' split at hK
  all_goals first | contradiction | omega | skip
theorem rdE_len' (d : Des) (hv : DesVal d) (r : Rul) : (rdE d r).length ≤ 40 := by
 have h := Za8 (isLv (dlv d).length d.nodes (Pv r)) 0
 have hl : (isLv (dlv d).length d.nodes (Pv r)).length = (dlv d).length := by unfold isLv; rw [Xz]; simp
 have hk : (dlv d).length ≤ 40 := by have := hv.ll; simp [dlv]; omega
 have h2 : (rdE d r).length ≤ (lvD d (Pv r)).length := by unfold rdE usedE; rw [List.length_map]; exact List.length_filter_le _ _
 have h3 : (lvD d (Pv r)).length = (trues 0 (isLv (dlv d).length d.nodes (Pv r))).length := rfl
 omega
def mpK (d : Des) (ra rb : Rul) (k : Int) : Bool := if kdOf d.elements k = 1 then decide (k ∈ rdE d ra) && decide (k ∈ wrE rb) else decide (k ∈ wrE ra) && decide (k ∈ rdE d rb)
def anyUp (p : Int → Bool) : Nat → Nat → Bool
 | 0, _ => false
 | s + 1, i => p i || anyUp p s (i + 1)
theorem anyUp_iff (p : Int → Bool) : ∀ (s i : Nat), anyUp p s i = true ↔ ∃ k : Int, (i : Int) ≤ k ∧ k < ((i + s : Nat) : Int) ∧ p k = true
 | 0, i => by simp [anyUp]; omega
 | s + 1, i => by
  unfold anyUp
  rw [Bool.or_eq_true, anyUp_iff p s (i + 1)]
  constructor
  ·rintro (h | ⟨k, h1, h2, h3⟩)
   ·exact ⟨i, by omega, by omega, h⟩
   ·exact ⟨k, by omega, by omega, h3⟩
  ·rintro ⟨k, h1, h2, h3⟩
   by_cases e : k = i
   ·subst e; exact .inl h3
   ·exact .inr ⟨k, by omega, by omega, h3⟩
theorem may_loop (d : Des) (hd : DesOk d) (hv : DesVal d) (a b : Int) (ra rb : Rul) (ha : d.rules[a.toNat]? = some ra) (hb : d.rules[b.toNat]? = some rb) (ha0 : 0 ≤ a) (ha1 : a < (d.rules.length : Int)) (hb0 : 0 ≤ b) (hb1 : b < (d.rules.length : Int)) :
  ∀ (s i : Nat) (x : Env × Sto), i + s = d.elements.length → mask [1, 2, 3, 7] [] x = some ([(1, .p (I a)), (2, .p (I b)), (3, .ref (3 :: π) 0), (7, .p (I i))], [Zo (3 :: π) d]) →
  kpO [] [6] [] (bkO 0 (iter (round EE iter π [] [1, 2, 3, 7] Lm) x)) = (if anyUp (mpK d ra rb) s i = true then some (.rt, [(6, .p (.bool false))], []) else some (.nm, [], []))
 | 0, i, x, h, hm => by
  rw [Z0 hm]
  have : (i : Int) = d.elements.length := by omega
  simp [Yw, Y6, anyUp, this]
 | s + 1, i, x, h, hm => by
  rw [Z0 hm]
  have he := hd.elements
  have hlt : (i : Int) < d.elements.length := by omega
  have hltn : i < d.elements.length := by omega
  have hg : d.elements[i]? = some (d.elements.getD i elm0) := by simp [hltn]
  have hk : kdOf d.elements (i : Int) = (d.elements.getD i elm0).kind := by simp [kdOf]
  have hws := Zb hltn (show d.elements.length ≤ top63 by simp only [top63]; omega)
  have ih := fun x => may_loop d hd hv a b ra rb ha hb ha0 ha1 hb0 hb1 s (i + 1) x (by omega)
  have hma := List.mem_of_getElem? ha
  have hmb := List.mem_of_getElem? hb
  have hWa := fun π => e_Writes (π := π) d hd hv a ra ha ha0 ha1
  have hWb := fun π => e_Writes (π := π) d hd hv b rb hb hb0 hb1
  have hRa := fun π => e_Reads (π := π) d hd hv a ra ha ha0 ha1
  have hRb := fun π => e_Reads (π := π) d hd hv b rb hb hb0 hb1
  have hHWa := fun π => e_Has (π := π) (wrE ra) (Zg9 hd hv hma) i
  have hHWb := fun π => e_Has (π := π) (wrE rb) (Zg9 hd hv hmb) i
  have hHRa := fun π => e_Has (π := π) (rdE d ra) (by have := rdE_len' d hv ra; omega) i
  have hHRb := fun π => e_Has (π := π) (rdE d rb) (by have := rdE_len' d hv rb; omega) i
  unfold Z5 at hWa hWb hRa hRb
  have hst : anyUp (mpK d ra rb) (s + 1) i = (mpK d ra rb i || anyUp (mpK d ra rb) s (i + 1)) := rfl
  rw [hst]
  unfold mpK
  rw [hk]
  change ∀ x, _ → _ = if anyUp (fun k => if kdOf d.elements k = 1 then decide (k ∈ rdE d ra) && decide (k ∈ wrE rb) else decide (k ∈ wrE ra) && decide (k ∈ rdE d rb)) s (i + 1) = true then _ else _ at ih
  generalize anyUp (fun k => if kdOf d.elements k = 1 then decide (k ∈ rdE d ra) && decide (k ∈ wrE rb) else decide (k ∈ wrE ra) && decide (k ∈ rdE d rb)) s (i + 1) = T at *
  generalize d.elements.getD i elm0 = y at *
  generalize decide ((i : Int) ∈ wrE ra) = m1 at *
  generalize decide ((i : Int) ∈ wrE rb) = m2 at *
  generalize decide ((i : Int) ∈ rdE d ra) = m3 at *
  generalize decide ((i : Int) ∈ rdE d rb) = m4 at *
  generalize wrE ra = W1 at *
  generalize wrE rb = W2 at *
  generalize rdE d ra = R1 at *
  generalize rdE d rb = R2 at *
  by_cases hw : y.kind = 1
  ·cases m3
   ·simp [Yw, Y6, hlt, hg, Zr, hw, hRa, hHRa]
    exact ih _ (by simp [hws])
   ·cases m2
    ·simp [Yw, Y6, hlt, hg, Zr, hw, hRa, hHRa, hWb, hHWb]
     exact ih _ (by simp [hws])
    ·simp [Yw, Y6, hlt, hg, Zr, hw, hRa, hHRa, hWb, hHWb]
  ·cases m1
   ·simp [Yw, Y6, hlt, hg, Zr, hw, hWa, hHWa]
    exact ih _ (by simp [hws])
   ·cases m4
    ·simp [Yw, Y6, hlt, hg, Zr, hw, hRb, hHRb, hWa, hHWa]
     exact ih _ (by simp [hws])
    ·simp [Yw, Y6, hlt, hg, Zr, hw, hRb, hHRb, hWa, hHWa]
theorem any_mpK {d : Des} (hk : ∀ x ∈ d.elements, x.kind = 0 ∨ x.kind = 1) (hv : DesVal d) {ra rb : Rul} (hma : ra ∈ d.rules) (hmb : rb ∈ d.rules) : anyUp (mpK d ra rb) d.elements.length 0 = !mpR d ra rb := by
 have kd : ∀ {k : Int}, 0 ≤ k → k < (d.elements.length : Int) → kdOf d.elements k = 0 ∨ kdOf d.elements k = 1 := fun {k} h0 h1 => by
  have hlt : k.toNat < d.elements.length := by omega
  have : d.elements.getD k.toNat elm0 = d.elements[k.toNat] := by simp [hlt]
  unfold kdOf
  rw [this]
  exact hk _ (List.getElem_mem hlt)
 rw [Bool.eq_iff_iff, anyUp_iff]
 unfold mpR Z7w
 rw [Bool.not_eq_true', Bool.and_eq_false_iff, Bool.not_eq_false', Bool.not_eq_false', List.any_eq_true, List.any_eq_true]
 constructor
 ·rintro ⟨k, h0, h1, h2⟩
  unfold mpK at h2
  have h0' : 0 ≤ k := by omega
  have h1' : k < (d.elements.length : Int) := by omega
  split at h2
  ·rename_i hw
   simp only [Bool.and_eq_true, decide_eq_true_eq] at h2
   exact .inr ⟨k, h2.1, by simp [hw, Wv, h2.2]⟩
  ·rename_i hw
   simp only [Bool.and_eq_true, decide_eq_true_eq] at h2
   have : kdOf d.elements k = 0 := (kd h0' h1').resolve_right hw
   exact .inl ⟨k, h2.1, by simp [this, Wv, h2.2]⟩
 ·rintro (⟨k, h1, h2⟩ | ⟨k, h1, h2⟩)
  ·have hi := wrE_in' hv hma k h1
   simp only [Bool.and_eq_true, decide_eq_true_eq, Wv] at h2
   exact ⟨k, by omega, by omega, by unfold mpK; rw [if_neg (by omega)]; simp [h1, h2.2]⟩
  ·have hi := rdE_in d ra k h1
   simp only [Bool.and_eq_true, decide_eq_true_eq, Wv] at h2
   exact ⟨k, by omega, by omega, by unfold mpK; rw [if_pos h2.1]; simp [h1, h2.2]⟩
theorem e_May (d : Des) (hd : DesOk d) (h0 : (desE d).2 = 0) (a b : Int) (ra rb : Rul) (ha : d.rules[a.toNat]? = some ra) (hb : d.rules[b.toNat]? = some rb) (ha0 : 0 ≤ a) (ha1 : a < (d.rules.length : Int)) (hb0 : 0 ≤ b) (hb1 : b < (d.rules.length : Int)) :
  EE π Xo [.p (Z5 d), .p (I a), .p (I b)] [] = some (.p (.bool (mpR d ra rb)), []) := by
 have hlp := may_loop (π := π) d hd (desVal h0) a b ra rb ha hb ha0 ha1 hb0 hb1 d.elements.length 0
 rw [any_mpK (desKind h0) (desVal h0) (List.mem_of_getElem? ha) (List.mem_of_getElem? hb)] at hlp
 generalize mpR d ra rb = r at *
 simp [Zdg, Z1, Z0r, Z5]
 rw [hlp _ (by simp) (by simp)]
 cases r <;> simp
theorem Zd5 (l : List Int) (hl : l.length ≤ top63) : ∀ (suf pre : List Int) (x : Env × Sto), l = pre ++ suf → mask [5, 6, 7] [] x = some ([(5, .p (Z2 l)), (6, .p (I l.length)), (7, .p (I pre.length))], []) →
  kpO [] [2] [] (bkO 0 (iter (round EE iter π [] [5, 6, 7] Z4u) x)) = (if Z9 suf = 0 then some (.nm, [], []) else some (.rt, [(2, .p (I (Z9 suf)))], []))
 | [], pre, x, h, hm => by
  rw [Z0 hm]
  subst h
  simp [Z3r, K9, Z9]
 | y :: suf, pre, x, h, hm => by
  rw [Z0 hm]
  by_cases hy : y = 0
  ·simp [Z3r, K9, Z7 h, Zt _ h, hy, Z9]
   exact Zd5 l hl suf (pre ++ [y]) _ (by simp [h]) (by simp [Zb (show pre.length < l.length by have := Z7 h; omega) hl])
  ·simp [Z3r, K9, Z7 h, Zt _ h, hy, Z9]
theorem e_firstC (l : List Int) (hl : l.length ≤ top63) : EE π Km [.p (Z2 l)] [] = some (.p (I (Z9 l)), []) := by
 simp [e_cf_first, Z1, Zb5]
 rw [Zd5 l hl l [] _ rfl (by simp)]
 by_cases hf : Z9 l = 0 <;> simp [hf]
theorem Z5u (a b : Int) : EE π Km [.p (.sl 1 none [I a, I b])] [] = some (.p (I (Z9 [a, b])), []) := e_firstC [a, b] (by simp [top63])
def rul0 : Rul := ⟨⟨#[]⟩, 0, []⟩
def rulAt (d : Des) (n : Int) : Rul := d.rules.getD n.toNat rul0
theorem Z8w {d : Des} {n : Int} (h0 : 0 ≤ n) (h1 : n < (d.rules.length : Int)) : d.rules[n.toNat]? = some (rulAt d n) := by
 have : n.toNat < d.rules.length := by omega
 simp [rulAt, this]
variable {π κ : Id}
abbrev frS (π : Id) (st : FSt) : Id × Blk := (2000000 :: π, .frm π 13 [(2, .ref (2 :: π) 0)] [7] V2 V1 st)
abbrev stSq (π : Id) (l : List Int) : Sto := [rowL (100002 :: π) l, (2 :: π, .box false [.ap (100002 :: π)])]
abbrev k0S (π : Id) : List Id := [2000000 :: π, 100002 :: π, 2 :: π]
theorem seq_round (x : Int) (l : List Int) (hl : l.length + 1 ≤ room) :
  EE κ Z3 [.p (I x), .yld (2000000 :: π)] (frS π .ready :: stSq π l) = some (.p (.bool true), frS π .ready :: stSq π (l ++ [x])) := by
 rw [e_yldB]
 simp [runY, Z1a, V5, Z19, V4, hl, Zc]
theorem seq_loop (l : List Int) (hl : l.length ≤ 1000) : ∀ (suf pre : List Int) (x : Env × Sto), l = pre ++ suf →
  mask [0, 5, 6, 7] (k0S π) x = some ([(0, .yld (2000000 :: π)), (5, .p (Z2 l)), (6, .p (I l.length)), (7, .p (I pre.length))], frS π .ready :: stSq π pre) →
  kpO [] [] (k0S π) (bkO 0 (iter (round EE iter κ (k0S π) [0, 5, 6, 7] Vx) x)) = some (.nm, [], frS π .ready :: stSq π l)
 | [], pre, x, h, hm => by
  rw [Z0 hm]
  have : pre = l := by simpa using h.symm
  subst this
  simp [M8, Xx]
 | y :: suf, pre, x, h, hm => by
  rw [Z0 hm]
  have hlt := Z7 h
  have hws := Zb (show pre.length < l.length by omega) (show l.length ≤ top63 by simp only [top63]; omega)
  have ih := fun x => seq_loop l hl suf (pre ++ [y]) x
  have hc := fun κ => seq_round (κ := κ) (π := π) y pre (by simp only [room]; omega)
  simp [M8, Xx, hlt, Zt _ h, hc]
  exact ih _ (by simp [h]) (by simp [hws])
theorem e_Values1 (l : List Int) (hl : l.length ≤ 1000) : EE κ Zx [.yld (2000000 :: π), .p (.ptr [Z2 l])] (frS π .ready :: stSq π []) = some (.p (.tup []), frS π .ready :: stSq π l) := by
 have hlp := seq_loop (κ := κ) (π := π) l hl l []
 simp [Z5o, Z1, P2]
 rw [hlp _ rfl (by simp)]
 simp
theorem e_AppendSeq (l : List Int) (hl : l.length ≤ 1000) : EE π Wu [.p (.sl 1 (some true) []), .p (.fn Zx [.ptr [Z2 l]])] [] = some (.ap (100002 :: π), [rowL (100002 :: π) l]) := by
 have hv : ∀ κ, EE κ Zx [.yld (2000000 :: π), .p (.ptr [Z2 l])] [frS π .ready, (100002 :: π, .row false t_int 1 (some true) []), (2 :: π, .box false [.ap (100002 :: π)])] = _ := fun κ => e_Values1 (κ := κ) (π := π) l hl
 simp [Z54, Z1, Q1, thaw, thaw1, evC_rf, fnOf, hv]
theorem e_Sorted (l : List Int) (hl : l.length ≤ 1000) : EE π Qs [.p (.fn Zx [.ptr [Z2 l]])] [] = some (.ap (100002 :: 4 :: 5 :: π), [rowL (100002 :: 4 :: 5 :: π) (sortI l)]) := by
 have ha := fun π => e_AppendSeq (π := π) l hl
 have hro : l.length ≤ room := by simp only [room]; omega
 have hfl : flagE (sortI l) = flagE l := by
  cases l with
  | nil => rfl
  | cons a r => have := (Yn (a :: r)).length_eq; cases h : sortI (a :: r) with
   | nil => rw [h] at this; simp at this
   | cons b s => rfl
 simp [Zde, Z1, Z0j, Zbq, Gl, ha, Z4, Kj, sortO, hro, hfl]
def rlsE (d : Des) (rules : List Int) : Int × Int := eachE (fun i r => Z9 [F3 d r, unlE (!memB (rules.take i) r) 23]) 0 rules
def rulsE (d : Des) (rules : List Int) : Int := if d.rules.length < rules.length then 8 else (rlsE d rules).2
def orE (d : Des) (rules : List Int) : Int := if (desE d).2 = 0 then rulsE d rules else (desE d).2
abbrev zShr : PV := .agg [.str ⟨#[]⟩, .sl 2 (some true) [], .sl 5 (some true) [], .sl 4 (some true) [], .sl 3 (some true) [], .sl 2 (some true) [], .sl 2 (some true) [], .sl 1 (some true) [], .sl 1 (some true) [], .sl 1 (some true) []]
theorem e_openRules1 (d : Des) (hd : d.rules.length ≤ 1000) (rules : List Int) (hr : rules.length ≤ 1000) (i : Nat) (r : Int) (hi : i ≤ rules.length) :
  EE π Um [.p (I i), .p (I r), .p (.ptr (Z6i d)), .p (.ptr [Z2 rules])] [] = some (.p (I (Z9 [F3 d r, unlE (!memB (rules.take i) r) 23])), []) := by
 have h := fun π => Zfs (π := π) d hd r
 have hc := fun π => Zal (π := π) (rules.take i) (by rw [List.length_take]; simp only [top63]; omega) r
 have hi' : (i : Int) ≤ rules.length := by omega
 simp only [Z2, ints, List.map_take] at hc
 generalize memB (rules.take i) r = m at *
 generalize F3 d r = E at *
 simp [Zbv, Z1, Gx, h, hi, hc, L9, Z5u, evRO, Z4]
abbrev shA' (π : Id) (d : Des) : AV := .agg [.p (.str d.name), .p (X7 d.inputs), .p (Xd d.elements), .p (Z8 d.nodes), .p (Uz d.rules), .p (Vh d.outputs), .p (Q0 d.attrs), .p (Z2 (dlv d)), .ap (900003 :: 38 :: π), .ap (1000003 :: 38 :: π)]
theorem Z43 (d : Des) (hd : DesOk d) (rules : List Int) (hr : rules.length ≤ 1000) :
  EE π Vf [.p (Z5 d), .p (Z2 rules)] [] = if orE d rules = 0 then some (.tup [shA' π d, .p (I 0)], shS (38 :: π) d) else some (.p (.tup [zShr, I (orE d rules)]), []) := by
 have ho := fun π => e_openC (π := π) d hd [] (by simp)
 have hE : opE d [] = (desE d).2 := by unfold opE eachE; split <;> simp_all
 have hea := fun π => e_eachC (π := π) rules (by simp only [top63]; omega) (f := Um) (caps := [.ptr (Z6i d), .ptr [Z2 rules]]) (err := fun i r => Z9 [F3 d r, unlE (!memB (rules.take i) r) 23]) (fun i x hx => by
  have hi : i < rules.length := (List.getElem?_eq_some_iff.1 hx).1
  simpa using e_openRules1 d hd.rules rules hr i x (by omega))
 rw [hE] at ho
 unfold Z5 at ho
 simp only [List.map_nil, Z2, ints] at ho
 change ∀ π, _ = some (AV.p (PV.tup [I (rlsE d rules).1, I (rlsE d rules).2]), _) at hea
 unfold orE rulsE
 by_cases h0 : (desE d).2 = 0
 ·have hs := fun π => e_shared (π := π) d hd (desVal h0)
  rw [h0] at ho
  by_cases h1 : d.rules.length < rules.length
  ·have h1' : ¬ (rules.length : Int) ≤ d.rules.length := by omega
   simp [Hl, Z1, Uu, Z5, ho, Z4, h0, h1, h1', L9, Z5u, unlE, Z9]
  ·have h1' : (rules.length : Int) ≤ d.rules.length := by omega
   generalize rlsE d rules = R at *
   by_cases h2 : R.2 = 0
   ·simp [Hl, Z1, Uu, Z5, ho, Z4, h0, h1, h1', L9, Z5u, unlE, Z9, hea, h2, hs]
   ·simp [Hl, Z1, Uu, Z5, ho, Z4, h0, h1, h1', L9, Z5u, unlE, Z9, hea, h2]
 ·generalize (desE d).2 = E at *
  simp [Hl, Z1, Uu, Z5, ho, Z4, h0, L9, Z5u, Z9]
def mpI (d : Des) (a b : Int) : Bool := mpR d (rulAt d a) (rulAt d b)
theorem e_mayI (d : Des) (hd : DesOk d) (hv : DesVal d) (a b : Int) (ha0 : 0 ≤ a) (ha1 : a < (d.rules.length : Int)) (hb0 : 0 ≤ b) (hb1 : b < (d.rules.length : Int)) :
  EE π Zv [.p (encShr d), .p (I a), .p (I b)] [] = some (.p (.bool (mpI d a b)), []) :=
 e_mayC d hd hv a b _ _ (Z8w ha0 ha1) (Z8w hb0 hb1) ha0 ha1 hb0 hb1
def fstB (d : Des) (r : Int) (l : List Int) : Bool := !(l.any fun o => decide (o ≠ r) && !mpI d r o)
abbrev inR (d : Des) (l : List Int) : Prop := ∀ n ∈ l, 0 ≤ n ∧ n < (d.rules.length : Int)
theorem e_isFirst1 (d : Des) (hd : DesOk d) (hv : DesVal d) (r o : Int) (h0 : 0 ≤ r ∧ r < (d.rules.length : Int)) (h1 : 0 ≤ o ∧ o < (d.rules.length : Int)) :
  EE π Vv [.p (I o), .p (.ptr [I r]), .p (.ptr (shLs d))] [] = some (.p (.bool (decide (o ≠ r) && !mpI d r o)), []) := by
 have hm := fun π => e_mayI (π := π) d hd hv r o h0.1 h0.2 h1.1 h1.2
 generalize mpI d r o = m at *
 by_cases h : o = r
 ·simp [Z3h, Z1, Pq, h]
 ·simp [Z3h, Z1, Pq, h, hm]
theorem e_isFirst (d : Des) (hd : DesOk d) (hv : DesVal d) (r : Int) (l : List Int) (hl : l.length ≤ 1000) (h0 : 0 ≤ r ∧ r < (d.rules.length : Int)) (h1 : inR d l) :
  EE π Qy [.p (encShr d), .p (I r), .p (Z2 l)] [] = some (.p (.bool (fstB d r l)), []) := by
 have hc := fun π => e_CoFI (π := π) l (by simp only [top63]; omega) (f := Vv) (caps := [.ptr [I r], .ptr (shLs d)]) (p := fun o => decide (o ≠ r) && !mpI d r o) (fun x hx => by
  have := e_isFirst1 (π := 16 :: 7 :: π) d hd hv r x h0 (h1 x hx)
  simpa using this)
 unfold fstB
 generalize (l.any fun o => decide (o ≠ r) && !mpI d r o) = b at *
 simp [Zdm, Z1, Z0x, hc, Z4]
theorem e_OrderFor1 (d : Des) (hd : DesOk d) (hv : DesVal d) (r : Int) (l : List Int) (hl : l.length ≤ 1000) (h0 : 0 ≤ r ∧ r < (d.rules.length : Int)) (h1 : inR d l) :
  EE π P0 [.p (I r), .p (.ptr (shLs d)), .p (.ptr [Z2 l])] [] = some (.p (.bool (fstB d r l)), []) := by
 have h := fun π => e_isFirst (π := π) d hd hv r l hl h0 h1
 generalize fstB d r l = b at *
 simp [Zdo, Z1, Z10, h]
def ordG (d : Des) : Nat → List Int → List Int → Option (List Int)
 | 0, _, acc => some acc
 | n + 1, l, acc => if idxOf (fun r => fstB d r l) 0 l = -1 then none else
   ordG d n (delI l (idxOf (fun r => fstB d r l) 0 l).toNat ((idxOf (fun r => fstB d r l) 0 l).toNat + 1)) (acc ++ [l.getD (idxOf (fun r => fstB d r l) 0 l).toNat 0])
theorem e_Values (l : List Int) : EE π Wg [.p (Z2 l)] [] = some (AV.mkFn Zx [.ref (1 :: π) 0], [(1 :: π, .box false [.p (Z2 l)])]) := by
 simp [Z7r, Z1, Ny]
abbrev idL (π : Id) : Id := 100002 :: 4 :: 5 :: 22 :: π
abbrev stO (π : Id) (d : Des) (nl : Option Bool) (l acc : List Int) : Sto := [rowL (1009 :: π) acc, (8 :: π, .box false [.ap (idL π)]), (idL π, .row false t_int 1 nl (l.map I)), (6 :: π, .box false [AV.p (PV.str d.name), AV.p (X7 d.inputs), AV.p (Xd d.elements),
 AV.p (Z8 d.nodes), AV.p (Uz d.rules), AV.p (Vh d.outputs), AV.p (Q0 d.attrs), AV.p (Z2 (dlv d)),
 AV.p (PV.sl 1 (flagE (List.map (rdP d) d.rules)) (List.map (rdP d) d.rules)), AV.p (PV.sl 1 (flagE (List.map wrP d.rules)) (List.map wrP d.rules))])]
theorem Z41 {α : Type} (p : α → Bool) : ∀ (i : Nat) (l : List α), idxOf p i l = -1 ∨ ((i : Int) ≤ idxOf p i l ∧ idxOf p i l < i + l.length)
 | _, [] => .inl rfl
 | i, x :: r => by
  have := Z41 p (i + 1) r
  simp only [idxOf, List.length_cons]
  split
  ·right; omega
  ·omega
theorem ord_loop (d : Des) (hd : DesOk d) (hv : DesVal d) : ∀ (n : Nat) (l acc : List Int) (nl : Option Bool) (x : Env × Sto), l.length = n → acc.length + n ≤ 1000 → inR d l →
  mask [6, 8, 9] [] x = some ([(6, .ref (6 :: π) 0), (8, .ref (8 :: π) 0), (9, .ap (1009 :: π))], stO π d nl l acc) →
  kpO [9] [4, 5] [] (bkO 0 (iter (round EE iter π [] [6, 8, 9] Gz) x)) = (match ordG d n l acc with
   | some o => some (.nm, [(9, .ap (1009 :: π))], [rowL (1009 :: π) o])
   | none => some (.rt, [(4, .p (.sl 1 (some true) [])), (5, .p (I 27))], []))
 | 0, l, acc, nl, x, hn, ha, hr, hm => by
  rw [Z0 hm]
  have : l = [] := List.length_eq_zero_iff.1 hn
  subst this
  simp [Gi, Ut, ordG]
 | n + 1, l, acc, nl, x, hn, ha, hr, hm => by
  rw [Z0 hm]
  have hl : l.length ≤ 1000 := by omega
  have hpos : 0 < l.length := by omega
  have hne : l ≠ [] := by intro h; subst h; simp at hn
  have hi := fun π => e_IxFI (π := π) l (by simp only [top63]; omega) (f := P0) (caps := [.ptr (shLs d), .ptr [Z2 l]]) (p := fun r => fstB d r l) (fun x hx => by
   have := e_OrderFor1 (π := 16 :: π) d hd hv x l hl (hr x hx) hr
   simpa using this)
  have hb := Z41 (fun r => fstB d r l) 0 l
  simp only [ordG]
  generalize idxOf (fun r => fstB d r l) 0 l = i at *
  by_cases h : i = -1
  ·simp [Gi, Ut, Z9k, Z9j, hi, h, hpos, Z4]
  ·obtain ⟨j, rfl⟩ : ∃ j : Nat, i = j := ⟨i.toNat, by omega⟩
   have hj : j < l.length := by omega
   have hjn : ¬ ((j : Int) < 0) := by omega
   have hj1 : (j : Int) ≤ j + 1 := by omega
   have hj2 : (j : Int) + 1 ≤ l.length := by omega
   have hro : acc.length + 1 ≤ room := by simp only [room]; omega
   have hrl : l.length ≤ room := by simp only [room]; omega
   have hw : IntKind.i64.wrap ((j : Int) + 1) = (j + 1 : Nat) := Zb hj (by simp only [top63]; omega)
   have hg : l[j]? = some l[j] := by simp [hj]
   simp [Gi, Ut, Z9k, Z9j, hi, h, hpos, hj, hj1, hj2, hjn, hro, hrl, hw, hg, hne, Zc, Z4, Z7l, delO]
   refine ord_loop d hd hv n (delI l j (j + 1)) (acc ++ [l[j]]) nl _ (by rw [Z6s (by omega) (by omega)]; omega) (by simp; omega) (fun x hx => hr x ?_) (by simp [Zc])
   simp only [delI, List.mem_append] at hx
   rcases hx with hx | hx
   ·exact List.mem_of_mem_take hx
   ·exact List.mem_of_mem_drop hx
theorem Zco {d : Des} {rules : List Int} (h : orE d rules = 0) : DesVal d ∧ rules.length ≤ d.rules.length ∧ inR d rules ∧ rules.Nodup := by
 unfold orE at h
 by_cases h0 : (desE d).2 = 0
 ·rw [if_pos h0] at h
  unfold rulsE at h
  split at h
  ·simp at h
  ·have hall := Zdd h
   refine ⟨desVal h0, by omega, ?_, ?_⟩
   ·intro n hn
    obtain ⟨k, hk⟩ := List.mem_iff_getElem?.1 hn
    have := hall k n hk
    simp only [Zn, F3] at this
    rw [Hs (by decide), Y7] at this
    omega
   ·refine List.pairwise_iff_getElem.2 (fun i j hi hj hij he => ?_)
    have hk : rules[j]? = some rules[j] := by simp [hj]
    have := hall j _ hk
    simp only [Zn] at this
    have := (Hs (by decide)).1 this.2.1
    simp only [Bool.not_eq_true', ← Bool.not_eq_true, Wv, Nat.zero_add] at this
    exact this (List.mem_of_getElem? (i := i) (by rw [List.getElem?_take, if_pos hij, ← he]; simp [hi]))
 ·rw [if_neg h0] at h; exact absurd h h0
theorem Zak (d : Des) (hd : DesOk d) (rules : List Int) (hr : rules.length ≤ 1000) :
  EE π Pn [.p (Z5 d), .p (Z2 rules)] [] = if orE d rules = 0 then (match ordG d rules.length (sortI rules) [] with
   | some o => some (.tup [.ap (1009 :: π), .p (I 0)], [rowL (1009 :: π) o])
   | none => some (.p (.tup [.sl 1 (some true) [], I 27]), [])) else some (.p (.tup [.sl 1 (some true) [], I (orE d rules)]), []) := by
 have ho := fun π => Z43 (π := π) d hd rules hr
 have hS := fun π => e_Sorted (π := π) rules hr
 have hV := fun π => e_Values (π := π) rules
 unfold Z5 at ho
 simp only [Z2, ints] at hV hS ho
 by_cases h0 : orE d rules = 0
 ·simp only [h0, if_true] at ho ⊢
  have hv := Zco h0
  have hlp := fun x => ord_loop (π := π) d hd hv.1 rules.length (sortI rules) [] (flagE (sortI rules)) x (Yn rules).length_eq (by simpa using hr) (fun n hn => hv.2.2.1 n ((Yn rules).mem_iff.1 hn))
  simp [Z9v, Z1, Fh, Z5, ho, Z4, hV, AV.mkFn, hS, thaw, thaw1]
  rw [hlp _ (by simp; rfl)]
  cases ordG d rules.length (sortI rules) [] with
  | none => simp
  | some o => simp
 ·simp only [h0, if_false] at ho ⊢
  simp [Z9v, Z1, Fh, Z5, ho, Z4, h0]
def ckE (d : Des) (rules : List Int) (i : Nat) (r : Int) : Int := unlE (fstB d r (rules.drop i)) 29
theorem Zhj (d : Des) (hd : DesOk d) (hv : DesVal d) (rules : List Int) (hr : rules.length ≤ 1000) (hin : inR d rules) (i : Nat) (hi : i ≤ rules.length) (r : Int) (h0 : 0 ≤ r ∧ r < (d.rules.length : Int)) :
  EE π Vw [.p (I i), .p (I r), .p (.ptr (shLs d)), .p (.ptr [Z2 rules])] [] = some (.p (I (ckE d rules i r)), []) := by
 have hc := fun π => e_isFirst (π := π) d hd hv r (rules.drop i) (by rw [List.length_drop]; omega) h0 (fun n hn => hin n (List.mem_of_mem_drop hn))
 have hi' : (i : Int) ≤ rules.length := by omega
 have hdr : List.take (rules.length - i) (PV.fg.PV.fgL (List.drop i (ints rules))) = ints (rules.drop i) := by
  rw [show List.drop i (ints rules) = ints (rules.drop i) from (List.map_drop ..).symm, fgL_ints, List.take_of_length_le (by simp)]
 simp only [Z2, ints, List.map_drop] at hc
 unfold ckE
 generalize fstB d r (rules.drop i) = m at *
 simp [Zaj, Z1, Ha, hi, hi', hdr, hc, L9]
theorem Z5z (d : Des) (hd : DesOk d) (rules : List Int) (hr : rules.length ≤ 1000) :
  EE π L4 [.p (Z5 d), .p (Z2 rules)] [] = if orE d rules = 0 then some (.p (.tup [I (eachE (ckE d rules) 0 rules).1, I (eachE (ckE d rules) 0 rules).2]), []) else some (.p (.tup [I 0, I (orE d rules)]), []) := by
 have ho := fun π => Z43 (π := π) d hd rules hr
 unfold Z5 at ho
 simp only [Z2, ints] at ho
 by_cases h0 : orE d rules = 0
 ·have hv := Zco h0
  have hea := fun π => e_eachC (π := π) rules (by simp only [top63]; omega) (f := Vw) (caps := [.ptr (shLs d), .ptr [Z2 rules]]) (err := ckE d rules) (fun i x hx => by
   have hi : i < rules.length := (List.getElem?_eq_some_iff.1 hx).1
   have := Zhj (π := 19 :: π) d hd hv.1 rules hr hv.2.2.1 i (by omega) x (hv.2.2.1 x (List.mem_of_getElem? hx))
   simpa using this)
  simp only [h0, if_true] at ho ⊢
  generalize eachE (ckE d rules) 0 rules = R at *
  simp [Z5w, Z1, Lu, Z5, ho, Z4, Z9k, Z9j, hea]
 ·simp only [h0, if_false] at ho ⊢
  simp [Z5w, Z1, Lu, Z5, ho, Z4, h0]
theorem Z97 (l : List Int) (x : Int) : memB l x = decide (x ∈ l) := by rw [Bool.eq_iff_iff, Wv, decide_eq_true_iff]
def rl1E (d : Des) (rules : List Int) (i : Nat) (r : Int) : Int := Z9 [F3 d r, unlE (!memB (rules.take i) r) 23]
theorem rls_loop (d : Des) (hd : d.rules.length ≤ 1000) (rules : List Int) (hl : rules.length ≤ 1000) :
  ∀ (suf pre : List Int) (x : Env × Sto), rules = pre ++ suf → mask [1, 2, 5] [] x = some ([(1, .p (Z2 rules)), (2, .ref (2 :: π) 0), (5, .p (I pre.length))], [Zo (2 :: π) d]) →
  kpO [] [4] [] (bkO 0 (iter (round EE iter π [] [1, 2, 5] Lh) x)) = (if (eachE (rl1E d rules) pre.length suf).2 = 0 then some (.nm, [], []) else some (.rt, [(4, .p (I (eachE (rl1E d rules) pre.length suf).2))], []))
 | [], pre, x, h, hm => by
  rw [Z0 hm]
  have : pre = rules := by simpa using h.symm
  subst this
  simp [Q3, Xy, eachE]
 | y :: suf, pre, x, h, hm => by
  rw [Z0 hm]
  have hlt := Z7 h
  have hltn : pre.length < rules.length := by omega
  have hg : rules[pre.length]? = some y := by rw [h]; simp
  have hge : rules[pre.length] = y := by simpa [hltn] using hg
  have hlen : pre.length ≤ rules.length := by omega
  have hle : (pre.length : Int) ≤ rules.length := by omega
  have hws := Zb hltn (show rules.length ≤ top63 by simp only [top63]; omega)
  have ih := fun x => rls_loop d hd rules hl suf (pre ++ [y]) x
  have hR := fun π => e_RuleErr (π := π) d hd y
  have hH := fun π => e_Has (π := π) (rules.take pre.length) (by rw [List.length_take]; omega) y
  unfold Z5 at hR
  simp only [Z2, ints, List.map_take] at hH
  rw [← Z97] at hH
  have hst : eachE (rl1E d rules) pre.length (y :: suf) = if rl1E d rules pre.length y = 0 then eachE (rl1E d rules) (pre ++ [y]).length suf else (pre.length, rl1E d rules pre.length y) := by
   rw [eachE]; simp
  have h1 : rl1E d rules pre.length y = Z9 [F3 d y, unlE (!memB (rules.take pre.length) y) 23] := rfl
  rw [hst, h1]
  generalize memB (rules.take pre.length) y = m at *
  generalize F3 d y = E at *
  by_cases hE : E = 0
  ·cases m
   ·simp [Q3, Xy, hlt, hltn, hle, hlen, hg, hge, hR, hH, hE, evRO, Z9, unlE]
    rw [ih _ (by simp [h]) (by simp [hws])]
    simp
   ·simp [Q3, Xy, hlt, hltn, hle, hlen, hg, hge, hR, hH, hE, evRO, Z9, unlE]
  ·simp [Q3, Xy, hlt, hltn, hle, hlen, hg, hge, hR, hH, hE, evRO, Z9, unlE]
theorem Zfw (d : Des) (hd : DesOk d) (rules : List Int) (hr : rules.length ≤ 1000) : EE π Mv [.p (Z5 d), .p (Z2 rules)] [] = some (.p (I (rulsE d rules)), []) := by
 have hlp := rls_loop (π := π) d hd.rules rules hr rules []
 have h1 : rlsE d rules = eachE (rl1E d rules) 0 rules := rfl
 unfold rulsE
 rw [h1]
 by_cases h : d.rules.length < rules.length
 ·simp [Z5q, Z1, Li, Z5, h]
 ·simp [Z5q, Z1, Li, Z5, h]
  rw [hlp _ rfl (by simp)]
  simp only [List.length_nil]
  generalize eachE (rl1E d rules) 0 rules = R at *
  by_cases h2 : R.2 = 0
  ·simp [h2]
  ·simp [h2]
theorem e_MayR (d : Des) (hd : DesOk d) (h0 : (desE d).2 = 0) (a b : Int) (ha : 0 ≤ a ∧ a < (d.rules.length : Int)) (hb : 0 ≤ b ∧ b < (d.rules.length : Int)) :
  EE π Xo [.p (Z5 d), .p (I a), .p (I b)] [] = some (.p (.bool (mpI d a b)), []) :=
 e_May d hd h0 a b _ _ (Z8w ha.1 ha.2) (Z8w hb.1 hb.2) ha.1 ha.2 hb.1 hb.2
theorem ckr_loop1 (d : Des) (hd : DesOk d) (h0 : (desE d).2 = 0) (l : List Int) (hl : l.length ≤ 1000) (hin : inR d l) (i : Nat) (a : Int) (hi : l[i]? = some a) :
  ∀ (suf pre : List Int) (x : Env × Sto), l = pre ++ suf → mask [1, 2, 6, 7] [] x = some ([(1, .p (Z2 l)), (2, .ref (2 :: π) 0), (6, .p (I i)), (7, .p (I pre.length))], [Zo (2 :: π) d]) →
  kpO [1, 2, 6] [4, 5] [] (bkO 2 (iter (round EE iter π [] [1, 2, 6, 7] N0) x)) = (if (suf.any fun o => !mpI d a o) = true then some (.rt, [(4, .p (I i)), (5, .p (I 29))], []) else some (.nm, [(1, .p (Z2 l)), (2, .ref (2 :: π) 0), (6, .p (I i))], [Zo (2 :: π) d]))
 | [], pre, x, h, hm => by
  rw [Z0 hm]
  have : pre = l := by simpa using h.symm
  subst this
  simp [Py, W4]
 | y :: suf, pre, x, h, hm => by
  rw [Z0 hm]
  have hlt := Z7 h
  have hltn : pre.length < l.length := by omega
  have hg : l[pre.length]? = some y := by rw [h]; simp
  have hge : l[pre.length] = y := by simpa [hltn] using hg
  have hig : i < l.length := (List.getElem?_eq_some_iff.1 hi).1
  have hig' : (i : Int) < l.length := by omega
  have hia : l[i] = a := (List.getElem?_eq_some_iff.1 hi).2
  have hws := Zb hltn (show l.length ≤ top63 by simp only [top63]; omega)
  have ih := fun x => ckr_loop1 d hd h0 l hl hin i a hi suf (pre ++ [y]) x
  have hM := fun π => e_MayR (π := π) d hd h0 a y (hin a (List.mem_of_getElem? hi)) (hin y (by rw [h]; simp))
  unfold Z5 at hM
  have hst : (List.any (y :: suf) fun o => !mpI d a o) = (!mpI d a y || suf.any fun o => !mpI d a o) := rfl
  rw [hst]
  generalize mpI d a y = m at *
  generalize (suf.any fun o => !mpI d a o) = T at *
  cases m
  ·simp [Py, W4, hlt, hltn, hig, hig', hi, hia, hg, hge, hM, evRO]
  ·simp [Py, W4, hlt, hltn, hig, hig', hi, hia, hg, hge, hM, evRO]
   exact ih _ (by simp [h]) (by simp [hws])
def ckR (d : Des) : Nat → List Int → Int × Int
 | _, [] => (0, 0)
 | i, y :: r => if (r.any fun o => !mpI d y o) = true then (i, 29) else ckR d (i + 1) r
theorem ckR_z (d : Des) : ∀ (i : Nat) (l : List Int), (ckR d i l).2 = 0 → (ckR d i l).1 = 0
 | _, [], _ => rfl
 | i, y :: r, h => by
  rw [ckR] at h ⊢
  split at h
  ·simp at h
  ·rename_i hT; rw [if_neg hT]; exact ckR_z d (i + 1) r h
theorem ckr_loop (d : Des) (hd : DesOk d) (h0 : (desE d).2 = 0) (l : List Int) (hl : l.length ≤ 1000) (hin : inR d l) :
  ∀ (suf pre : List Int) (x : Env × Sto), l = pre ++ suf → mask [1, 2, 6] [] x = some ([(1, .p (Z2 l)), (2, .ref (2 :: π) 0), (6, .p (I pre.length))], [Zo (2 :: π) d]) →
  kpO [] [4, 5] [] (bkO 0 (iter (round EE iter π [] [1, 2, 6] N1) x)) = (if (ckR d pre.length suf).2 = 0 then some (.nm, [], []) else some (.rt, [(4, .p (I (ckR d pre.length suf).1)), (5, .p (I (ckR d pre.length suf).2))], []))
 | [], pre, x, h, hm => by
  rw [Z0 hm]
  have : pre = l := by simpa using h.symm
  subst this
  simp [F1, Vl, ckR]
 | y :: suf, pre, x, h, hm => by
  rw [Z0 hm]
  have hlt := Z7 h
  have hltn : pre.length < l.length := by omega
  have hg : l[pre.length]? = some y := by rw [h]; simp
  have hws := Zb hltn (show l.length ≤ top63 by simp only [top63]; omega)
  have ih := fun x => ckr_loop d hd h0 l hl hin suf (pre ++ [y]) x
  have hlp := fun x => ckr_loop1 (π := π) d hd h0 l hl hin pre.length y hg suf (pre ++ [y]) x (by simp [h])
  rw [ckR]
  generalize (suf.any fun o => !mpI d y o) = T at *
  simp [F1, Vl, hlt, hws]
  rw [hlp _ (by simp)]
  cases T
  ·simp [hlt, hws]
   rw [ih _ (by simp [h]) (by simp [hws])]
   simp
  ·simp
theorem Zhi (d : Des) (hd : DesOk d) (h0 : (desE d).2 = 0) (l : List Int) (hl : l.length ≤ 1000) (hin : inR d l) :
  EE π Pi [.p (Z5 d), .p (Z2 l)] [] = some (.p (.tup [I (ckR d 0 l).1, I (ckR d 0 l).2]), []) := by
 have hlp := ckr_loop (π := π) d hd h0 l hl hin l []
 have hz := ckR_z d 0 l
 simp [Zaf, Z1, Ky, Z5]
 rw [hlp _ rfl (by simp)]
 simp only [List.length_nil]
 generalize ckR d 0 l = R at *
 by_cases h2 : R.2 = 0
 ·simp [h2, hz h2]
 ·simp [h2]
def prv (n i : Nat) : Nat := if i = 0 then n - 1 else i - 1
def cyB (d : Des) (l : List Int) : Nat → List Int → Bool
 | _, [] => true
 | i, y :: r => if memB (l.take i) y = true then false else if mpI d y (l.getD (prv l.length i) 0) = true then false else cyB d l (i + 1) r
theorem cyc_loop (d : Des) (hd : DesOk d) (h0 : (desE d).2 = 0) (l : List Int) (hl : l.length ≤ 1000) (hin : inR d l) :
  ∀ (suf pre : List Int) (x : Env × Sto), l = pre ++ suf → mask [1, 2, 5] [] x = some ([(1, .p (Z2 l)), (2, .ref (2 :: π) 0), (5, .p (I pre.length))], [Zo (2 :: π) d]) →
  kpO [1] [4] [] (bkO 0 (iter (round EE iter π [] [1, 2, 5] Kx) x)) = (if cyB d l pre.length suf = true then some (.nm, [(1, .p (Z2 l))], []) else some (.rt, [(4, .p (.bool false))], []))
 | [], pre, x, h, hm => by
  rw [Z0 hm]
  have : pre = l := by simpa using h.symm
  subst this
  simp [Pf, Wd, cyB]
 | y :: suf, pre, x, h, hm => by
  rw [Z0 hm]
  have hlt := Z7 h
  have hltn : pre.length < l.length := by omega
  have hg : l[pre.length]? = some y := by rw [h]; simp
  have hge : l[pre.length] = y := by simpa [hltn] using hg
  have hlen : pre.length ≤ l.length := by omega
  have hle : (pre.length : Int) ≤ l.length := by omega
  have hws := Zb hltn (show l.length ≤ top63 by simp only [top63]; omega)
  have ih := fun x => cyc_loop d hd h0 l hl hin suf (pre ++ [y]) x
  have hp : prv l.length pre.length < l.length := by unfold prv; split <;> omega
  have hpi : ((prv l.length pre.length : Nat) : Int) < l.length := by omega
  have hw1 : IntKind.i64.wrap ((pre.length : Int) + l.length) = ((pre.length + l.length : Nat) : Int) := Z1e (by omega) (by omega)
  have hrem : (pre.length + l.length - 1) % l.length = prv l.length pre.length := by
   unfold prv
   split
   ·rename_i hz; rw [hz, Nat.zero_add, Nat.mod_eq_of_lt (by omega)]
   ·rw [show pre.length + l.length - 1 = (pre.length - 1) + l.length by omega, Nat.add_mod_right, Nat.mod_eq_of_lt (by omega)]
  have hne : l ≠ [] := by intro hh; rw [hh] at hltn; simp at hltn
  have hq : (IntKind.i64.wrap ((pre.length : Int) + l.length - 1)).tmod l.length = ((prv l.length pre.length : Nat) : Int) := by
   rw [Z1e (by omega) (by omega), ← hrem, Int.natCast_emod, show ((pre.length + l.length - 1 : Nat) : Int) = (pre.length : Int) + l.length - 1 by omega]
   exact Int.tmod_eq_emod_of_nonneg (by omega)
  have hM := fun π => e_MayR (π := π) d hd h0 y l[prv l.length pre.length] (hin y (by rw [h]; simp)) (hin _ (List.getElem_mem hp))
  have hH := fun π => e_Has (π := π) (l.take pre.length) (by rw [List.length_take]; omega) y
  unfold Z5 at hM
  simp only [Z2, ints, List.map_take] at hH
  rw [← Z97] at hH
  have hst : cyB d l pre.length (y :: suf) = if memB (l.take pre.length) y = true then false else if mpI d y l[prv l.length pre.length] = true then false else cyB d l (pre ++ [y]).length suf := by
   rw [cyB]; simp [hp]
  rw [hst]
  generalize memB (l.take pre.length) y = m at *
  generalize mpI d y l[prv l.length pre.length] = t at *
  cases m
  ·cases t
   ·simp [Pf, Wd, hlt, hltn, hle, hlen, hg, hge, hw1, hq, hne, hp, hpi, hM, hH, evRO]
    rw [ih _ (by simp [h]) (by simp [hws])]
    simp
   ·simp [Pf, Wd, hlt, hltn, hle, hlen, hg, hge, hw1, hq, hne, hp, hpi, hM, hH, evRO]
  ·simp [Pf, Wd, hlt, hltn, hle, hlen, hg, hge, hw1, hq, hne, hp, hpi, hM, hH, evRO]
def isCyc (d : Des) (l : List Int) : Bool := cyB d l 0 l && decide (1 < l.length)
theorem e_IsCycle (d : Des) (hd : DesOk d) (h0 : (desE d).2 = 0) (l : List Int) (hl : l.length ≤ 1000) (hin : inR d l) :
  EE π He [.p (Z5 d), .p (Z2 l)] [] = some (.p (.bool (isCyc d l)), []) := by
 have hlp := cyc_loop (π := π) d hd h0 l hl hin l []
 unfold isCyc
 simp [Zei, Z1, Z23, Z5]
 rw [hlp _ rfl (by simp)]
 simp only [List.length_nil]
 generalize cyB d l 0 l = R at *
 cases R <;> simp <;> omega
def ldT (d : Des) (done : List Int) (r x : Int) : Bool := decide (x ≠ r) && !memB done x && !mpI d r x
theorem lds_loop (d : Des) (hd : DesOk d) (h0 : (desE d).2 = 0) (l done : List Int) (hl : l.length ≤ 1000) (hdn : done.length ≤ 1000) (hin : inR d l) (r : Int) (hr : 0 ≤ r ∧ r < (d.rules.length : Int)) :
  ∀ (suf pre : List Int) (x : Env × Sto), l = pre ++ suf → mask [1, 2, 3, 4, 9] [] x = some ([(1, .p (Z2 l)), (2, .p (Z2 done)), (3, .p (I r)), (4, .ref (4 :: π) 0), (9, .p (I pre.length))], [Zo (4 :: π) d]) →
  kpO [] [8] [] (bkO 0 (iter (round EE iter π [] [1, 2, 3, 4, 9] Z0k) x)) = (if (suf.any (ldT d done r)) = true then some (.rt, [(8, .p (.bool false))], []) else some (.nm, [], []))
 | [], pre, x, h, hm => by
  rw [Z0 hm]
  have : pre = l := by simpa using h.symm
  subst this
  simp [Qk, Wm]
 | y :: suf, pre, x, h, hm => by
  rw [Z0 hm]
  have hlt := Z7 h
  have hltn : pre.length < l.length := by omega
  have hg : l[pre.length]? = some y := by rw [h]; simp
  have hge : l[pre.length] = y := by simpa [hltn] using hg
  have hws := Zb hltn (show l.length ≤ top63 by simp only [top63]; omega)
  have ih := fun x => lds_loop d hd h0 l done hl hdn hin r hr suf (pre ++ [y]) x
  have hM := fun π => e_MayR (π := π) d hd h0 r y hr (hin y (by rw [h]; simp))
  have hH := fun π => e_Has (π := π) done hdn y
  unfold Z5 at hM
  rw [← Z97] at hH
  have hst : List.any (y :: suf) (ldT d done r) = ((decide (y ≠ r) && !memB done y && !mpI d r y) || suf.any (ldT d done r)) := rfl
  rw [hst]
  generalize (suf.any (ldT d done r)) = T at *
  generalize memB done y = m at *
  generalize mpI d r y = t at *
  by_cases he : y = r
  ·simp [Qk, Wm, hlt, hltn, hg, hge, he, evRO]
   exact ih _ (by simp [h]) (by simp [hws])
  ·cases m
   ·cases t
    ·simp [Qk, Wm, hlt, hltn, hg, hge, he, hM, hH, evRO]
    ·simp [Qk, Wm, hlt, hltn, hg, hge, he, hM, hH, evRO]
     exact ih _ (by simp [h]) (by simp [hws])
   ·simp [Qk, Wm, hlt, hltn, hg, hge, he, hM, hH, evRO]
    exact ih _ (by simp [h]) (by simp [hws])
def ldB (d : Des) (l done : List Int) (r : Int) : Bool := !l.any (ldT d done r)
theorem e_leads (d : Des) (hd : DesOk d) (h0 : (desE d).2 = 0) (l done : List Int) (hl : l.length ≤ 1000) (hdn : done.length ≤ 1000) (hin : inR d l) (r : Int) (hr : 0 ≤ r ∧ r < (d.rules.length : Int)) :
  EE π Z1h [.p (Z5 d), .p (Z2 l), .p (Z2 done), .p (I r)] [] = some (.p (.bool (ldB d l done r)), []) := by
 have hlp := lds_loop (π := π) d hd h0 l done hl hdn hin r hr l []
 unfold ldB
 generalize l.any (ldT d done r) = T at *
 simp [e_rr16_leads, Z1, Z61, Z5]
 rw [hlp _ rfl (by simp)]
 cases T <;> simp
def pkT (d : Des) (l acc : List Int) (b y : Int) : Bool := !memB acc y && ldB d l acc y && (decide (b < 0) || decide (y < b))
def pkR (d : Des) (l acc : List Int) : Int → List Int → Int
 | b, [] => b
 | b, y :: r => pkR d l acc (if pkT d l acc b y = true then y else b) r
theorem Zf6 (d : Des) (hd : DesOk d) (h0 : (desE d).2 = 0) (l acc : List Int) (hl : l.length ≤ 1000) (hac : acc.length ≤ 1000) (hin : inR d l) :
  ∀ (suf pre : List Int) (b : Int) (x : Env × Sto), l = pre ++ suf → mask [1, 2, 6, 7, 8] [] x = some ([(1, .p (Z2 l)), (2, .ref (2 :: π) 0), (6, .ap (1006 :: π)), (7, .p (I b)), (8, .p (I pre.length))], [rowL (1006 :: π) acc, Zo (2 :: π) d]) →
  kpO [1, 2, 6, 7] [4, 5] [] (bkO 2 (iter (round EE iter π [] [1, 2, 6, 7, 8] Z0l) x)) = some (.nm, [(1, .p (Z2 l)), (2, .ref (2 :: π) 0), (6, .ap (1006 :: π)), (7, .p (I (pkR d l acc b suf)))], [rowL (1006 :: π) acc, Zo (2 :: π) d])
 | [], pre, b, x, h, hm => by
  rw [Z0 hm]
  have : pre = l := by simpa using h.symm
  subst this
  simp [Vn, Xq, pkR]
 | y :: suf, pre, b, x, h, hm => by
  rw [Z0 hm]
  have hlt := Z7 h
  have hltn : pre.length < l.length := by omega
  have hg : l[pre.length]? = some y := by rw [h]; simp
  have hge : l[pre.length] = y := by simpa [hltn] using hg
  have hws := Zb hltn (show l.length ≤ top63 by simp only [top63]; omega)
  have ih := fun b x => Zf6 d hd h0 l acc hl hac hin suf (pre ++ [y]) b x
  have hL := fun π => e_leads (π := π) d hd h0 l acc hl hac hin y (hin y (by rw [h]; simp))
  have hH := fun π => e_Has (π := π) acc hac y
  unfold Z5 at hL
  rw [← Z97] at hH
  have hst : pkR d l acc b (y :: suf) = pkR d l acc (if (!memB acc y && ldB d l acc y && (decide (b < 0) || decide (y < b))) = true then y else b) suf := rfl
  rw [hst]
  generalize memB acc y = m at *
  generalize ldB d l acc y = t at *
  cases m
  ·cases t
   ·simp [Vn, Xq, hlt, hltn, hg, hge, hL, hH, evRO]
    exact ih _ _ (by simp [h]) (by simp [hws])
   ·by_cases hb : b < 0
    ·simp [Vn, Xq, hlt, hltn, hg, hge, hL, hH, hb, evRO]
     exact ih _ _ (by simp [h]) (by simp [hws])
    ·by_cases hy : y < b
     ·simp [Vn, Xq, hlt, hltn, hg, hge, hL, hH, hb, hy, evRO]
      exact ih _ _ (by simp [h]) (by simp [hws])
     ·simp [Vn, Xq, hlt, hltn, hg, hge, hL, hH, hb, hy, evRO]
      exact ih _ _ (by simp [h]) (by simp [hws])
  ·simp [Vn, Xq, hlt, hltn, hg, hge, hL, hH, evRO]
   exact ih _ _ (by simp [h]) (by simp [hws])
def ordF (d : Des) (l : List Int) : Nat → List Int → Option (List Int)
 | 0, acc => some acc
 | n + 1, acc => if pkR d l acc (-1) l < 0 then none else ordF d l n (acc ++ [pkR d l acc (-1) l])
theorem ordr_loop (d : Des) (hd : DesOk d) (h0 : (desE d).2 = 0) (l : List Int) (hl : l.length ≤ 1000) (hin : inR d l) :
  ∀ (n : Nat) (acc : List Int) (x : Env × Sto), acc.length + n = l.length → mask [1, 2, 6] [] x = some ([(1, .p (Z2 l)), (2, .ref (2 :: π) 0), (6, .ap (1006 :: π))], [rowL (1006 :: π) acc, Zo (2 :: π) d]) →
  kpO [6] [4, 5] [] (bkO 0 (iter (round EE iter π [] [1, 2, 6] Z0m) x)) = (match ordF d l n acc with
   | some o => some (.nm, [(6, .ap (1006 :: π))], [rowL (1006 :: π) o])
   | none => some (.rt, [(4, .p (.sl 1 (some true) [])), (5, .p (.bool false))], []))
 | 0, acc, x, h, hm => by
  rw [Z0 hm]
  have hn : ¬ ((acc.length : Int) < l.length) := by omega
  simp [Z56, Lw, hn, ordF]
 | n + 1, acc, x, h, hm => by
  rw [Z0 hm]
  have hn : (acc.length : Int) < l.length := by omega
  have hro : acc.length + 1 ≤ room := by simp only [room]; omega
  have hlp := fun x => Zf6 (π := π) d hd h0 l acc hl (by omega) hin l [] (-1) x rfl
  have ih := fun b x => ordr_loop d hd h0 l hl hin n (acc ++ [b]) x (by simp; omega)
  simp only [ordF]
  generalize pkR d l acc (-1) l = b at *
  simp [Z56, Lw, hn]
  rw [hlp _ (by simp)]
  by_cases hb : b < 0
  ·simp [hb]
  ·simp [hb, hro, Zc]
   exact ih _ _ (by simp [Zc])
theorem e_OrderR (d : Des) (hd : DesOk d) (h0 : (desE d).2 = 0) (l : List Int) (hl : l.length ≤ 1000) (hin : inR d l) :
  EE π Hw [.p (Z5 d), .p (Z2 l)] [] = (match ordF d l l.length [] with
   | some o => some (.tup [.ap (1006 :: π), .p (.bool true)], [rowL (1006 :: π) o])
   | none => some (.p (.tup [.sl 1 (some true) [], .bool false]), [])) := by
 have hlp := fun x => ordr_loop (π := π) d hd h0 l hl hin l.length [] x (by simp)
 simp [e_rr16_Order, Z1, Z62, Z5, thaw, thaw1]
 rw [hlp _ (by simp; rfl)]
 cases ordF d l l.length [] with
 | none => simp
 | some o => simp
def fndU (f : Int → Option (List Int)) : Nat → Nat → Option (List Int)
 | _, 0 => none
 | K, m + 1 => match f K with | some c => some c | none => fndU f (K + 1) m
def lgI : Nat → Id → Id
 | 0, π => π
 | n + 1, π => lgI n (67 :: π)
def skB (d : Des) (ns path : List Int) (k : Int) : Bool := !memB ns k || (memB path k || (decide (0 < path.length) && (decide (k < path.getD 0 0) || mpI d k (path.getD (path.length - 1) 0))))
def lgr (d : Des) (ns : List Int) : Nat → List Int → Option (List Int)
 | 0, path => if isCyc d path = true then some path else none
 | n + 1, path => fndU (fun k => if skB d ns path k = true then none else lgr d ns n (path ++ [k])) 0 d.rules.length
def lgO (n : Nat) (π : Id) : Option (List Int) → Option (AV × Sto)
 | some c => some (.ap (3 :: 19 :: lgI n π), [(3 :: 19 :: lgI n π, .row false t_int 1 (some false) (ints c))])
 | none => some (.p (.sl 1 (some true) []), [])
theorem lg_loop (d : Des) (hd : DesOk d) (h0 : (desE d).2 = 0) (ns path : List Int) (hns : ns.length ≤ 1000) (size n : Nat) (hp : path.length + (n + 1) = size) (hs : size ≤ 1000) (hin : inR d path)
  (hrec : ∀ π (k : Int), 0 ≤ k ∧ k < (d.rules.length : Int) → EE π Ph [.p (Z5 d), .p (Z2 ns), .p (Z2 (path ++ [k])), .p (I size)] [] = lgO n π (lgr d ns n (path ++ [k]))) :
  ∀ (m K : Nat) (x : Env × Sto), K + m = d.rules.length → mask [1, 2, 3, 4, 9] [] x = some ([(1, .p (Z2 ns)), (2, .p (Z2 path)), (3, .p (I size)), (4, .ref (4 :: π) 0), (9, .p (I K))], [Zo (4 :: π) d]) →
  kpO [] [8] [] (bkO 0 (iter (round EE iter π [] [1, 2, 3, 4, 9] Gn) x)) = (match fndU (fun k => if skB d ns path k = true then none else lgr d ns n (path ++ [k])) K m with
   | some c => some (.rt, [(8, .ap (3 :: 19 :: lgI n (67 :: π)))], [(3 :: 19 :: lgI n (67 :: π), .row false t_int 1 (some false) (ints c))])
   | none => some (.nm, [], []))
 | 0, K, x, h, hm => by
  rw [Z0 hm]
  have hn : ¬ ((K : Int) < d.rules.length) := by omega
  simp [Yl, Y3, hn, fndU]
 | m + 1, K, x, h, hm => by
  rw [Z0 hm]
  have hn : (K : Int) < d.rules.length := by omega
  have hrl := hd.rules
  have hws : IntKind.i64.wrap ((K : Int) + 1) = (K : Int) + 1 := Z1e (by omega) (by omega)
  have ih := fun x => lg_loop d hd h0 ns path hns size n hp hs hin hrec m (K + 1) x (by omega)
  have hH1 := fun π => e_Has (π := π) ns hns K
  have hH2 := fun π => e_Has (π := π) path (by omega) K
  have hr := fun π => hrec π K ⟨by omega, hn⟩
  have hci := fun π => Kw (π := π) (ints path) (by simp only [List.length_map, room]; omega)
  have hro : path.length + 1 ≤ room := by simp only [room]; omega
  have hr1 : 1 ≤ room := by simp only [room]; omega
  rw [← Z97] at hH1 hH2
  rw [fndU]
  unfold Z5 at hr
  generalize hL : lgr d ns n (path ++ [(K : Int)]) = L at *
  have hsk : skB d ns path K = (!memB ns K || (memB path K || (decide (0 < path.length) && (decide ((K : Int) < path.getD 0 0) || mpI d K (path.getD (path.length - 1) 0))))) := rfl
  rw [hsk]
  generalize memB ns K = m1 at *
  generalize memB path K = m2 at *
  cases m1
  ·simp [Yl, Y3, hn, hH1, evRO]
   exact ih _ (by simp [hws])
  ·cases m2
   ·by_cases hpl : path.length = 0
    ·have hp0 : path = [] := List.length_eq_zero_iff.1 hpl
     subst hp0
     simp only [Z2, ints, List.map_nil, List.nil_append, List.map_cons] at hH2 hci hr
     cases L with
     | none =>
      simp [Yl, Y3, hn, hH1, hH2, hr, hr1, hci, lgO, Zc, evRO]
      exact ih _ (by simp [hws])
     | some c =>
      simp [Yl, Y3, hn, hH1, hH2, hr, hr1, hci, lgO, Zc, evRO]
    ·have hpp : 0 < path.length := by omega
     have hne : path ≠ [] := by intro hh; rw [hh] at hpp; simp at hpp
     have hppi : (0 : Int) < path.length := by omega
     have hl1 : path.length - 1 < path.length := by omega
     have hl1i : ((path.length - 1 : Nat) : Int) < path.length := by omega
     have hw1 : IntKind.i64.wrap ((path.length : Int) - 1) = ((path.length - 1 : Nat) : Int) := by rw [Z1e (by omega) (by omega)]; omega
     have hg0 : path[0]? = some (path.getD 0 0) := by simp [hpp]
     have hgl : path[path.length - 1]? = some (path.getD (path.length - 1) 0) := by simp [hl1]
     have hge0 : path[0] = path.getD 0 0 := by simp [hpp]
     have hgel : path[path.length - 1] = path.getD (path.length - 1) 0 := by simp [hl1]
     have hM := fun π => e_MayR (π := π) d hd h0 K (path.getD (path.length - 1) 0) ⟨by omega, hn⟩ (hin _ (hgel ▸ List.getElem_mem hl1))
     unfold Z5 at hM
     simp only [Z2, ints, List.map_append, List.map_nil, List.map_cons] at hr
     have hfg : PV.fg.PV.fgL (ints path ++ [I (K : Int)]) = ints path ++ [I (K : Int)] := by
      rw [show ints path ++ [I (K : Int)] = ints (path ++ [(K : Int)]) by simp]; exact fgL_ints .i64 _
     generalize mpI d K (path.getD (path.length - 1) 0) = t at *
     generalize path.getD (path.length - 1) 0 = pl at *
     generalize path.getD 0 0 = p0 at *
     by_cases hk : (K : Int) < p0
     ·simp [Yl, Y3, hn, hH1, hH2, hpp, hne, hppi, hg0, hge0, hk, evRO]
      exact ih _ (by simp [hws])
     ·cases t
      ·cases L with
       | none =>
        simp [Yl, Y3, hn, hH1, hH2, hpp, hne, hppi, hl1, hl1i, hw1, hg0, hge0, hgl, hgel, hk, hM, hr, hfg, hci, hro, lgO, Zc, evRO]
        exact ih _ (by simp [hws])
       | some c =>
        simp [Yl, Y3, hn, hH1, hH2, hpp, hne, hppi, hl1, hl1i, hw1, hg0, hge0, hgl, hgel, hk, hM, hr, hfg, hci, hro, lgO, Zc, evRO]
      ·simp [Yl, Y3, hn, hH1, hH2, hpp, hne, hppi, hl1, hl1i, hw1, hg0, hge0, hgl, hgel, hk, hM, evRO]
       exact ih _ (by simp [hws])
   ·simp [Yl, Y3, hn, hH1, hH2, evRO]
    exact ih _ (by simp [hws])
theorem e_longer (d : Des) (hd : DesOk d) (h0 : (desE d).2 = 0) (ns : List Int) (hns : ns.length ≤ 1000) (size : Nat) (hs : size ≤ 1000) : ∀ (n : Nat) (path : List Int) (π : Id), path.length + n = size → inR d path →
  EE π Ph [.p (Z5 d), .p (Z2 ns), .p (Z2 path), .p (I size)] [] = lgO n π (lgr d ns n path)
 | 0, path, π, hp, hin => by
  have hC := fun π => e_IsCycle (π := π) d hd h0 path (by omega) hin
  have hci := fun π => Kw (π := π) (ints path) (by simp only [List.length_map, room]; omega)
  have he : (path.length : Int) = size := by omega
  unfold Z5 at hC
  unfold lgr
  generalize isCyc d path = c at *
  cases c
  ·simp [Z42, Z1, Lg, Z5, he, hC, evRO, lgO]
  ·simp [Z42, Z1, Lg, Z5, he, hC, hci, evRO, lgO, lgI]
 | n + 1, path, π, hp, hin => by
  have he : ¬ ((path.length : Int) = size) := by omega
  have hlp := lg_loop (π := π) d hd h0 ns path hns size n hp hs hin (fun π k hk => e_longer d hd h0 ns hns size hs n (path ++ [k]) π (by simp; omega) (fun x hx => by
   rcases List.mem_append.1 hx with hx | hx
   ·exact hin x hx
   ·rw [List.mem_singleton.1 hx]; exact hk)) d.rules.length 0
  unfold lgr
  simp [Z42, Z1, Lg, Z5, he]
  rw [hlp _ (by omega) (by simp)]
  generalize fndU (fun k => if skB d ns path k = true then none else lgr d ns n (path ++ [k])) 0 d.rules.length = R at *
  cases R with
  | none => simp [lgO]
  | some c => simp [lgO, lgI]
theorem Z3d {f : Int → Option (List Int)} {c : List Int} : ∀ {m K : Nat}, fndU f K m = some c → ∃ k : Nat, K ≤ k ∧ k < K + m ∧ f k = some c ∧ ∀ j : Nat, K ≤ j → j < k → f j = none
 | 0, K, h => by simp [fndU] at h
 | m + 1, K, h => by
  rw [fndU] at h
  cases hf : f K with
  | some c' =>
   rw [hf] at h
   simp only [Option.some.injEq] at h
   subst h
   exact ⟨K, by omega, by omega, hf, fun j h1 h2 => by omega⟩
  | none =>
   rw [hf] at h
   obtain ⟨k, h1, h2, h3, h4⟩ := Z3d h
   exact ⟨k, by omega, by omega, h3, fun j h5 h6 => by
    by_cases he : j = K
    ·rw [he]; exact hf
    ·exact h4 j (by omega) h6⟩
theorem Zd2 {f : Int → Option (List Int)} : ∀ {m K : Nat}, fndU f K m = none ↔ ∀ j : Nat, K ≤ j → j < K + m → f j = none
 | 0, K => by simp [fndU]; intro j h1 h2; omega
 | m + 1, K => by
  rw [fndU]
  cases hf : f K with
  | some c =>
   simp only [reduceCtorEq, false_iff]
   intro h; have := h K (by omega) (by omega); rw [hf] at this; simp at this
  | none =>
   simp only
   rw [Zd2]
   constructor
   ·intro h j h1 h2
    by_cases he : j = K
    ·rw [he]; exact hf
    ·exact h j (by omega) (by omega)
   ·intro h j h1 h2; exact h j (by omega) (by omega)
theorem Zgn (d : Des) (ns : List Int) : ∀ (n : Nat) (path c : List Int), lgr d ns n path = some c → c.length = path.length + n
 | 0, path, c, h => by
  unfold lgr at h
  split at h
  ·simp only [Option.some.injEq] at h; rw [← h]; rfl
  ·simp at h
 | n + 1, path, c, h => by
  unfold lgr at h
  obtain ⟨k, _, _, hk, _⟩ := Z3d h
  split at hk
  ·simp at hk
  ·have := Zgn d ns n _ _ hk; simp at this; omega
def cycO (π : Id) : Option (List Int) → Option (AV × Sto)
 | some c => some (.ap (3 :: 19 :: lgI c.length (16 :: π)), [(3 :: 19 :: lgI c.length (16 :: π), .row false t_int 1 (some false) (ints c))])
 | none => some (.p (.sl 1 (some true) []), [])
def cycF (d : Des) (ns : List Int) (s : Int) : Option (List Int) := lgr d ns s.toNat []
theorem cyr_loop (d : Des) (hd : DesOk d) (h0 : (desE d).2 = 0) (ns : List Int) (hns : ns.length ≤ 1000) :
  ∀ (m K : Nat) (x : Env × Sto), m = ns.length + 1 - K → mask [1, 2, 5] [] x = some ([(1, .p (Z2 ns)), (2, .ref (2 :: π) 0), (5, .p (I K))], [Zo (2 :: π) d]) →
  kpO [] [4] [] (bkO 0 (iter (round EE iter π [] [1, 2, 5] Z0p) x)) = (match fndU (cycF d ns) K m with
   | some c => some (.rt, [(4, .ap (3 :: 19 :: lgI c.length (16 :: π)))], [(3 :: 19 :: lgI c.length (16 :: π), .row false t_int 1 (some false) (ints c))])
   | none => some (.nm, [], []))
 | 0, K, x, h, hm => by
  rw [Z0 hm]
  have hn : ¬ ((K : Int) ≤ ns.length) := by omega
  simp [Z00, Pc, hn, fndU]
 | m + 1, K, x, h, hm => by
  rw [Z0 hm]
  have hn : (K : Int) ≤ ns.length := by omega
  have hws : IntKind.i64.wrap ((K : Int) + 1) = (K : Int) + 1 := Z1e (by omega) (by omega)
  have ih := fun x => cyr_loop d hd h0 ns hns m (K + 1) x (by omega)
  have hl := fun π => e_longer d hd h0 ns hns K (by omega) K [] π (by simp) (by intro x hx; simp at hx)
  have hlen := fun c => Zgn d ns K [] c
  unfold Z5 at hl
  simp only [Z2, ints, List.map_nil] at hl
  rw [fndU, cycF, Int.toNat_natCast]
  generalize lgr d ns K [] = R at *
  cases R with
  | none =>
   simp [Z00, Pc, hn, hl, lgO, evRO]
   exact ih _ (by simp [hws])
  | some c =>
   have hc : c.length = K := by simpa using hlen c rfl
   simp [Z00, Pc, hn, hl, lgO, hc, evRO]
theorem e_CycleR (d : Des) (hd : DesOk d) (h0 : (desE d).2 = 0) (ns : List Int) (hns : ns.length ≤ 1000) :
  EE π Z1j [.p (Z5 d), .p (Z2 ns)] [] = cycO π (fndU (cycF d ns) 2 (ns.length - 1)) := by
 have hlp := cyr_loop (π := π) d hd h0 ns hns (ns.length - 1) 2
 simp [e_rr16_Cycle, Z1, Z64, Z5]
 rw [hlp _ (by omega) (by simp)]
 generalize fndU (cycF d ns) 2 (ns.length - 1) = R at *
 cases R with
 | none => simp [cycO]
 | some c => simp [cycO]
def entI (K : List Int) : List (PV × PV) := K.map fun k => (I k, .bool true)
def okI (k : Int) : Prop := 0 ≤ k ∧ k < 1000000
def posI (s : Int) : List Int → Nat
 | [] => 0
 | a :: r => if a = s then 0 else posI s r + 1
theorem wfI {k : Int} (h : okI k) : (Lit.int .i64 k).wf = true := by
 unfold okI at h
 have h1 : IntKind.i64.min = -9223372036854775808 := rfl
 simp [Lit.wf, h1]
 omega
theorem like_int {k : Int} (h : okI k) (z : Int) : likeV (.int .i64 z) (.int .i64 k) = true := by
 simp [likeV, Z0b, Mn, Zz, wfI h]
theorem Zgs {k : Int} (h : okI k) : keyV (I k) = some (.int .i64 k) := by simp [keyV, Zg2, wfI h]
theorem keysLikeI : ∀ {K : List Int}, (∀ s ∈ K, okI s) → Hk (.int .i64 0) (entI K) = true
 | [], _ => rfl
 | a :: r, h => by
  have h1 := keysLikeI (K := r) fun z hz => h z (by simp [hz])
  have h2 := like_int (h a (by simp)) 0
  have h3 := Zgs (h a (by simp))
  unfold Hk at h1 ⊢
  simp only [entI, List.map_cons, List.all_cons, Bool.and_eq_true]
  refine ⟨?_, h1⟩
  rw [h3]
  exact h2
theorem lookI (s : Int) : ∀ (i : Nat) {K : List Int}, (∀ x ∈ K, okI x) → lookE (.int .i64 s) i (entI K) = some (if memB K s = true then some (i + posI s K, .bool true) else none)
 | i, [], _ => by simp [lookE, entI, memB]
 | i, a :: r, hK => by
  have ih := lookI s (i + 1) (K := r) fun z hz => hK z (by simp [hz])
  have h3 := Zgs (hK a (by simp))
  unfold entI at ih ⊢
  simp only [List.map_cons, lookE, h3]
  by_cases h : a = s
  ·subst h
   simp [sameV, Mn, sameB, posI, memB]
  ·have hn : sameV (.int .i64 a) (.int .i64 s) = false := by simp [sameV, Mn, sameB, h]
   rw [hn]
   simp only [Bool.false_eq_true, if_false]
   rw [ih]
   have hh : memB (a :: r) s = memB r s := by simp [memB]; intro e; exact absurd e.symm h
   rw [hh]
   by_cases hm : memB r s = true
   ·simp [hm, posI, h]; omega
   ·simp [hm]
theorem put_entI (s : Int) (K : List Int) : putE (I s) (.bool true) (entI K) none = entI (K ++ [s]) := by
 simp [putE, entI]
abbrev pathP (p : List Int) : PV := .sl 1 (some false) (ints p)
abbrev shBx (π : Id) (d : Des) : Id × Blk := (3 :: π, .box false [AV.p (PV.str d.name), AV.p (X7 d.inputs), AV.p (Xd d.elements), AV.p (Z8 d.nodes), AV.p (Uz d.rules), AV.p (Vh d.outputs), AV.p (Q0 d.attrs), AV.p (Z2 (dlv d)),
 AV.p (PV.sl 1 none (List.map (fun r => Z2 (rdE d r)) d.rules)), AV.p (PV.sl 1 none (List.map (fun r => Z2 (wrE r)) d.rules))])
abbrev arS (π : Id) (d : Des) (K : List Int) (q : List (List Int)) : Sto := [(16 :: π, .row false V0 1 (some false) (q.map pathP)), (13 :: π, .mpb (entI K)), shBx π d]
def exT (d : Des) (i last : Int) (K : List Int) (n : Int) : Bool := decide (i < n) && (!memB K n && !mpI d n last)
def exI (d : Des) (i last : Int) (p : List Int) : List Int → List (List Int) → List Int → List Int × List (List Int)
 | K, q, [] => (K, q)
 | K, q, n :: r => if exT d i last K n = true then exI d i last p (K ++ [n]) (q ++ [p ++ [n]]) r else exI d i last p K q r
theorem ar_loop1 (d : Des) (hd : DesOk d) (hv : DesVal d) (ns : List Int) (hns : ns.length ≤ 1000) (hd2 : d.rules.length ≤ 1000) (hin : inR d ns) (i last : Int) (hla : 0 ≤ last ∧ last < (d.rules.length : Int)) (p : List Int) (hp : p.length ≤ 1001) :
  ∀ (suf pre : List Int) (K : List Int) (q : List (List Int)) (x : Env × Sto), ns = pre ++ suf → (∀ x ∈ K, okI x) → q.length + suf.length ≤ 5000 →
  mask [1, 2, 3, 7, 8, 9, 10, 42, 43, 44] [] x = some ([(1, .p (I i)), (2, .p (Z2 ns)), (3, .ref (3 :: π) 0), (7, .mp (13 :: π)), (8, .ap (16 :: π)), (9, .p (pathP p)), (10, .p (I last)), (42, .p (Z2 ns)), (43, .p (I ns.length)), (44, .p (I pre.length))], arS π d K q) →
  kpO [1, 2, 3, 7, 8] [6] [] (bkO 2 (iter (round EE iter π [] [1, 2, 3, 7, 8, 9, 10, 42, 43, 44] H7) x)) = some (.nm, [(1, .p (I i)), (2, .p (Z2 ns)), (3, .ref (3 :: π) 0), (7, .mp (13 :: π)), (8, .ap (16 :: π))], arS π d (exI d i last p K q suf).1 (exI d i last p K q suf).2)
 | [], pre, K, q, x, h, hK, hq, hm => by
  rw [Z0 hm]
  have : pre = ns := by simpa using h.symm
  subst this
  simp [Vp, Xh, exI]
 | y :: suf, pre, K, q, x, h, hK, hq, hm => by
  rw [Z0 hm]
  have hlt := Z7 h
  have hltn : pre.length < ns.length := by omega
  have hg : ns[pre.length]? = some y := by rw [h]; simp
  have hge : ns[pre.length] = y := by simpa [hltn] using hg
  have hws := Zb hltn (show ns.length ≤ top63 by simp only [top63]; omega)
  have hy := hin y (by rw [h]; simp)
  have hyk : okI y := ⟨hy.1, by omega⟩
  have ih := fun K q x => ar_loop1 d hd hv ns hns hd2 hin i last hla p hp suf (pre ++ [y]) K q x (by simp [h])
  have hM := fun π => e_mayI (π := π) d hd hv y last hy.1 hy.2 hla.1 hla.2
  have h1 := Zgs hyk
  have h2 := like_int hyk 0
  have h3 := keysLikeI hK
  have h4 := lookI y 0 hK
  have h5 := put_entI y K
  have h6 : keyV (I 0) = some (.int .i64 0) := rfl
  have hro : q.length + 1 ≤ room := by simp only [room]; simp at hq; omega
  have hrp0 : p.length ≤ room := by simp only [room]; omega
  have hrp : p.length + 1 ≤ room := by simp only [room]; omega
  have hst : exI d i last p K q (y :: suf) = if (decide (i < y) && (!memB K y && !mpI d y last)) = true then exI d i last p (K ++ [y]) (q ++ [p ++ [y]]) suf else exI d i last p K q suf := rfl
  rw [hst]
  have hq1 : q.length + suf.length ≤ 5000 := by simp at hq; omega
  have hK1 : ∀ x ∈ K ++ [y], okI x := fun x hx => by
   rcases List.mem_append.1 hx with hx | hx
   ·exact hK x hx
   ·rw [List.mem_singleton.1 hx]; exact hyk
  have ih1 := fun x => ih (K ++ [y]) (q ++ [p ++ [y]]) x hK1 (by simp at hq ⊢; omega)
  have ih2 := fun x => ih K q x hK hq1
  generalize mpI d y last = t at *
  by_cases hi : i < y
  ·by_cases hmk : memB K y = true
   ·rw [if_pos hmk] at h4
    simp [Vp, Xh, hlt, hltn, hg, hge, hi, hmk, h1, h2, h3, h4, h6]
    exact ih2 _ (by simp [hws])
   ·rw [if_neg hmk] at h4
    cases t
    ·simp [Vp, Xh, hlt, hltn, hg, hge, hi, hmk, h1, h2, h3, h4, h5, h6, hM, hro, hrp, hrp0, Z4, Z8z, Zg0, Zc]
     exact ih1 _ (by simp [hws])
    ·simp [Vp, Xh, hlt, hltn, hg, hge, hi, hmk, h1, h2, h3, h4, h6, hM]
     exact ih2 _ (by simp [hws])
  ·simp [Vp, Xh, hlt, hltn, hg, hge, hi]
   exact ih2 _ (by simp [hws])
def unk (ns K : List Int) : Nat := (ns.filter fun x => !memB K x).length
theorem unk_snoc {ns K : List Int} {y : Int} (hy : y ∈ ns) (hK : memB K y = false) : unk ns (K ++ [y]) + 1 ≤ unk ns K := by
 unfold unk
 induction ns with
 | nil => simp at hy
 | cons a r ih =>
  have hle : ∀ l : List Int, (l.filter fun x => !memB (K ++ [y]) x).length ≤ (l.filter fun x => !memB K x).length := by
   intro l
   induction l with
   | nil => simp
   | cons b l ihl =>
    have hb : memB (K ++ [y]) b = (memB K b || decide (b = y)) := by simp [memB]
    simp only [List.filter_cons, hb]
    cases memB K b <;> cases decide (b = y) <;> simp <;> omega
  have ha : memB (K ++ [y]) a = (memB K a || decide (a = y)) := by simp [memB]
  simp only [List.filter_cons, ha]
  by_cases h : a = y
  ·subst h
   simp [hK]
   have := hle r
   omega
  ·have := ih (by rcases List.mem_cons.1 hy with h1 | h1; exact absurd h1.symm h; exact h1)
   cases memB K a <;> simp [h] <;> omega
structure QOk (d : Des) (ns K : List Int) (q : List (List Int)) : Prop where
 ok : ∀ x ∈ K, okI x
 pth : ∀ p ∈ q, 0 < p.length ∧ inR d p ∧ p.length + unk ns K ≤ ns.length + 1
 len : q.length + unk ns K ≤ ns.length + 1
theorem exI_ok (d : Des) (hd2 : d.rules.length ≤ 1000) (ns : List Int) (hin : inR d ns) (i last : Int) (p : List Int) (hp : inR d p) (hp0 : 0 < p.length) : ∀ (l : List Int) (K : List Int) (q : List (List Int)), (∀ x ∈ l, x ∈ ns) → QOk d ns K q → p.length + unk ns K ≤ ns.length + 1 →
  QOk d ns (exI d i last p K q l).1 (exI d i last p K q l).2 ∧ (exI d i last p K q l).2.length + unk ns (exI d i last p K q l).1 ≤ q.length + unk ns K ∧ q.length ≤ (exI d i last p K q l).2.length
 | [], K, q, _, h, _ => ⟨h, by simp [exI], by simp [exI]⟩
 | n :: r, K, q, hl, h, hpl => by
  have hn := hl n (by simp)
  have hl' : ∀ x ∈ r, x ∈ ns := fun x hx => hl x (by simp [hx])
  rw [exI]
  split
  ·rename_i ht
   have hk : memB K n = false := by simp [exT] at ht; exact ht.2.1
   have hu := unk_snoc hn hk
   have hq : QOk d ns (K ++ [n]) (q ++ [p ++ [n]]) := {
    ok := fun x hx => by
     rcases List.mem_append.1 hx with hx | hx
     ·exact h.ok x hx
     ·rw [List.mem_singleton.1 hx]; exact ⟨(hin n hn).1, by have := (hin n hn).2; omega⟩
    pth := fun x hx => by
     rcases List.mem_append.1 hx with hx | hx
     ·have := h.pth x hx; exact ⟨this.1, this.2.1, by omega⟩
     ·rw [List.mem_singleton.1 hx]
      refine ⟨by simp, fun z hz => ?_, by simp; omega⟩
      rcases List.mem_append.1 hz with hz | hz
      ·exact hp z hz
      ·rw [List.mem_singleton.1 hz]; exact hin n hn
    len := by have := h.len; simp; omega }
   have := exI_ok d hd2 ns hin i last p hp hp0 r (K ++ [n]) (q ++ [p ++ [n]]) hl' hq (by omega)
   refine ⟨this.1, ?_, ?_⟩
   ·have := this.2.1; simp at this; omega
   ·have := this.2.2; simp at this; omega
  ·exact exI_ok d hd2 ns hin i last p hp hp0 r K q hl' h hpl
def lastI (p : List Int) : Int := p.getD (p.length - 1) 0
def arB (d : Des) (ns : List Int) (i : Int) : Nat → List Int → List (List Int) → Option (List Int)
 | 0, _, _ => none
 | _ + 1, _, [] => none
 | n + 1, K, p :: q => if (decide (1 < p.length) && !mpI d i (lastI p)) = true then some p else arB d ns i n (exI d i (lastI p) p K (p :: q) ns).1 ((exI d i (lastI p) p K (p :: q) ns).2.drop 1)
theorem ar_loop (d : Des) (hd : DesOk d) (hv : DesVal d) (ns : List Int) (hns : ns.length ≤ 1000) (hd2 : d.rules.length ≤ 1000) (hin : inR d ns) (i : Int) (hi : 0 ≤ i ∧ i < (d.rules.length : Int)) :
  ∀ (n : Nat) (K : List Int) (q : List (List Int)) (x : Env × Sto), QOk d ns K q → q.length + unk ns K ≤ n →
  mask [1, 2, 3, 7, 8] [] x = some ([(1, .p (I i)), (2, .p (Z2 ns)), (3, .ref (3 :: π) 0), (7, .mp (13 :: π)), (8, .ap (16 :: π))], arS π d K q) →
  kpO [] [6] [] (bkO 0 (iter (round EE iter π [] [1, 2, 3, 7, 8] H8) x)) = (match arB d ns i n K q with
   | some p => some (.rt, [(6, .p (pathP p))], [])
   | none => some (.nm, [], []))
 | 0, K, q, x, hq, hn, hm => by
  rw [Z0 hm]
  have : q = [] := List.length_eq_zero_iff.1 (by omega)
  subst this
  simp [Vq, Xi, arB]
 | n + 1, K, [], x, hq, hn, hm => by
  rw [Z0 hm]
  simp [Vq, Xi, arB]
 | n + 1, K, p :: q, x, hq, hn, hm => by
  rw [Z0 hm]
  have hpth := hq.pth p (by simp)
  have hpp := hpth.1
  have hpl : p.length ≤ 1001 := by omega
  have hne : p ≠ [] := by intro hh; rw [hh] at hpp; simp at hpp
  have hl1 : p.length - 1 < p.length := by omega
  have hl1i : ((p.length - 1 : Nat) : Int) < p.length := by omega
  have hw1 : IntKind.i64.wrap ((p.length : Int) - 1) = ((p.length - 1 : Nat) : Int) := by rw [Z1e (by omega) (by omega)]; omega
  have hgl : p[p.length - 1]? = some (lastI p) := by simp [lastI, hl1]
  have hgel : p[p.length - 1] = lastI p := by simp [lastI, hl1]
  have hla := hpth.2.1 (lastI p) (hgel ▸ List.getElem_mem hl1)
  have hM := fun π => e_mayI (π := π) d hd hv i (lastI p) hi.1 hi.2 hla.1 hla.2
  have hex := exI_ok d hd2 ns hin i (lastI p) p hpth.2.1 hpp ns K (p :: q) (fun _ h => h) hq hpth.2.2
  have hlp := fun x => ar_loop1 (π := π) d hd hv ns hns hd2 hin i (lastI p) hla p hpl ns [] K (p :: q) x rfl hq.ok (by have := hq.len; simp at this ⊢; omega)
  have ih := fun x => ar_loop d hd hv ns hns hd2 hin i hi n (exI d i (lastI p) p K (p :: q) ns).1 ((exI d i (lastI p) p K (p :: q) ns).2.drop 1) x {
   ok := hex.1.ok
   pth := fun x hx => hex.1.pth x (List.mem_of_mem_drop hx)
   len := by have := hex.1.len; simp; omega } (by have := hex.2; simp at this hn ⊢; omega)
  have hpos : 1 ≤ (exI d i (lastI p) p K (p :: q) ns).2.length := by have := hex.2.2; simp at this; omega
  simp only [List.drop_one] at ih
  rw [arB]
  generalize exI d i (lastI p) p K (p :: q) ns = R at *
  generalize mpI d i (lastI p) = t at *
  generalize lastI p = la at *
  by_cases h1 : 1 < p.length
  ·have h1i : (1 : Int) < p.length := by omega
   cases t
   ·simp [Vq, Xi, hpp, hne, hl1, hl1i, hw1, hgl, hgel, h1, h1i, hM]
   ·simp [Vq, Xi, hpp, hne, hl1, hl1i, hw1, hgl, hgel, h1, h1i, hM, thaw, thaw1]
    rw [hlp _ (by simp)]
    simp [hpos]
    exact ih _ (by simp [List.map_tail])
  ·have h1i : ¬ (1 : Int) < p.length := by omega
   simp [Vq, Xi, hpp, hne, hl1, hl1i, hw1, hgl, hgel, h1, h1i, hM, thaw, thaw1]
   rw [hlp _ (by simp)]
   simp [hpos]
   exact ih _ (by simp [List.map_tail])
def arC (d : Des) (ns : List Int) (i : Int) : Option (List Int) := arB d ns i (ns.length + 1) [] [[i]]
theorem unk_le (ns K : List Int) : unk ns K ≤ ns.length := List.length_filter_le ..
theorem qok_start (d : Des) (ns : List Int) (i : Int) (hi : 0 ≤ i ∧ i < (d.rules.length : Int)) : QOk d ns [] [[i]] where
 ok := fun x hx => by simp at hx
 pth := fun p hp => by
  have := unk_le ns []
  rw [List.mem_singleton.1 hp]
  exact ⟨by simp, fun z hz => by rw [List.mem_singleton.1 hz]; exact hi, by simp; omega⟩
 len := by have := unk_le ns []; simp; omega
theorem e_around (d : Des) (hd : DesOk d) (hv : DesVal d) (ns : List Int) (hns : ns.length ≤ 1000) (hin : inR d ns) (i : Int) (hi : 0 ≤ i ∧ i < (d.rules.length : Int)) :
  EE π Hj [.p (encShr d), .p (I i), .p (Z2 ns)] [] = (match arC d ns i with
   | some p => some (.p (pathP p), [])
   | none => some (.p (.sl 1 (some true) []), [])) := by
 have hlp := fun x => ar_loop (π := π) d hd hv ns hns hd.rules hin i hi (ns.length + 1) [] [[i]] x (qok_start d ns i hi) (by have := unk_le ns []; simp; omega)
 simp [Zeo, Z1, Z2k, thaw, thaw1]
 rw [hlp _ (by simp [entI])]
 change _ = (match arB d ns i (ns.length + 1) [] [[i]] with | some p => _ | none => _)
 cases arB d ns i (ns.length + 1) [] [[i]] with
 | none => simp
 | some p => simp
def betC : Option (List Int) → Option (List Int) → Option (List Int)
 | none, b => b
 | some c, none => some c
 | some c, some b => if c.length < b.length then some c else some b
def cyF (d : Des) (l : List Int) : Option (List Int) → List Int → Option (List Int)
 | b, [] => b
 | b, i :: r => cyF d l (betC (arC d l i) b) r
def optP : Option (List Int) → PV
 | none => .sl 1 (some true) []
 | some c => pathP c
abbrev idC (π : Id) : Id := 100002 :: 4 :: 5 :: 24 :: π
abbrev stC (π : Id) (d : Des) (f : Bool) (l : List Int) : Sto := [(idC π, .row f t_int 1 (flagE l) (ints l)), (6 :: π, .box false [AV.p (PV.str d.name), AV.p (X7 d.inputs), AV.p (Xd d.elements),
 AV.p (Z8 d.nodes), AV.p (Uz d.rules), AV.p (Vh d.outputs), AV.p (Q0 d.attrs), AV.p (Z2 (dlv d)),
 AV.p (PV.sl 1 (flagE (List.map (rdP d) d.rules)) (List.map (rdP d) d.rules)), AV.p (PV.sl 1 (flagE (List.map wrP d.rules)) (List.map wrP d.rules))])]
theorem cyc_loopP (d : Des) (hd : DesOk d) (hv : DesVal d) (l : List Int) (hl : l.length ≤ 1000) (hin : inR d l) :
  ∀ (suf pre : List Int) (b : Option (List Int)) (f : Bool) (x : Env × Sto), l = pre ++ suf →
  mask [6, 8, 9, 25, 26, 27] [] x = some ([(6, .ref (6 :: π) 0), (8, .ap (idC π)), (9, .p (optP b)), (25, .ap (idC π)), (26, .p (I l.length)), (27, .p (I pre.length))], stC π d f l) →
  kpO [9] [4, 5] [] (bkO 0 (iter (round EE iter π [] [6, 8, 9, 25, 26, 27] Z15) x)) = some (.nm, [(9, .p (optP (cyF d l b suf)))], [])
 | [], pre, b, f, x, h, hm => by
  rw [Z0 hm]
  have : pre = l := by simpa using h.symm
  subst this
  simp [Qp, Ws, cyF]
 | y :: suf, pre, b, f, x, h, hm => by
  rw [Z0 hm]
  have hlt := Z7 h
  have hltn : pre.length < l.length := by omega
  have hg : l[pre.length]? = some y := by rw [h]; simp
  have hge : l[pre.length] = y := by simpa [hltn] using hg
  have hws := Zb hltn (show l.length ≤ top63 by simp only [top63]; omega)
  have ih := fun b x => cyc_loopP d hd hv l hl hin suf (pre ++ [y]) b true x (by simp [h])
  have hA := fun π => e_around (π := π) d hd hv l hl hin y (hin y (by rw [h]; simp))
  rw [cyF]
  generalize arC d l y = c at *
  cases c with
  | none =>
   simp [Qp, Ws, hlt, hltn, hg, hge, hA, Z9k, Z9j, Z4]
   exact ih _ _ (by simp [hws, betC])
  | some c =>
   cases b with
   | none =>
    simp [Qp, Ws, hlt, hltn, hg, hge, hA, Z9k, Z9j, Z4, optP]
    exact ih _ _ (by simp [hws, betC, optP])
   | some b =>
    by_cases hcb : c.length < b.length
    ·have hcbi : (c.length : Int) < b.length := by omega
     simp [Qp, Ws, hlt, hltn, hg, hge, hA, Z9k, Z9j, Z4, optP, hcb, hcbi]
     exact ih _ _ (by simp [hws, betC, optP, hcb])
    ·have hcbi : ¬ (c.length : Int) < b.length := by omega
     simp [Qp, Ws, hlt, hltn, hg, hge, hA, Z9k, Z9j, Z4, optP, hcb, hcbi]
     exact ih _ _ (by simp [hws, betC, optP, hcb])
def cyE : Option (List Int) → Int
 | none => 12
 | some _ => 0
theorem Zdr (d : Des) (hd : DesOk d) (rules : List Int) (hr : rules.length ≤ 1000) :
  EE π Ml [.p (Z5 d), .p (Z2 rules)] [] = if orE d rules = 0 then some (.p (.tup [optP (cyF d (sortI rules) none (sortI rules)), I (cyE (cyF d (sortI rules) none (sortI rules)))]), [])
   else some (.p (.tup [.sl 1 (some true) [], I (orE d rules)]), []) := by
 have ho := fun π => Z43 (π := π) d hd rules hr
 have hS := fun π => e_Sorted (π := π) rules hr
 have hV := fun π => e_Values (π := π) rules
 unfold Z5 at ho
 simp only [Z2, ints] at hV hS ho
 by_cases h0 : orE d rules = 0
 ·simp only [h0, if_true] at ho ⊢
  have hv := Zco h0
  have hlp := fun x => cyc_loopP (π := π) d hd hv.1 (sortI rules) (by rw [(Yn rules).length_eq]; exact hr) (fun n hn => hv.2.2.1 n ((Yn rules).mem_iff.1 hn)) (sortI rules) [] none false x rfl
  generalize cyF d (sortI rules) none (sortI rules) = R at *
  simp [Zbl, Z1, Z1u, Z5, ho, Z4, hV, AV.mkFn, hS]
  rw [hlp _ (by simp [optP])]
  cases R with
  | none => simp [optP, cyE, L9, unlE]
  | some c => simp [optP, cyE, L9, unlE]
 ·simp only [h0, if_false] at ho ⊢
  simp [Zbl, Z1, Z1u, Z5, ho, Z4, h0]
theorem delI_perm (l : List Int) (j : Nat) (h : j < l.length) : (l[j] :: delI l j (j + 1)).Perm l := by
 unfold delI
 have h1 : l = l.take j ++ l[j] :: l.drop (j + 1) := by rw [← List.drop_eq_getElem_cons h, List.take_append_drop]
 exact (List.perm_middle.symm).trans (List.Perm.of_eq h1.symm)
theorem Z9d {α : Type} (p : α → Bool) : ∀ (i : Nat) (l : List α) (j : Nat), idxOf p i l = ((i + j : Nat) : Int) → ∃ h : j < l.length, p l[j] = true ∧ ∀ k (hk : k < j), p (l[k]'(by omega)) = false
 | i, [], j, h => by simp [idxOf] at h; omega
 | i, x :: r, j, h => by
  rw [idxOf] at h
  split at h
  ·rename_i hx
   have : j = 0 := by omega
   subst this
   exact ⟨by simp, by simpa using hx, fun k hk => by omega⟩
  ·rename_i hx
   have hb := Z41 p (i + 1) r
   have hj : 1 ≤ j := by omega
   obtain ⟨h1, h2, h3⟩ := Z9d p (i + 1) r (j - 1) (by rw [h]; omega)
   refine ⟨by simp; omega, ?_, ?_⟩
   ·have : (x :: r)[j]'(by simp; omega) = r[j - 1] := by
     rw [List.getElem_cons]; simp [show j ≠ 0 by omega]
    rw [this]; exact h2
   ·intro k hk
    cases k with
    | zero => simpa using hx
    | succ k => simpa using h3 k (by omega)
theorem Z5d (d : Des) : ∀ (n : Nat) (l acc o : List Int), l.length = n → ordG d n l acc = some o → ∃ t, o = acc ++ t ∧ t.Perm l
 | 0, l, acc, o, hl, h => by
  have : l = [] := List.length_eq_zero_iff.1 hl
  subst this
  simp only [ordG, Option.some.injEq] at h
  exact ⟨[], by simp [h], .refl _⟩
 | n + 1, l, acc, o, hl, h => by
  have hb := Z41 (fun r => fstB d r l) 0 l
  have hs := Z9d (fun r => fstB d r l) 0 l
  simp only [ordG] at h
  generalize idxOf (fun r => fstB d r l) 0 l = i at *
  split at h
  ·simp at h
  ·rename_i hi
   obtain ⟨j, rfl⟩ : ∃ j : Nat, i = j := ⟨i.toNat, by omega⟩
   obtain ⟨hj, _⟩ := hs j (by simp)
   simp only [Int.toNat_natCast] at h
   obtain ⟨t, ht, hp⟩ := Z5d d n _ _ o (by rw [Z6s (by omega) (by omega)]; omega) h
   have hg : l.getD j 0 = l[j] := by simp [hj]
   refine ⟨l[j] :: t, by rw [ht, hg]; simp, ?_⟩
   exact (List.Perm.cons _ hp).trans (delI_perm l j hj)
theorem Z1p {d : Des} {r : Int} {l : List Int} : fstB d r l = true ↔ ∀ o ∈ l, o ≠ r → mpI d r o = true := by
 simp only [fstB, Bool.not_eq_true', List.any_eq_false, Bool.and_eq_true, decide_eq_true_eq, Bool.not_eq_true', not_and, Bool.not_eq_false]
theorem fstB_perm {d : Des} {r : Int} {l m : List Int} (h : l.Perm m) (hl : fstB d r l = true) : fstB d r m = true :=
 Z1p.2 fun o ho => Z1p.1 hl o (h.mem_iff.2 ho)
theorem Zf7 (d : Des) : ∀ (n : Nat) (l acc t : List Int), l.length = n → ordG d n l acc = some (acc ++ t) → ∀ i (hi : i < t.length), fstB d t[i] (t.drop i) = true
 | 0, l, acc, t, hl, h, i, hi => by
  have : t = [] := by simpa [ordG] using h
  subst this; simp at hi
 | n + 1, l, acc, t, hl, h, i, hi => by
  obtain ⟨t1, ht1, hp1⟩ := Z5d d (n + 1) l acc _ hl h
  have : t1 = t := (List.append_cancel_left ht1).symm
  subst this
  have hb := Z41 (fun r => fstB d r l) 0 l
  have hs := Z9d (fun r => fstB d r l) 0 l
  simp only [ordG] at h
  generalize idxOf (fun r => fstB d r l) 0 l = k at *
  split at h
  ·simp at h
  ·rename_i hk
   obtain ⟨j, rfl⟩ : ∃ j : Nat, k = j := ⟨k.toNat, by omega⟩
   obtain ⟨hj, hf, _⟩ := hs j (by simp)
   simp only [Int.toNat_natCast] at h
   have hlen : (delI l j (j + 1)).length = n := by rw [Z6s (by omega) (by omega)]; omega
   obtain ⟨t2, ht2, hp2⟩ := Z5d d n _ _ _ hlen h
   have hg : l.getD j 0 = l[j] := by simp [hj]
   have ht : t1 = l[j] :: t2 := by
    rw [hg, List.append_assoc] at ht2
    exact List.append_cancel_left ht2
   cases i with
   | zero =>
    subst ht
    exact fstB_perm hp1.symm (by simpa using hf)
   | succ i =>
    subst ht
    have := Zf7 d n _ (acc ++ [l[j]]) t2 hlen (by rw [hg] at h; rw [h]; simp) i (by simp at hi; omega)
    simpa using this
theorem delI_pw {l : List Int} (h : l.Pairwise (· < ·)) (j : Nat) : (delI l j (j + 1)).Pairwise (· < ·) := by
 have hs : (delI l j (j + 1)).Sublist l := by
  unfold delI
  have : (l.take j ++ l.drop (j + 1)).Sublist (l.take j ++ l.drop j) := List.Sublist.append (List.Sublist.refl _) (by
   rw [show l.drop (j + 1) = (l.drop j).drop 1 by rw [List.drop_drop]]; exact List.drop_sublist ..)
  rwa [List.take_append_drop] at this
 exact h.sublist hs
theorem Zhl (d : Des) (l : List Int) : ∀ (s : List Int) (k : Nat), cyB d l k s = true ↔ ∀ i (hi : i < s.length), memB (l.take (k + i)) s[i] = false ∧ mpI d s[i] (l.getD (prv l.length (k + i)) 0) = false
 | [], k => by simp [cyB]
 | a :: r, k => by
  have ih := Zhl d l r (k + 1)
  rw [cyB]
  constructor
  ·intro h i hi
   split at h
   ·simp at h
   ·split at h
    ·simp at h
    ·rename_i h1 h2
     cases i with
     | zero => exact ⟨by simpa using h1, by simpa using h2⟩
     | succ i => have := ih.1 h i (by simpa using hi); rw [show k + (i + 1) = k + 1 + i by omega]; exact this
  ·intro h
   have h0 := h 0 (by simp)
   simp only [Nat.add_zero, List.getElem_cons_zero] at h0
   rw [if_neg (by simp [h0.1]), if_neg (by rw [h0.2]; simp)]
   exact ih.2 fun i hi => by have := h (i + 1) (by simpa using hi); rw [show k + 1 + i = k + (i + 1) by omega]; exact this
theorem Vg {d : Des} {c : List Int} (h : isCyc d c = true) : 1 < c.length ∧ (∀ i j (hi : i < c.length) (hj : j < c.length), i < j → c[i] ≠ c[j]) ∧ ∀ i (hi : i < c.length), ∃ h2 : prv c.length i < c.length, prv c.length i ≠ i ∧ mpI d c[i] c[prv c.length i] = false := by
 simp only [isCyc, Bool.and_eq_true, decide_eq_true_eq] at h
 have hg := (Zhl d c c 0).1 h.1
 refine ⟨h.2, fun i j hi hj hij he => ?_, fun i hi => ?_⟩
 ·have := (hg j hj).1
  rw [Nat.zero_add, ← Bool.not_eq_true, Wv] at this
  exact this (List.mem_take_iff_getElem.2 ⟨i, by omega, he⟩)
 ·have hp : prv c.length i < c.length := by unfold prv; split <;> omega
  refine ⟨hp, by unfold prv; have := h.2; split <;> omega, ?_⟩
  have := (hg i hi).2
  rw [Nat.zero_add] at this
  simpa [hp] using this
theorem no_order {d : Des} {c : List Int} (hc : isCyc d c = true) : ∀ u : List Int, (∀ i (hi : i < u.length), fstB d u[i] (u.drop i) = true) → (∀ x ∈ c, x ∈ u) → False
 | [], _, hs => by
  have := (Vg hc).1
  exact absurd (hs _ (List.getElem_mem (show 0 < c.length by omega))) (by simp)
 | a :: r, hf, hs => by
  obtain ⟨h1, hnd, hp⟩ := Vg hc
  by_cases ha : a ∈ c
  ·obtain ⟨i, hi, he⟩ := List.mem_iff_getElem.1 ha
   obtain ⟨h2, h3, h4⟩ := hp i hi
   have hne : c[prv c.length i] ≠ a := by
    intro h5
    rw [← he] at h5
    rcases Nat.lt_or_gt_of_ne h3 with h6 | h6
    ·exact hnd _ _ h2 hi h6 h5
    ·exact hnd _ _ hi h2 h6 h5.symm
   have := Z1p.1 (show fstB d a (a :: r) = true from hf 0 (by simp)) _ (hs _ (List.getElem_mem h2)) hne
   rw [← he, h4] at this
   simp at this
  ·refine no_order hc r (fun i hi => show fstB d r[i] (r.drop i) = true from hf (i + 1) (by simpa using hi)) fun x hx => ?_
   rcases List.mem_cons.1 (hs x hx) with h | h
   ·exact absurd (h ▸ hx) ha
   ·exact h
theorem ordG_no {d : Des} {c l acc : List Int} (hc : isCyc d c = true) (hs : ∀ x ∈ c, x ∈ l) : ordG d l.length l acc = none := by
 cases h : ordG d l.length l acc with
 | none => rfl
 | some o =>
  obtain ⟨t, rfl, hp⟩ := Z5d d _ _ _ _ rfl h
  exact (no_order hc t (Zf7 d _ _ _ _ rfl h) fun x hx => hp.mem_iff.2 (hs x hx)).elim
structure PthOk (d : Des) (ns : List Int) (i : Int) (K p : List Int) : Prop where
 pos : 0 < p.length
 fst : p[0]? = some i
 tail : ∀ x ∈ p.drop 1, i < x ∧ x ∈ ns ∧ x ∈ K
 edge : ∀ k (h : k + 1 < p.length), mpI d p[k + 1] p[k] = false
 nodup : p.Nodup
theorem PthOk.mono {d : Des} {ns K K' p : List Int} {i : Int} (h : PthOk d ns i K p) (hs : ∀ x ∈ K, x ∈ K') : PthOk d ns i K' p :=
 { h with tail := fun x hx => ⟨(h.tail x hx).1, (h.tail x hx).2.1, hs x (h.tail x hx).2.2⟩ }
theorem PthOk.push {d : Des} {ns K p : List Int} {i n : Int} (h : PthOk d ns i K p) (hn : n ∈ ns) (ht : exT d i (lastI p) K n = true) : PthOk d ns i (K ++ [n]) (p ++ [n]) := by
 have hpos := h.pos
 simp only [exT, Bool.and_eq_true, decide_eq_true_eq, Bool.not_eq_true'] at ht
 obtain ⟨h1, h2, h3⟩ := ht
 have hnK : n ∉ K := by rw [← Wv, h2]; simp
 have hmem : ∀ x ∈ p, x = i ∨ (i < x ∧ x ∈ ns ∧ x ∈ K) := fun x hx => by
  cases p with
  | nil => simp at hx
  | cons a r =>
   have ha : a = i := by simpa using h.fst
   rcases List.mem_cons.1 hx with hx | hx
   ·exact .inl (hx.trans ha)
   ·exact .inr (h.tail x (by simpa using hx))
 exact {
  pos := by simp
  fst := by rw [List.getElem?_append_left hpos]; exact h.fst
  tail := fun x hx => by
   rw [List.drop_append_of_le_length (by omega)] at hx
   rcases List.mem_append.1 hx with hx | hx
   ·have := h.tail x hx; exact ⟨this.1, this.2.1, by simp [this.2.2]⟩
   ·rw [List.mem_singleton.1 hx]; exact ⟨h1, hn, by simp⟩
  edge := fun k hk => by
   by_cases hl : k + 1 < p.length
   ·rw [List.getElem_append_left hl, List.getElem_append_left (by omega)]; exact h.edge k hl
   ·have hk1 : k + 1 = p.length := by simp at hk; omega
    have he : (p ++ [n])[k + 1]'hk = n := by simp [List.getElem_append, hk1]
    have hlast : lastI p = p[k]'(by omega) := by unfold lastI; simp [show p.length - 1 = k by omega, show k < p.length by omega]
    rw [he, List.getElem_append_left (by omega), ← hlast]; exact h3
  nodup := by
   rw [List.nodup_append]
   refine ⟨h.nodup, by simp, fun x hx y hy he => ?_⟩
   rw [List.mem_singleton.1 hy] at he
   rcases hmem x hx with h4 | h4
   ·omega
   ·exact hnK (he ▸ h4.2.2) }
theorem exI_pth {d : Des} {ns : List Int} {i : Int} {p : List Int} : ∀ (l K : List Int) (q : List (List Int)), (∀ x ∈ l, x ∈ ns) → (∀ x ∈ q, PthOk d ns i K x) → PthOk d ns i K p → (∃ K0, (∀ x ∈ K0, x ∈ K) ∧ PthOk d ns i K0 p) →
  ∀ x ∈ (exI d i (lastI p) p K q l).2, PthOk d ns i (exI d i (lastI p) p K q l).1 x
 | [], K, q, _, hq, _, _ => by simpa [exI] using hq
 | n :: r, K, q, hl, hq, hp, hk => by
  have hl' : ∀ x ∈ r, x ∈ ns := fun x hx => hl x (by simp [hx])
  rw [exI]
  split
  ·rename_i ht
   refine exI_pth r (K ++ [n]) (q ++ [p ++ [n]]) hl' (fun x hx => ?_) (hp.mono fun x hx => by simp [hx]) ⟨K, fun x hx => by simp [hx], hp⟩
   rcases List.mem_append.1 hx with hx | hx
   ·exact (hq x hx).mono fun y hy => by simp [hy]
   ·rw [List.mem_singleton.1 hx]; exact hp.push (hl n (by simp)) ht
  ·exact exI_pth r K q hl' hq hp hk
theorem Zhw {d : Des} {ns : List Int} {i : Int} : ∀ (n : Nat) (K : List Int) (q : List (List Int)) (c : List Int), (∀ x ∈ q, PthOk d ns i K x) → arB d ns i n K q = some c → (∃ K', PthOk d ns i K' c) ∧ 1 < c.length ∧ mpI d i (lastI c) = false
 | 0, K, q, c, _, h => by simp [arB] at h
 | n + 1, K, [], c, _, h => by simp [arB] at h
 | n + 1, K, p :: q, c, hq, h => by
  rw [arB] at h
  split at h
  ·rename_i hc
   simp only [Option.some.injEq] at h
   subst h
   simp only [Bool.and_eq_true, decide_eq_true_eq, Bool.not_eq_true'] at hc
   exact ⟨⟨K, hq p (by simp)⟩, hc.1, hc.2⟩
  ·have hp := hq p (by simp)
   exact Zhw n _ _ c (fun x hx => exI_pth ns K (p :: q) (fun _ h => h) hq hp ⟨K, fun _ h => h, hp⟩ x (List.mem_of_mem_drop hx)) h
theorem pth_cyc {d : Des} {ns K c : List Int} {i : Int} (h : PthOk d ns i K c) (h1 : 1 < c.length) (h2 : mpI d i (lastI c) = false) : isCyc d c = true := by
 simp only [isCyc, Bool.and_eq_true, decide_eq_true_eq]
 refine ⟨(Zhl d c c 0).2 fun k hk => ⟨?_, ?_⟩, h1⟩
 ·rw [Nat.zero_add, ← Bool.not_eq_true, Wv]
  intro hm
  obtain ⟨j, hj, he⟩ := List.mem_take_iff_getElem.1 hm
  exact List.pairwise_iff_getElem.1 h.nodup j k (by omega) hk (by omega) he
 ·rw [Nat.zero_add]
  unfold prv
  by_cases hk0 : k = 0
  ·subst hk0
   have hi : c[0] = i := by have := h.fst; rw [List.getElem?_eq_getElem hk] at this; simpa using this
   rw [if_pos rfl, hi]; exact h2
  ·obtain ⟨k, rfl⟩ : ∃ m, k = m + 1 := ⟨k - 1, by omega⟩
   have := h.edge k hk
   simpa [show k < c.length by omega] using this
theorem arC_some {d : Des} {ns c : List Int} {i : Int} (hi : i ∈ ns) (h : arC d ns i = some c) : isCyc d c = true ∧ ∀ x ∈ c, x ∈ ns := by
 have h0 : ∀ x ∈ [[i]], PthOk d ns i [] x := fun x hx => by
  rw [List.mem_singleton.1 hx]
  exact { pos := by simp, fst := rfl, tail := fun x hx => by simp at hx, edge := fun k hk => by simp at hk, nodup := by simp }
 obtain ⟨⟨K, hp⟩, h1, h2⟩ := Zhw _ _ _ _ h0 h
 refine ⟨pth_cyc hp h1 h2, fun x hx => ?_⟩
 cases c with
 | nil => simp at hx
 | cons a r =>
  have ha : a = i := by simpa using hp.fst
  rcases List.mem_cons.1 hx with hx | hx
  ·rw [hx, ha]; exact hi
  ·exact (hp.tail x (by simpa using hx)).2.1
theorem Z90 : ∀ {w l : List Int}, w.Nodup → (∀ x ∈ w, x ∈ l) → w.length ≤ l.length
 | [], l, _, _ => by simp
 | a :: r, l, hn, hs => by
  have ha : a ∈ l := hs a (by simp)
  rw [List.nodup_cons] at hn
  have := Z90 (w := r) (l := l.erase a) hn.2 fun x hx => by
   have hne : x ≠ a := fun e => hn.1 (e ▸ hx)
   exact (List.mem_erase_of_ne hne).2 (hs x (by simp [hx]))
  rw [List.length_erase_of_mem ha] at this
  have : 0 < l.length := List.length_pos_of_mem ha
  simp; omega
theorem cyc_ex {d : Des} {l : List Int} (hp : ∀ r ∈ l, ∃ o ∈ l, o ≠ r ∧ mpI d r o = false) : ∀ (n : Nat) (w : List Int), l.length - w.length ≤ n → 0 < w.length → w.Nodup → (∀ x ∈ w, x ∈ l) → (∀ k (h : k + 1 < w.length), mpI d w[k + 1] w[k] = false) →
  ∃ c, isCyc d c = true ∧ ∀ x ∈ c, x ∈ l
 | n, w, hn, h0, hnd, hs, he => by
  obtain ⟨p, hpl, hpn, hpe⟩ := hp w[0] (hs _ (List.getElem_mem h0))
  by_cases hw : p ∈ w
  ·obtain ⟨j, hj, hje⟩ := List.mem_iff_getElem.1 hw
   have hj0 : j ≠ 0 := fun e => by subst e; exact hpn hje.symm
   have hlen : (w.take (j + 1)).length = j + 1 := by rw [List.length_take]; omega
   refine ⟨w.take (j + 1), ?_, fun x hx => hs x (List.mem_of_mem_take hx)⟩
   simp only [isCyc, Bool.and_eq_true, decide_eq_true_eq]
   refine ⟨(Zhl d _ _ 0).2 fun k hk => ⟨?_, ?_⟩, by omega⟩
   ·rw [Nat.zero_add, ← Bool.not_eq_true, Wv]
    intro hm
    obtain ⟨i, hi, hie⟩ := List.mem_take_iff_getElem.1 hm
    exact List.pairwise_iff_getElem.1 (hnd.sublist (List.take_sublist ..)) i k (by omega) hk (by omega) hie
   ·rw [Nat.zero_add]
    unfold prv
    by_cases hk0 : k = 0
    ·subst hk0
     simp [hlen, show j < w.length by omega, hje, hpe]
    ·obtain ⟨k, rfl⟩ : ∃ m, k = m + 1 := ⟨k - 1, by omega⟩
     have := he k (by omega)
     simp [show k < j + 1 by omega, show k < w.length by omega, this]
  ·have hnd' : (p :: w).Nodup := List.nodup_cons.2 ⟨hw, hnd⟩
   have hs' : ∀ x ∈ p :: w, x ∈ l := fun x hx => by
    rcases List.mem_cons.1 hx with hx | hx
    ·exact hx ▸ hpl
    ·exact hs x hx
   have hb := Z90 hnd' hs'
   simp only [List.length_cons] at hb
   cases n with
   | zero => omega
   | succ n =>
    refine cyc_ex hp n (p :: w) (by simp; omega) (by simp) hnd' hs' fun k hk => ?_
    cases k with
    | zero => simpa using hpe
    | succ k => simpa using he k (by simpa using hk)
theorem exI_cl {d : Des} {ns : List Int} {i last : Int} {p : List Int} : ∀ (l K : List Int) (q : List (List Int)), (∀ x ∈ l, x ∈ ns) →
  (∀ x ∈ K, x ∈ (exI d i last p K q l).1) ∧ (∃ t, (exI d i last p K q l).2 = q ++ t ∧ (∀ z ∈ t, z.length = p.length + 1) ∧ ∀ x ∈ (exI d i last p K q l).1, x ∈ K ∨ ∃ z ∈ t, lastI z = x) ∧
  (∀ n ∈ l, i < n → mpI d n last = false → n ∈ (exI d i last p K q l).1) ∧ (exI d i last p K q l).2.length + unk ns (exI d i last p K q l).1 ≤ q.length + unk ns K
 | [], K, q, _ => ⟨fun x hx => hx, ⟨[], by simp [exI], by simp, fun x hx => .inl hx⟩, by simp, Nat.le_refl _⟩
 | n :: r, K, q, hl => by
  have hl' : ∀ x ∈ r, x ∈ ns := fun x hx => hl x (by simp [hx])
  have hn := hl n (by simp)
  rw [exI]
  split
  ·rename_i ht
   obtain ⟨h1, ⟨t, h2, h3, h4⟩, h5, h6⟩ := exI_cl (d := d) (i := i) (last := last) (p := p) r (K ++ [n]) (q ++ [p ++ [n]]) hl'
   have hk : memB K n = false := by simp [exT] at ht; exact ht.2.1
   have hu := unk_snoc hn hk
   refine ⟨fun x hx => h1 x (by simp [hx]), ⟨(p ++ [n]) :: t, by rw [h2]; simp, fun z hz => ?_, fun x hx => ?_⟩, fun m hm => ?_, ?_⟩
   ·rcases List.mem_cons.1 hz with hz | hz
    ·rw [hz]; simp
    ·exact h3 z hz
   ·rcases h4 x hx with h | ⟨z, hz, he⟩
    ·rcases List.mem_append.1 h with h | h
     ·exact .inl h
     ·exact .inr ⟨p ++ [n], by simp, by rw [List.mem_singleton.1 h]; simp [lastI]⟩
    ·exact .inr ⟨z, by simp [hz], he⟩
   ·rcases List.mem_cons.1 hm with hm | hm
    ·intro _ _; rw [hm]; exact h1 n (by simp)
    ·exact h5 m hm
   ·simp only [List.length_append, List.length_singleton] at h6; omega
  ·rename_i ht
   obtain ⟨h1, h2, h5, h6⟩ := exI_cl (d := d) (i := i) (last := last) (p := p) r K q hl'
   refine ⟨h1, h2, fun m hm => ?_, h6⟩
   rcases List.mem_cons.1 hm with hm | hm
   ·intro hi hp
    subst hm
    simp only [exT, hi, hp, decide_true, Bool.not_false, Bool.and_true, Bool.true_and, Bool.not_eq_true', Bool.not_eq_false] at ht
    exact h1 m (Wv.1 ht)
   ·exact h5 m hm
structure ClS (d : Des) (ns : List Int) (i : Int) (S : List Int) : Prop where
 has : i ∈ S
 cl : ∀ u ∈ S, ∀ m ∈ ns, i < m → mpI d m u = false → m ∈ S
 no : ∀ u ∈ S, u ≠ i → mpI d i u = true
theorem arB_none {d : Des} {ns : List Int} {i : Int} : ∀ (n : Nat) (K : List Int) (q : List (List Int)) (P : List Int), q.length + unk ns K ≤ n → (∀ u ∈ P, ∀ m ∈ ns, i < m → mpI d m u = false → m ∈ K) →
  (∀ k ∈ K, k ∈ P ∨ ∃ z ∈ q, lastI z = k) → (∀ u ∈ P, u ≠ i → mpI d i u = true) → (i ∈ P ∨ ∃ z ∈ q, lastI z = i) → (∀ z ∈ q, 0 < z.length ∧ (z.length ≤ 1 → lastI z = i)) → arB d ns i n K q = none → ∃ S, ClS d ns i S
 | n, K, [], P, _, hA, hB, hC, hD, _, _ => ⟨P, {
   has := by simpa using hD
   cl := fun u hu m hm hi hp => by simpa using hB m (hA u hu m hm hi hp)
   no := hC }⟩
 | 0, K, p :: q, P, hn, _, _, _, _, _, _ => by simp at hn
 | n + 1, K, p :: q, P, hn, hA, hB, hC, hD, hE, h => by
  rw [arB] at h
  split at h
  ·simp at h
  ·rename_i hc
   obtain ⟨h1, ⟨t, h2, h3, h4⟩, h5, h6⟩ := exI_cl (d := d) (i := i) (last := lastI p) (p := p) ns K (p :: q) (fun _ h => h)
   rw [h2] at h h6
   generalize (exI d i (lastI p) p K (p :: q) ns).1 = K' at *
   simp only [List.cons_append, List.drop_one, List.tail_cons] at h
   refine arB_none n K' (q ++ t) (lastI p :: P) (by simp only [List.length_append, List.length_cons] at h6 hn ⊢; omega) (fun u hu m hm hi hp => ?_) (fun k hk => ?_) (fun u hu hui => ?_) ?_ (fun z hz => ?_) h
   ·rcases List.mem_cons.1 hu with hu | hu
    ·rw [hu] at hp; exact h5 m hm hi hp
    ·exact h1 m (hA u hu m hm hi hp)
   ·rcases h4 k hk with hk | ⟨z, hz, he⟩
    ·rcases hB k hk with hk | ⟨z, hz, he⟩
     ·exact .inl (by simp [hk])
     ·rcases List.mem_cons.1 hz with hz | hz
      ·exact .inl (by simp [← he, hz])
      ·exact .inr ⟨z, by simp [hz], he⟩
    ·exact .inr ⟨z, by simp [hz], he⟩
   ·rcases List.mem_cons.1 hu with hu | hu
    ·by_cases hp1 : 1 < p.length
     ·rw [hu]
      cases hm : mpI d i (lastI p) with
      | true => rfl
      | false => simp [hp1, hm] at hc
     ·exact absurd (hu.trans ((hE p (by simp)).2 (by omega))) hui
    ·exact hC u hu hui
   ·rcases hD with hD | ⟨z, hz, he⟩
    ·exact .inl (by simp [hD])
    ·rcases List.mem_cons.1 hz with hz | hz
     ·exact .inl (by simp [← he, hz])
     ·exact .inr ⟨z, by simp [hz], he⟩
   ·rcases List.mem_append.1 hz with hz | hz
    ·exact hE z (by simp [hz])
    ·have := h3 z hz
     have := (hE p (by simp)).1
     exact ⟨by omega, fun _ => by omega⟩
theorem arC_none {d : Des} {ns : List Int} {i : Int} (h : arC d ns i = none) : ∃ S, ClS d ns i S :=
 arB_none (ns.length + 1) [] [[i]] [] (by have := unk_le ns []; simp; omega) (by simp) (by simp) (by simp) (.inr ⟨[i], by simp, rfl⟩) (fun z hz => by rw [List.mem_singleton.1 hz]; exact ⟨by simp, fun _ => rfl⟩) h
theorem min_ex : ∀ (l : List Int), 0 < l.length → ∃ j, ∃ h : j < l.length, ∀ x ∈ l, l[j] ≤ x
 | [a], _ => ⟨0, by simp, by simp⟩
 | a :: b :: r, _ => by
  obtain ⟨j, hj, hm⟩ := min_ex (b :: r) (by simp)
  by_cases h : a ≤ (b :: r)[j]
  ·refine ⟨0, by simp, fun x hx => ?_⟩
   rcases List.mem_cons.1 hx with hx | hx
   ·simp [hx]
   ·exact Int.le_trans h (hm x hx)
  ·refine ⟨j + 1, by simpa using hj, fun x hx => ?_⟩
   rcases List.mem_cons.1 hx with hx | hx
   ·rw [List.getElem_cons_succ, hx]; omega
   ·simpa using hm x hx
theorem cyc_arC {d : Des} {ns c : List Int} (hc : isCyc d c = true) (hs : ∀ x ∈ c, x ∈ ns) : ∃ i ∈ c, arC d ns i ≠ none ∧ ∀ x ∈ c, i ≤ x := by
 obtain ⟨h1, hnd, hp⟩ := Vg hc
 obtain ⟨j, hj, hm⟩ := min_ex c (by omega)
 refine ⟨c[j], List.getElem_mem hj, fun hn => ?_, hm⟩
 obtain ⟨S, hS⟩ := arC_none hn
 have hne : ∀ x (h : x < c.length), x ≠ j → c[x] ≠ c[j] := fun x h hx he => by
  rcases Nat.lt_or_gt_of_ne hx with h2 | h2
  ·exact hnd x j h hj h2 he
  ·exact hnd j x hj h h2 he.symm
 have step : ∀ y (hy : y < c.length) (x) (hx : x < c.length), prv c.length y = x → c[x] ∈ S → c[y] ∈ S := fun y hy x hx he hxS => by
  obtain ⟨h2, _, h3⟩ := hp y hy
  by_cases hyj : y = j
  ·subst hyj; exact hS.has
  ·have h4 := hm c[y] (List.getElem_mem hy)
   have h5 := hne y hy hyj
   subst he
   exact hS.cl _ hxS _ (hs _ (List.getElem_mem hy)) (by omega) h3
 have up : ∀ k (h : j + k < c.length), c[j + k] ∈ S := fun k => by
  induction k with
  | zero => intro h; exact hS.has
  | succ k ih => intro h; exact step (j + (k + 1)) h (j + k) (by omega) (by unfold prv; rw [if_neg (by omega)]; omega) (ih (by omega))
 have hlast : c[c.length - 1]'(by omega) ∈ S := by
  have := up (c.length - 1 - j) (by omega)
  simpa [show j + (c.length - 1 - j) = c.length - 1 by omega] using this
 have all : ∀ k (h : k < c.length), c[k] ∈ S := fun k => by
  induction k with
  | zero => intro h; exact step 0 h (c.length - 1) (by omega) (by unfold prv; rfl) hlast
  | succ k ih => intro h; exact step (k + 1) h k (by omega) (by unfold prv; simp) (ih (by omega))
 obtain ⟨h2, h3, h4⟩ := hp j hj
 have := hS.no _ (all _ h2) (hne _ h2 h3)
 rw [h4] at this
 simp at this
theorem cyF_fact {d : Des} {l c : List Int} : ∀ (s : List Int) (b : Option (List Int)), cyF d l b s = some c → b = some c ∨ ∃ i ∈ s, arC d l i = some c
 | [], b, h => .inl h
 | i :: r, b, h => by
  rw [cyF] at h
  rcases cyF_fact r _ h with h1 | ⟨k, hk, h1⟩
  ·cases ha : arC d l i with
   | none => rw [ha] at h1; exact .inl (by simpa [betC] using h1)
   | some a =>
    rw [ha] at h1
    cases b with
    | none => exact .inr ⟨i, by simp, by rw [ha]; simpa [betC] using h1⟩
    | some b =>
     rw [betC] at h1
     split at h1
     ·exact .inr ⟨i, by simp, by rw [ha]; exact h1⟩
     ·exact .inl h1
  ·exact .inr ⟨k, by simp [hk], h1⟩
theorem cyF_some {d : Des} {l : List Int} : ∀ (s : List Int) (b : Option (List Int)), (b ≠ none ∨ ∃ i ∈ s, arC d l i ≠ none) → cyF d l b s ≠ none
 | [], b, h => by simpa [cyF] using h
 | i :: r, b, h => by
  rw [cyF]
  refine cyF_some r _ ?_
  rcases h with h | ⟨k, hk, h⟩
  ·left
   cases b with
   | none => simp at h
   | some b => cases arC d l i with
    | none => simp [betC]
    | some a => rw [betC]; split <;> simp
  ·rcases List.mem_cons.1 hk with hk | hk
   ·left
    rw [← hk]
    cases ha : arC d l k with
    | none => exact absurd ha h
    | some a => cases b with
     | none => simp [betC]
     | some b => rw [betC]; split <;> simp
   ·exact .inr ⟨k, hk, h⟩
theorem Zgt {α : Type} {p : α → Bool} : ∀ (i : Nat) (l : List α), idxOf p i l = -1 → ∀ x ∈ l, p x = false
 | _, [], _ => by simp
 | i, y :: r, h => by
  rw [idxOf] at h
  split at h
  ·omega
  ·rename_i hy
   intro x hx
   rcases List.mem_cons.1 hx with hx | hx
   ·rw [hx]; simpa using hy
   ·exact Zgt (i + 1) r h x hx
theorem ordG_cyc {d : Des} : ∀ (n : Nat) (l acc : List Int), l.length = n → ordG d n l acc = none → ∃ c, isCyc d c = true ∧ ∀ x ∈ c, x ∈ l
 | 0, l, acc, hl, h => by simp [ordG] at h
 | n + 1, l, acc, hl, h => by
  have hb := Z41 (fun r => fstB d r l) 0 l
  have hno := Zgt (p := fun r => fstB d r l) 0 l
  simp only [ordG] at h
  generalize idxOf (fun r => fstB d r l) 0 l = i at *
  split at h
  ·rename_i hi
   have hno := hno hi
   have h0 : 0 < l.length := by omega
   refine cyc_ex (d := d) (l := l) (fun r hr => ?_) l.length [l[0]] (by omega) (by simp) (by simp) (fun x hx => by rw [List.mem_singleton.1 hx]; exact List.getElem_mem h0) (fun k hk => by simp at hk)
   have := hno r hr
   simp only [fstB, Bool.not_eq_false', List.any_eq_true, Bool.and_eq_true, decide_eq_true_eq, Bool.not_eq_true'] at this
   exact this
  ·obtain ⟨j, rfl⟩ : ∃ j : Nat, i = j := ⟨i.toNat, by omega⟩
   simp only [Int.toNat_natCast] at h
   obtain ⟨c, hc, hs⟩ := ordG_cyc n _ _ (by rw [Z6s (by omega) (by omega)]; omega) h
   refine ⟨c, hc, fun x hx => ?_⟩
   have := hs x hx
   unfold delI at this
   rcases List.mem_append.1 this with h | h
   ·exact List.mem_of_mem_take h
   ·exact List.mem_of_mem_drop h
theorem orE_of {d : Des} {rules : List Int} (h : (desE d).2 = 0) (h2 : rulsE d rules = 0) : orE d rules = 0 := by
 unfold orE; rw [if_pos h, h2]
theorem sortI_lt {l : List Int} (h : l.Nodup) : (sortI l).Pairwise (· < ·) := by
 have h1 := Ht l
 have h2 : (sortI l).Nodup := (Yn l).nodup_iff.2 h
 exact (h1.and h2).imp fun h => by omega
theorem Zcj (l : List Int) : (sortI l).length = l.length := (Yn l).length_eq
structure NoOrd (d : Des) (rules : List Int) (c : List Int) : Prop where
 cyc : cyF d (sortI rules) none (sortI rules) = some c
 len : c.length ≤ rules.length
 err : rulsE d c = 0
 isC : isCyc d c = true
 inr : inR d c
 has : ∀ x ∈ c, memB rules x = true
 more : ∀ r : Int, 0 ≤ r → r < (d.rules.length : Int) → memB rules r = false → orE d (rules ++ [r]) = 0 ∧ ordG d (rules ++ [r]).length (sortI (rules ++ [r])) [] = none
structure YesOrd (d : Des) (rules : List Int) (o : List Int) : Prop where
 cyc : cyF d (sortI rules) none (sortI rules) = none
 len : o.length = rules.length
 err : rulsE d o = 0
 orr : orE d o = 0
 inr : inR d o
 has : ∀ x ∈ o, memB rules x = true
 desc : ∀ i (h : i + 1 < o.length), o[i + 1] < o[i] → mpI d o[i + 1] o[i] = false
 chk : eachE (ckE d o) 0 o = (0, 0)
def lexL : List Int → List Int → Prop
 | _, [] => False
 | [], _ :: _ => True
 | a :: r, b :: s => a < b ∨ (a = b ∧ lexL r s)
def slt (a b : List Int) : Prop := a.length < b.length ∨ (a.length = b.length ∧ lexL a b)
def sle (a b : List Int) : Prop := slt a b ∨ a = b
theorem lexL_irr : ∀ a : List Int, ¬ lexL a a
 | [] => by simp [lexL]
 | a :: r => by
  simp only [lexL]
  rintro (h | ⟨_, h⟩)
  ·omega
  ·exact lexL_irr r h
theorem Zfe : ∀ {a b c : List Int}, lexL a b → lexL b c → lexL a c
 | _, _, [], _, h => by simp [lexL] at h
 | _, [], _ :: _, h, _ => by simp [lexL] at h
 | [], _ :: _, _ :: _, _, _ => by simp [lexL]
 | a :: r, b :: s, c :: t, h1, h2 => by
  simp only [lexL] at *
  rcases h1 with h1 | ⟨h1, h3⟩ <;> rcases h2 with h2 | ⟨h2, h4⟩
  ·left; omega
  ·left; omega
  ·left; omega
  ·right; exact ⟨h1.trans h2, Zfe h3 h4⟩
theorem lexL_app : ∀ {a b : List Int} (x y : List Int), a.length = b.length → lexL a b → lexL (a ++ x) (b ++ y)
 | _, [], _, _, _, h => by simp [lexL] at h
 | [], _ :: _, _, _, h, _ => by simp at h
 | a :: r, b :: s, x, y, hl, h => by
  simp only [lexL, List.cons_append] at *
  rcases h with h | ⟨h, h1⟩
  ·exact .inl h
  ·exact .inr ⟨h, lexL_app x y (by simpa using hl) h1⟩
theorem Zgo : ∀ (a : List Int) {x y : List Int}, lexL x y → lexL (a ++ x) (a ++ y)
 | [], _, _, h => h
 | _ :: r, _, _, h => by simp only [List.cons_append, lexL]; exact .inr ⟨trivial, Zgo r h⟩
theorem slt_trans {a b c : List Int} (h1 : slt a b) (h2 : slt b c) : slt a c := by
 rcases h1 with h1 | ⟨h1, h3⟩ <;> rcases h2 with h2 | ⟨h2, h4⟩
 ·left; omega
 ·left; omega
 ·left; omega
 ·right; exact ⟨h1.trans h2, Zfe h3 h4⟩
theorem slt_irr (a : List Int) : ¬ slt a a := fun h => by
 rcases h with h | ⟨_, h⟩
 ·omega
 ·exact lexL_irr a h
theorem Z2v {a b c : List Int} (h1 : sle a b) (h2 : sle b c) : sle a c := by
 rcases h1 with h1 | h1
 ·rcases h2 with h2 | h2
  ·exact .inl (slt_trans h1 h2)
  ·exact .inl (h2 ▸ h1)
 ·exact h1 ▸ h2
theorem sle_anti {a b : List Int} (h1 : sle a b) (h2 : sle b a) : a = b := by
 rcases h1 with h1 | h1
 ·rcases h2 with h2 | h2
  ·exact absurd (slt_trans h1 h2) (slt_irr a)
  ·exact h2.symm
 ·exact h1
theorem slt_snoc {p q : List Int} (m n : Int) (h : slt p q) : slt (p ++ [m]) (q ++ [n]) := by
 rcases h with h | ⟨h, h1⟩
 ·left; simp; omega
 ·right; exact ⟨by simp [h], lexL_app _ _ h h1⟩
theorem sle_snoc {p q : List Int} (n : Int) (h : sle p q) : sle (p ++ [n]) (q ++ [n]) := by
 rcases h with h | h
 ·exact .inl (slt_snoc n n h)
 ·exact .inr (by rw [h])
theorem slt_self (p : List Int) (n : Int) : slt p (p ++ [n]) := .inl (by simp)
theorem snoc_slt (p : List Int) {m n : Int} (h : m < n) : slt (p ++ [m]) (p ++ [n]) := .inr ⟨by simp, Zgo p (by simp [lexL, h])⟩
theorem Z6n (w : List Int) (n : Int) : lastI (w ++ [n]) = n := by simp [lastI]
inductive Wlk (d : Des) (ns : List Int) (i : Int) : List Int → Prop
 | one : Wlk d ns i [i]
 | snoc {w : List Int} {n : Int} : Wlk d ns i w → n ∈ ns → i < n → mpI d n (lastI w) = false → Wlk d ns i (w ++ [n])
structure Bfs (d : Des) (ns : List Int) (i : Int) (K : List Int) (P q : List (List Int)) : Prop where
 srt : (P ++ q).Pairwise slt
 pos : ∀ r ∈ P ++ q, 0 < r.length
 par : ∀ r ∈ P ++ q, r = [i] ∨ ∃ p ∈ P, ∃ m, r = p ++ [m]
 clo : ∀ p ∈ P, ∀ n ∈ ns, i < n → mpI d n (lastI p) = false → ∃ r ∈ P ++ q, lastI r = n ∧ sle r (p ++ [n])
 kno : ∀ k ∈ K, ∃ r ∈ P ++ q, lastI r = k
 str : [i] ∈ P ++ q
 no : ∀ p ∈ P, 1 < p.length → mpI d i (lastI p) = true
theorem Bfs.walk {d : Des} {ns K : List Int} {i : Int} {P q : List (List Int)} (h : Bfs d ns i K P q) {w : List Int} (hw : Wlk d ns i w) : (∃ p ∈ P, lastI p = lastI w ∧ sle p w) ∨ ∃ p ∈ q, sle p w := by
 induction hw with
 | one =>
  rcases List.mem_append.1 h.str with h1 | h1
  ·exact .inl ⟨_, h1, rfl, .inr rfl⟩
  ·exact .inr ⟨_, h1, .inr rfl⟩
 | @snoc w n hw hn hi he ih =>
  rcases ih with ⟨p, hp, h1, h2⟩ | ⟨p, hp, h1⟩
  ·obtain ⟨r, hr, h3, h4⟩ := h.clo p hp n hn hi (by rw [h1]; exact he)
   have h5 := Z2v h4 (sle_snoc n h2)
   rcases List.mem_append.1 hr with hr | hr
   ·exact .inl ⟨r, hr, by rw [h3, Z6n], h5⟩
   ·exact .inr ⟨r, hr, h5⟩
  ·exact .inr ⟨p, hp, Z2v h1 (.inl (slt_self w n))⟩
theorem exI_bfs {d : Des} {i last : Int} {p : List Int} : ∀ (l K : List Int) (q : List (List Int)), l.Pairwise (· < ·) →
  ∃ t, (exI d i last p K q l).2 = q ++ t ∧ (∀ z ∈ t, ∃ m ∈ l, z = p ++ [m]) ∧ t.Pairwise slt ∧ (∀ n ∈ l, i < n → mpI d n last = false → n ∈ K ∨ p ++ [n] ∈ t) ∧ ∀ k ∈ (exI d i last p K q l).1, k ∈ K ∨ p ++ [k] ∈ t
 | [], K, q, _ => ⟨[], by simp [exI], by simp, by simp, by simp, fun k hk => .inl hk⟩
 | n :: r, K, q, hs => by
  rw [List.pairwise_cons] at hs
  rw [exI]
  split
  ·rename_i ht
   obtain ⟨t, h1, h2, h3, h4, h5⟩ := exI_bfs (d := d) (i := i) (last := last) (p := p) r (K ++ [n]) (q ++ [p ++ [n]]) hs.2
   refine ⟨(p ++ [n]) :: t, by rw [h1]; simp, fun z hz => ?_, List.pairwise_cons.2 ⟨fun z hz => ?_, h3⟩, fun m hm hi he => ?_, fun k hk => ?_⟩
   ·rcases List.mem_cons.1 hz with hz | hz
    ·exact ⟨n, by simp, hz⟩
    ·obtain ⟨m, hm, he⟩ := h2 z hz; exact ⟨m, by simp [hm], he⟩
   ·obtain ⟨m, hm, he⟩ := h2 z hz
    rw [he]; exact snoc_slt p (hs.1 m hm)
   ·rcases List.mem_cons.1 hm with hm | hm
    ·exact .inr (by rw [hm]; simp)
    ·rcases h4 m hm hi he with h | h
     ·rcases List.mem_append.1 h with h | h
      ·exact .inl h
      ·exact .inr (by rw [List.mem_singleton.1 h]; simp)
     ·exact .inr (by simp [h])
   ·rcases h5 k hk with h | h
    ·rcases List.mem_append.1 h with h | h
     ·exact .inl h
     ·exact .inr (by rw [List.mem_singleton.1 h]; simp)
    ·exact .inr (by simp [h])
  ·rename_i ht
   obtain ⟨t, h1, h2, h3, h4, h5⟩ := exI_bfs (d := d) (i := i) (last := last) (p := p) r K q hs.2
   refine ⟨t, h1, fun z hz => ?_, h3, fun m hm hi he => ?_, h5⟩
   ·obtain ⟨m, hm, he⟩ := h2 z hz; exact ⟨m, by simp [hm], he⟩
   ·rcases List.mem_cons.1 hm with hm | hm
    ·subst hm
     simp only [exT, hi, he, decide_true, Bool.not_false, Bool.and_true, Bool.true_and, Bool.not_eq_true', Bool.not_eq_false] at ht
     exact .inl (Wv.1 ht)
    ·exact h4 m hm hi he
theorem Bfs.step {d : Des} {ns K : List Int} {i : Int} {P q : List (List Int)} {p : List Int} (hs : ns.Pairwise (· < ·)) (h : Bfs d ns i K P (p :: q)) (hc : 1 < p.length → mpI d i (lastI p) = true) :
  Bfs d ns i (exI d i (lastI p) p K (p :: q) ns).1 (P ++ [p]) ((exI d i (lastI p) p K (p :: q) ns).2.drop 1) := by
 obtain ⟨t, h1, h2, h3, h4, h5⟩ := exI_bfs (d := d) (i := i) (last := lastI p) (p := p) ns K (p :: q) hs
 rw [h1]
 generalize (exI d i (lastI p) p K (p :: q) ns).1 = K' at *
 have hall : P ++ [p] ++ List.drop 1 (p :: q ++ t) = (P ++ p :: q) ++ t := by simp
 have hlow : ∀ a ∈ P ++ p :: q, ∀ m, slt a (p ++ [m]) := fun a ha m => by
  rcases h.par a ha with h6 | ⟨p', hp', m', h6⟩
  ·left
   have := h.pos p (by simp)
   rw [h6]; simp; omega
  ·rw [h6]
   exact slt_snoc _ _ ((List.pairwise_append.1 h.srt).2.2 p' hp' p (by simp))
 exact {
  srt := by
   rw [hall, List.pairwise_append]
   refine ⟨h.srt, h3, fun a ha z hz => ?_⟩
   obtain ⟨m, _, he⟩ := h2 z hz
   rw [he]; exact hlow a ha m
  pos := fun r hr => by
   rw [hall] at hr
   rcases List.mem_append.1 hr with hr | hr
   ·exact h.pos r hr
   ·obtain ⟨m, _, he⟩ := h2 r hr
    rw [he]; simp
  par := fun r hr => by
   rw [hall] at hr
   rcases List.mem_append.1 hr with hr | hr
   ·rcases h.par r hr with h6 | ⟨p', hp', m', h6⟩
    ·exact .inl h6
    ·exact .inr ⟨p', by simp [hp'], m', h6⟩
   ·obtain ⟨m, _, he⟩ := h2 r hr
    exact .inr ⟨p, by simp, m, he⟩
  clo := fun u hu n hn hi he => by
   rw [hall]
   rcases List.mem_append.1 hu with hu | hu
   ·obtain ⟨r, hr, h6, h7⟩ := h.clo u hu n hn hi he
    exact ⟨r, List.mem_append_left _ hr, h6, h7⟩
   ·rw [List.mem_singleton.1 hu] at he ⊢
    rcases h4 n hn hi he with h6 | h6
    ·obtain ⟨r, hr, h7⟩ := h.kno n h6
     exact ⟨r, List.mem_append_left _ hr, h7, .inl (hlow r hr n)⟩
    ·exact ⟨p ++ [n], List.mem_append_right _ h6, Z6n p n, .inr rfl⟩
  kno := fun k hk => by
   rw [hall]
   rcases h5 k hk with h6 | h6
   ·obtain ⟨r, hr, h7⟩ := h.kno k h6
    exact ⟨r, List.mem_append_left _ hr, h7⟩
   ·exact ⟨_, List.mem_append_right _ h6, Z6n p k⟩
  str := by rw [hall]; exact List.mem_append_left _ h.str
  no := fun u hu => by
   rcases List.mem_append.1 hu with hu | hu
   ·exact h.no u hu
   ·rw [List.mem_singleton.1 hu]; exact hc }
theorem Wlk.last {d : Des} {ns : List Int} {i : Int} {w : List Int} (h : Wlk d ns i w) (h1 : 1 < w.length) : lastI w ≠ i := by
 cases h with
 | one => simp at h1
 | snoc _ _ hi _ => rw [Z6n]; omega
theorem arB_min {d : Des} {ns : List Int} {i : Int} (hs : ns.Pairwise (· < ·)) : ∀ (n : Nat) (K : List Int) (P q : List (List Int)) (c : List Int), Bfs d ns i K P q → arB d ns i n K q = some c →
  ∀ w, Wlk d ns i w → 1 < w.length → mpI d i (lastI w) = false → sle c w
 | 0, K, P, q, c, _, h => by simp [arB] at h
 | n + 1, K, P, [], c, _, h => by simp [arB] at h
 | n + 1, K, P, p :: q, c, hB, h => by
  rw [arB] at h
  split at h
  ·simp only [Option.some.injEq] at h
   subst h
   intro w hw h1 h2
   rcases hB.walk hw with ⟨u, hu, h3, h4⟩ | ⟨u, hu, h3⟩
   ·by_cases h5 : 1 < u.length
    ·have := hB.no u hu h5
     rw [h3, h2] at this
     simp at this
    ·rcases hB.par u (by simp [hu]) with h6 | ⟨p', hp', m, h6⟩
     ·exfalso; exact hw.last h1 (by rw [← h3, h6]; rfl)
     ·have := hB.pos p' (by simp [hp'])
      rw [h6, List.length_append, List.length_singleton] at h5; omega
   ·rcases List.mem_cons.1 hu with hu | hu
    ·exact hu ▸ h3
    ·have := List.pairwise_cons.1 (List.pairwise_append.1 hB.srt).2.1
     exact Z2v (.inl (this.1 u hu)) h3
  ·rename_i hc
   refine arB_min hs n _ _ _ c (hB.step hs fun h1 => ?_) h
   cases hm : mpI d i (lastI p) with
   | true => rfl
   | false => simp [h1, hm] at hc
theorem arC_min {d : Des} {ns c : List Int} {i : Int} (hs : ns.Pairwise (· < ·)) (h : arC d ns i = some c) {w : List Int} (hw : Wlk d ns i w) (h1 : 1 < w.length) (h2 : mpI d i (lastI w) = false) : sle c w :=
 arB_min hs _ _ [] _ c {
  srt := by simp
  pos := by simp
  par := by simp
  clo := by simp
  kno := by simp
  str := by simp
  no := by simp } h w hw h1 h2
structure CycL (d : Des) (l : List Int) (c : List Int) : Prop where
 cyc : isCyc d c = true
 has : ∀ x ∈ c, x ∈ l
 fst : ∃ i, c[0]? = some i ∧ ∀ x ∈ c, i ≤ x
theorem CycL.walk {d : Des} {l c : List Int} {i : Int} (h : CycL d l c) (hi : c[0]? = some i) : Wlk d l i c ∧ 1 < c.length ∧ mpI d i (lastI c) = false := by
 obtain ⟨h1, hnd, hp⟩ := Vg h.cyc
 have h0 : c[0]'(by omega) = i := by rw [List.getElem?_eq_getElem (by omega)] at hi; simpa using hi
 have hmin : ∀ x ∈ c, i ≤ x := by
  obtain ⟨j, hj, hm⟩ := h.fst
  rw [hi] at hj
  simp only [Option.some.injEq] at hj
  exact hj ▸ hm
 have hw : ∀ k (hk : k < c.length), Wlk d l i (c.take (k + 1)) := fun k => by
  induction k with
  | zero =>
   intro hk
   have : c.take 1 = [i] := by rw [List.take_add_one, hi]; rfl
   rw [this]; exact .one
  | succ k ih =>
   intro hk
   have he : c.take (k + 1 + 1) = c.take (k + 1) ++ [c[k + 1]] := by rw [List.take_add_one, List.getElem?_eq_getElem hk]; rfl
   rw [he]
   have hlast : lastI (c.take (k + 1)) = c[k] := by
    unfold lastI
    rw [List.length_take, show min (k + 1) c.length - 1 = k by omega]
    simp [show k < c.length by omega]
   refine .snoc (ih (by omega)) (h.has _ (List.getElem_mem hk)) ?_ ?_
   ·have h2 := hmin _ (List.getElem_mem hk)
    have h3 := hnd 0 (k + 1) (by omega) hk (by omega)
    rw [h0] at h3
    omega
   ·rw [hlast]
    obtain ⟨h2, _, h3⟩ := hp (k + 1) hk
    simpa [prv] using h3
 refine ⟨?_, h1, ?_⟩
 ·have := hw (c.length - 1) (by omega)
  rwa [show c.length - 1 + 1 = c.length by omega, List.take_length] at this
 ·obtain ⟨h2, _, h3⟩ := hp 0 (by omega)
  rw [h0] at h3
  unfold lastI
  simpa [prv, show c.length - 1 < c.length by omega] using h3
theorem arC_cycL {d : Des} {ns c : List Int} {i : Int} (hi : i ∈ ns) (h : arC d ns i = some c) : CycL d ns c ∧ c[0]? = some i := by
 obtain ⟨h1, h2⟩ := arC_some hi h
 have h0 : ∀ x ∈ [[i]], PthOk d ns i [] x := fun x hx => by
  rw [List.mem_singleton.1 hx]
  exact { pos := by simp, fst := rfl, tail := fun x hx => by simp at hx, edge := fun k hk => by simp at hk, nodup := by simp }
 obtain ⟨⟨K, hp⟩, _, _⟩ := Zhw _ _ _ _ h0 h
 refine ⟨⟨h1, h2, i, hp.fst, fun x hx => ?_⟩, hp.fst⟩
 cases c with
 | nil => simp at hx
 | cons a r =>
  have ha : a = i := by simpa using hp.fst
  rcases List.mem_cons.1 hx with hx | hx
  ·rw [hx, ha]; exact Int.le_refl _
  ·exact Int.le_of_lt (hp.tail x (by simpa using hx)).1
theorem lexL_hd {a b : List Int} {i j : Int} (ha : a[0]? = some i) (hb : b[0]? = some j) (h : i < j) : lexL a b := by
 cases a with
 | nil => simp at ha
 | cons x r => cases b with
  | nil => simp at hb
  | cons y s =>
   simp only [List.getElem?_cons_zero, Option.some.injEq] at ha hb
   simp only [lexL]
   left; omega
theorem cyF_le {d : Des} {l c : List Int} (hin : ∀ i ∈ l, i ∈ l) : ∀ (s : List Int) (b : Option (List Int)), (∀ x ∈ s, x ∈ l) → s.Pairwise (· < ·) → (∀ a, b = some a → ∃ j, a[0]? = some j ∧ ∀ i ∈ s, j < i) → cyF d l b s = some c →
  (∀ a, b = some a → sle c a) ∧ ∀ i ∈ s, ∀ a, arC d l i = some a → sle c a
 | [], b, _, _, _, h => ⟨fun a ha => by rw [cyF, ha] at h; simp only [Option.some.injEq] at h; exact .inr h.symm, by simp⟩
 | i :: r, b, hl, hs, hb, h => by
  rw [List.pairwise_cons] at hs
  have hl' : ∀ x ∈ r, x ∈ l := fun x hx => hl x (by simp [hx])
  rw [cyF] at h
  have key : ∀ a0, betC (arC d l i) b = some a0 → (∃ j, a0[0]? = some j ∧ ∀ i ∈ r, j < i) ∧ (∀ a, b = some a → sle a0 a) ∧ ∀ a, arC d l i = some a → sle a0 a := by
   intro a0 h0
   cases ha : arC d l i with
   | none =>
    rw [ha, betC] at h0
    obtain ⟨j, hj, hm⟩ := hb a0 h0
    refine ⟨⟨j, hj, fun x hx => hm x (by simp [hx])⟩, fun a h1 => ?_, by simp⟩
    rw [h0] at h1; simp only [Option.some.injEq] at h1; exact .inr h1
   | some a1 =>
    have hf := (arC_cycL (hl i (by simp)) ha).2
    rw [ha] at h0
    cases b with
    | none =>
     simp only [betC, Option.some.injEq] at h0
     subst h0
     exact ⟨⟨i, hf, hs.1⟩, by simp, fun a h1 => by simp only [Option.some.injEq] at h1; exact .inr h1⟩
    | some b1 =>
     obtain ⟨j, hj, hm⟩ := hb b1 rfl
     rw [betC] at h0
     split at h0
     ·rename_i hlt
      simp only [Option.some.injEq] at h0
      subst h0
      exact ⟨⟨i, hf, hs.1⟩, fun a h1 => by simp only [Option.some.injEq] at h1; exact .inl (.inl (h1 ▸ hlt)), fun a h1 => by simp only [Option.some.injEq] at h1; exact .inr h1⟩
     ·rename_i hlt
      simp only [Option.some.injEq] at h0
      subst h0
      refine ⟨⟨j, hj, fun x hx => hm x (by simp [hx])⟩, fun a h1 => by simp only [Option.some.injEq] at h1; exact .inr h1, fun a h1 => ?_⟩
      simp only [Option.some.injEq] at h1
      subst h1
      rcases Nat.lt_or_eq_of_le (Nat.le_of_not_lt hlt) with h2 | h2
      ·exact .inl (.inl h2)
      ·exact .inl (.inr ⟨h2, lexL_hd hj hf (hm i (by simp))⟩)
  obtain ⟨h1, h2⟩ := cyF_le hin r (betC (arC d l i) b) hl' hs.2 (fun a ha => (key a ha).1) h
  refine ⟨fun a ha => ?_, fun k hk a ha => ?_⟩
  ·cases h0 : betC (arC d l i) b with
   | none => rw [ha] at h0; cases h3 : arC d l i <;> rw [h3] at h0 <;> simp [betC] at h0; split at h0 <;> simp at h0
   | some a0 => exact Z2v (h1 a0 h0) ((key a0 h0).2.1 a ha)
  ·rcases List.mem_cons.1 hk with hk | hk
   ·subst hk
    cases h0 : betC (arC d l k) b with
    | none => rw [ha] at h0; cases b <;> simp [betC] at h0; split at h0 <;> simp at h0
    | some a0 => exact Z2v (h1 a0 h0) ((key a0 h0).2.2 a ha)
   ·exact h2 k hk a ha
structure LstC (d : Des) (l : List Int) (c : List Int) : Prop where
 is : CycL d l c
 le : ∀ c', CycL d l c' → sle c c'
theorem LstC.uniq {d : Des} {l a b : List Int} (ha : LstC d l a) (hb : LstC d l b) : a = b := sle_anti (ha.le b hb.is) (hb.le a ha.is)
theorem cyF_least {d : Des} {l c : List Int} (hs : l.Pairwise (· < ·)) (h : cyF d l none l = some c) : LstC d l c := by
 have hle := (cyF_le (fun _ h => h) l none (fun _ h => h) hs (by simp) h).2
 rcases cyF_fact _ _ h with h1 | ⟨i, hi, ha⟩
 ·simp at h1
 ·refine ⟨(arC_cycL hi ha).1, fun c' hc' => ?_⟩
  obtain ⟨j, hj, hm⟩ := hc'.fst
  obtain ⟨hw, h1, h2⟩ := hc'.walk hj
  have hjc : j ∈ c' := List.mem_of_getElem? hj
  have hjl := hc'.has j hjc
  cases ha' : arC d l j with
  | some a => exact Z2v (hle j hjl a ha') (arC_min hs ha' hw h1 h2)
  | none =>
   obtain ⟨k, hk, hne, hmk⟩ := cyc_arC hc'.cyc hc'.has
   have : k = j := by have := hm k hk; have := hmk j hjc; omega
   rw [this] at hne
   exact absurd ha' hne
theorem skB_no {d : Des} {ns path : List Int} {k : Int} : skB d ns path k = false ↔ k ∈ ns ∧ k ∉ path ∧ (0 < path.length → path.getD 0 0 ≤ k ∧ mpI d k (lastI path) = false) := by
 have e1 : memB path k = false ↔ k ∉ path := by rw [← Bool.not_eq_true, Wv]
 have e2 : (!memB ns k) = false ↔ k ∈ ns := by rw [Bool.not_eq_false', Wv]
 rw [skB, Bool.or_eq_false_iff, Bool.or_eq_false_iff, e1, e2, Bool.and_eq_false_iff, Bool.or_eq_false_iff, decide_eq_false_iff_not, decide_eq_false_iff_not]
 constructor
 ·rintro ⟨h1, h2, h3⟩
  refine ⟨h1, h2, fun h0 => ?_⟩
  rcases h3 with h3 | h3
  ·exact absurd h0 h3
  ·exact ⟨by omega, h3.2⟩
 ·rintro ⟨h1, h2, h3⟩
  refine ⟨h1, h2, ?_⟩
  by_cases h0 : 0 < path.length
  ·exact .inr ⟨by have := (h3 h0).1; omega, (h3 h0).2⟩
  ·exact .inl h0
theorem lgr_pre {d : Des} {ns : List Int} : ∀ (n : Nat) (path c : List Int), lgr d ns n path = some c → ∃ t, c = path ++ t
 | 0, path, c, h => by
  rw [lgr] at h
  split at h
  ·simp only [Option.some.injEq] at h; exact ⟨[], by simp [h]⟩
  ·simp at h
 | n + 1, path, c, h => by
  rw [lgr] at h
  obtain ⟨k, _, _, hk, _⟩ := Z3d h
  split at hk
  ·simp at hk
  ·obtain ⟨t, ht⟩ := lgr_pre n _ _ hk
   exact ⟨(k : Int) :: t, by simp [ht]⟩
theorem lgr_cyc {d : Des} {ns : List Int} : ∀ (n : Nat) (path c : List Int), lgr d ns n path = some c → (∀ x ∈ path, x ∈ ns) → (∀ x ∈ path, path.getD 0 0 ≤ x) → CycL d ns c
 | 0, path, c, h, h1, h2 => by
  rw [lgr] at h
  split at h
  ·rename_i hc
   simp only [Option.some.injEq] at h
   subst h
   have := (Vg hc).1
   exact ⟨hc, h1, path.getD 0 0, by simp [show 0 < path.length by omega], h2⟩
  ·simp at h
 | n + 1, path, c, h, h1, h2 => by
  rw [lgr] at h
  obtain ⟨k, _, _, hk, _⟩ := Z3d h
  split at hk
  ·simp at hk
  ·rename_i hs
   obtain ⟨h3, h4, h5⟩ := skB_no.1 (by simpa using hs)
   refine lgr_cyc n _ c hk (fun x hx => ?_) fun x hx => ?_
   ·rcases List.mem_append.1 hx with hx | hx
    ·exact h1 x hx
    ·rw [List.mem_singleton.1 hx]; exact h3
   ·cases path with
    | nil =>
     have hxk : x = (k : Int) := by simpa using hx
     rw [hxk]; simp
    | cons a r =>
     rcases List.mem_append.1 hx with hx | hx
     ·simpa using h2 x hx
     ·rw [List.mem_singleton.1 hx]; simpa using (h5 (by simp)).1
theorem lgr_le {d : Des} {ns : List Int} (hin : inR d ns) {c' : List Int} (hc : CycL d ns c') : ∀ (n : Nat) (path t : List Int), c' = path ++ t → c'.length = path.length + n → ∃ c, lgr d ns n path = some c ∧ sle c c'
 | 0, path, t, h, hl => by
  have : t = [] := List.length_eq_zero_iff.1 (by rw [h] at hl; simp at hl; simp [hl])
  subst this
  rw [List.append_nil] at h
  have hcy : isCyc d path = true := by rw [← h]; exact hc.cyc
  exact ⟨path, by rw [lgr, if_pos hcy], .inr h.symm⟩
 | n + 1, path, [], h, hl => by rw [h] at hl; simp at hl
 | n + 1, path, k :: t, h, hl => by
  obtain ⟨h1, hnd, hp⟩ := Vg hc.cyc
  have hlt : path.length < c'.length := by omega
  have hg : c'[path.length] = k := by simp [h]
  have hk : k ∈ ns := hc.has k (by rw [h]; simp)
  have hkr := hin k hk
  have hsk : skB d ns path k = false := by
   refine skB_no.2 ⟨hk, fun hm => ?_, fun h0 => ⟨?_, ?_⟩⟩
   ·obtain ⟨j, hj, he⟩ := List.mem_iff_getElem.1 hm
    refine hnd j path.length (by omega) hlt hj ?_
    rw [hg, ← he]
    simp [h, List.getElem_append_left hj]
   ·obtain ⟨i, hi, hm⟩ := hc.fst
    have : path.getD 0 0 = i := by
     rw [h, List.getElem?_append_left h0] at hi
     simp [hi]
    rw [this]
    exact hm k (by rw [h]; simp)
   ·obtain ⟨h2, _, h3⟩ := hp path.length hlt
    rw [hg] at h3
    have hpr : prv c'.length path.length = path.length - 1 := by unfold prv; rw [if_neg (by omega)]
    have : c'[prv c'.length path.length] = lastI path := by
     unfold lastI
     simp only [hpr]
     simp [h, show path.length - 1 < path.length by omega]
    rw [this] at h3
    exact h3
  obtain ⟨c1, h4, h5⟩ := lgr_le hin hc n (path ++ [k]) t (by simp [h]) (by simp; omega)
  rw [lgr]
  have hfk : (if skB d ns path ((k.toNat : Nat) : Int) = true then none else lgr d ns n (path ++ [((k.toNat : Nat) : Int)])) = some c1 := by
   simp only [show ((k.toNat : Nat) : Int) = k by omega, hsk]
   simpa using h4
  cases hf : fndU (fun k => if skB d ns path k = true then none else lgr d ns n (path ++ [k])) 0 d.rules.length with
  | none =>
   have := Zd2.1 hf k.toNat (by omega) (by omega)
   rw [this] at hfk
   simp at hfk
  | some c =>
   refine ⟨c, rfl, ?_⟩
   obtain ⟨k0, _, h6, h7, h8⟩ := Z3d hf
   by_cases he : k0 = k.toNat
   ·subst he
    rw [hfk] at h7
    simp only [Option.some.injEq] at h7
    exact h7 ▸ h5
   ·have hlt0 : k0 < k.toNat := by
     rcases Nat.lt_or_gt_of_ne he with h9 | h9
     ·exact h9
     ·have := h8 k.toNat (by omega) h9
      rw [this] at hfk
      simp at hfk
    split at h7
    ·simp at h7
    ·obtain ⟨t0, ht0⟩ := lgr_pre n _ _ h7
     have hlen := Zgn d ns n _ _ h7
     refine .inl (.inr ⟨by rw [hl, hlen]; simp; omega, ?_⟩)
     rw [ht0, h, List.append_assoc]
     refine Zgo path ?_
     simp only [List.cons_append, lexL]
     left; omega
theorem Zfy {d : Des} {ns : List Int} (hin : inR d ns) : match fndU (cycF d ns) 2 (ns.length - 1) with
  | some c => LstC d ns c
  | none => ∀ c, ¬ CycL d ns c := by
 have hlen : ∀ c', CycL d ns c' → 1 < c'.length ∧ c'.length ≤ ns.length := fun c' h => by
  obtain ⟨h1, hnd, _⟩ := Vg h.cyc
  exact ⟨h1, Z90 (List.pairwise_iff_getElem.2 fun i j hi hj hij => hnd i j hi hj hij) h.has⟩
 have hle : ∀ c', CycL d ns c' → ∃ c, cycF d ns (c'.length : Nat) = some c ∧ sle c c' := fun c' h => by
  unfold cycF
  rw [Int.toNat_natCast]
  exact lgr_le hin h c'.length [] c' rfl (by simp)
 cases hf : fndU (cycF d ns) 2 (ns.length - 1) with
 | none =>
  intro c hc
  obtain ⟨h1, h2⟩ := hlen c hc
  obtain ⟨c1, h3, _⟩ := hle c hc
  have := Zd2.1 hf c.length (by omega) (by omega)
  rw [this] at h3
  simp at h3
 | some c =>
  obtain ⟨s, h1, h2, h3, h4⟩ := Z3d hf
  have h5 : lgr d ns s [] = some c := by unfold cycF at h3; rwa [Int.toNat_natCast] at h3
  have h6 := Zgn d ns _ _ _ h5
  refine ⟨lgr_cyc _ _ _ h5 (by simp) (by simp), fun c' hc' => ?_⟩
  obtain ⟨h7, h8⟩ := hlen c' hc'
  obtain ⟨c1, h9, h10⟩ := hle c' hc'
  rcases Nat.lt_trichotomy c'.length s with h | h | h
  ·have := h4 c'.length (by omega) h
   rw [this] at h9
   simp at h9
  ·rw [h, h3] at h9
   simp only [Option.some.injEq] at h9
   exact h9 ▸ h10
  ·exact .inl (.inl (by rw [h6]; simpa using h))
theorem CycL.perm {d : Des} {l m c : List Int} (h : l.Perm m) (hc : CycL d l c) : CycL d m c := { hc with has := fun x hx => h.mem_iff.1 (hc.has x hx) }
theorem cyF_cycR {d : Des} {ns : List Int} (hin : inR d ns) (hnd : ns.Nodup) : cyF d (sortI ns) none (sortI ns) = fndU (cycF d ns) 2 (ns.length - 1) := by
 have h := Zfy hin
 have hp := Yn ns
 cases hc : cyF d (sortI ns) none (sortI ns) with
 | none =>
  cases hf : fndU (cycF d ns) 2 (ns.length - 1) with
  | none => rfl
  | some c =>
   rw [hf] at h
   have hc1 := h.is.perm hp.symm
   obtain ⟨i, hi, hne, _⟩ := cyc_arC hc1.cyc hc1.has
   exact absurd hc (cyF_some _ _ (.inr ⟨i, hc1.has i hi, hne⟩))
 | some c =>
  have h1 := cyF_least (sortI_lt hnd) hc
  cases hf : fndU (cycF d ns) 2 (ns.length - 1) with
  | none => rw [hf] at h; exact absurd (h1.is.perm hp) (h c)
  | some c2 =>
   rw [hf] at h
   have h2 : LstC d ns c := ⟨h1.is.perm hp, fun c' hc' => h1.le c' (hc'.perm hp.symm)⟩
   rw [h2.uniq h]
theorem ldB_iff {d : Des} {l acc : List Int} {r : Int} : ldB d l acc r = true ↔ ∀ x ∈ l, x ≠ r → x ∉ acc → mpI d r x = true := by
 simp only [ldB, Bool.not_eq_true', List.any_eq_false, ldT, Bool.and_eq_true, decide_eq_true_eq, Bool.not_eq_true', not_and, Bool.not_eq_false]
 constructor
 ·intro h x hx hn ha
  exact h x hx ⟨hn, by rw [← Bool.not_eq_true, Wv]; exact ha⟩
 ·intro h x hx ha
  exact h x hx ha.1 (by rw [← Wv, ha.2]; simp)
theorem pkR_spec {d : Des} {l acc : List Int} : ∀ (s : List Int) (b : Int), (∀ z ∈ s, 0 ≤ z) →
  (pkR d l acc b s = b ∨ (pkR d l acc b s ∈ s ∧ memB acc (pkR d l acc b s) = false ∧ ldB d l acc (pkR d l acc b s) = true)) ∧
  (∀ z ∈ s, memB acc z = false → ldB d l acc z = true → 0 ≤ pkR d l acc b s ∧ pkR d l acc b s ≤ z) ∧ (0 ≤ b → 0 ≤ pkR d l acc b s ∧ pkR d l acc b s ≤ b)
 | [], b, _ => ⟨.inl rfl, by simp, fun h => ⟨h, Int.le_refl _⟩⟩
 | z :: r, b, hz => by
  rw [pkR]
  obtain ⟨h1, h2, h3⟩ := pkR_spec (d := d) (l := l) (acc := acc) r (if pkT d l acc b z = true then z else b) fun x hx => hz x (by simp [hx])
  have hz0 := hz z (by simp)
  split at h1
  ·rename_i ht
   rw [if_pos ht] at h2 h3 ⊢
   have h3 := h3 hz0
   simp only [pkT, Bool.and_eq_true, Bool.not_eq_true', Bool.or_eq_true, decide_eq_true_eq] at ht
   refine ⟨.inr ?_, fun x hx ha hl => ?_, fun hb => ⟨h3.1, by omega⟩⟩
   ·rcases h1 with h1 | ⟨h1, h4⟩
    ·rw [h1]; exact ⟨by simp, ht.1⟩
    ·exact ⟨by simp [h1], h4⟩
   ·rcases List.mem_cons.1 hx with hx | hx
    ·rw [hx]; exact h3
    ·exact h2 x hx ha hl
  ·rename_i ht
   rw [if_neg ht] at h2 h3 ⊢
   refine ⟨?_, fun x hx ha hl => ?_, h3⟩
   ·rcases h1 with h1 | ⟨h1, h4⟩
    ·exact .inl h1
    ·exact .inr ⟨by simp [h1], h4⟩
   ·rcases List.mem_cons.1 hx with hx | hx
    ·subst hx
     simp only [pkT, ha, hl, Bool.not_false, Bool.true_and, Bool.or_eq_true, decide_eq_true_eq, not_or] at ht
     have := h3 (by omega)
     omega
    ·exact h2 x hx ha hl
theorem Zcn {d : Des} {rules : List Int} (hin : inR d rules) : ∀ (n : Nat) (l acc : List Int), l.length = n → l.Pairwise (· < ·) → (∀ x, x ∈ l ↔ x ∈ rules ∧ x ∉ acc) → ordG d n l acc = ordF d rules n acc
 | 0, l, acc, hl, _, _ => rfl
 | n + 1, l, acc, hl, hs, hm => by
  have hcand : ∀ z ∈ rules, (memB acc z = false ∧ ldB d rules acc z = true) ↔ (z ∈ l ∧ fstB d z l = true) := fun z hz => by
   rw [ldB_iff, Z1p, ← Bool.not_eq_true, Wv, hm z]
   constructor
   ·rintro ⟨h1, h2⟩
    exact ⟨⟨hz, h1⟩, fun o ho hne => h2 o ((hm o).1 ho).1 hne ((hm o).1 ho).2⟩
   ·rintro ⟨⟨_, h1⟩, h2⟩
    exact ⟨h1, fun x hx hne ha => h2 x ((hm x).2 ⟨hx, ha⟩) hne⟩
  obtain ⟨p1, p2, _⟩ := pkR_spec (d := d) (l := rules) (acc := acc) rules (-1) fun z hz => (hin z hz).1
  have hb := Z41 (fun r => fstB d r l) 0 l
  have hst := Z9d (fun r => fstB d r l) 0 l
  have hno := Zgt (p := fun r => fstB d r l) 0 l
  rw [ordG, ordF]
  generalize idxOf (fun r => fstB d r l) 0 l = i at *
  generalize pkR d rules acc (-1) rules = y at *
  by_cases hi : i = -1
  ·rw [if_pos hi]
   have hno := hno hi
   rcases p1 with p1 | ⟨p1, p3, p4⟩
   ·rw [if_pos (by omega)]
   ·have := (hcand y p1).1 ⟨p3, p4⟩
    rw [hno y this.1] at this
    simp at this
  ·rw [if_neg hi]
   obtain ⟨j, rfl⟩ : ∃ j : Nat, i = j := ⟨i.toNat, by omega⟩
   obtain ⟨hj, hf, hlow⟩ := hst j (by simp)
   have hg : l.getD j 0 = l[j] := by simp [hj]
   have hjl : l[j] ∈ l := List.getElem_mem hj
   have hjr : l[j] ∈ rules := ((hm _).1 hjl).1
   obtain ⟨c1, c2⟩ := (hcand _ hjr).2 ⟨hjl, by simpa using hf⟩
   obtain ⟨h0, h1⟩ := p2 _ hjr c1 c2
   have hy : y = l[j] := by
    rcases p1 with p1 | ⟨p1, p3, p4⟩
    ·omega
    ·obtain ⟨q1, q2⟩ := (hcand y p1).1 ⟨p3, p4⟩
     obtain ⟨k, hk, he⟩ := List.mem_iff_getElem.1 q1
     rcases Nat.lt_trichotomy k j with h | h | h
     ·have := hlow k h
      rw [he, q2] at this
      simp at this
     ·subst h; exact he.symm
     ·have := List.pairwise_iff_getElem.1 hs j k hj hk h
      omega
   subst hy
   rw [if_neg (by omega)]
   simp only [Int.toNat_natCast, hg]
   refine Zcn hin n _ _ (by rw [Z6s (by omega) (by omega)]; omega) (delI_pw hs j) fun x => ?_
   have hp := delI_perm l j hj
   have hnd : (l[j] :: delI l j (j + 1)).Nodup := hp.nodup_iff.2 (hs.imp fun h => by omega)
   rw [List.nodup_cons] at hnd
   have hx := hp.mem_iff (a := x)
   rw [List.mem_cons] at hx
   rw [List.mem_append, List.mem_singleton]
   constructor
   ·intro h
    have h2 := (hm x).1 (hx.1 (.inr h))
    refine ⟨h2.1, ?_⟩
    rintro (h3 | h3)
    ·exact h2.2 h3
    ·exact hnd.1 (h3 ▸ h)
   ·rintro ⟨h2, h3⟩
    rcases hx.2 ((hm x).2 ⟨h2, fun h => h3 (.inl h)⟩) with h | h
    ·exact absurd (.inr h) h3
    ·exact h
theorem ordG_eq {d : Des} {rules : List Int} (hin : inR d rules) (hnd : rules.Nodup) : ordG d rules.length (sortI rules) [] = ordF d rules rules.length [] :=
 Zcn hin _ _ _ (Zcj rules) (sortI_lt hnd) fun x => by rw [(Yn rules).mem_iff]; simp
theorem ckE_ckR {d : Des} {o : List Int} (hnd : o.Nodup) : ∀ (suf pre : List Int), o = pre ++ suf → eachE (ckE d o) pre.length suf = ckR d pre.length suf
 | [], pre, _ => rfl
 | y :: r, pre, h => by
  have ih := ckE_ckR (d := d) hnd r (pre ++ [y]) (by simp [h])
  have hd : o.drop pre.length = y :: r := by rw [h]; simp
  have hy : y ∉ r := by
   rw [h] at hnd
   have := (List.nodup_append.1 hnd).2.1
   exact (List.nodup_cons.1 this).1
  have hf : fstB d y (y :: r) = !(r.any fun o => !mpI d y o) := by
   rw [Bool.eq_iff_iff, Z1p]
   simp only [Bool.not_eq_true', List.any_eq_false, Bool.not_eq_true', Bool.not_eq_false]
   constructor
   ·intro h1 x hx
    exact h1 x (by simp [hx]) fun e => hy (e ▸ hx)
   ·intro h1 x hx hne
    rcases List.mem_cons.1 hx with hx | hx
    ·exact absurd hx hne
    ·exact h1 x hx
  rw [eachE, ckR, ckE, hd, hf]
  simp only [List.length_append, List.length_singleton] at ih
  cases (r.any fun o => !mpI d y o) with
  | true => simp [unlE]
  | false => simpa [unlE] using ih
theorem ck_eq {d : Des} {o : List Int} (hnd : o.Nodup) : eachE (ckE d o) 0 o = ckR d 0 o := ckE_ckR hnd o [] rfl
def bsL (s : Nat) : Nat → List Int
 | 0 => []
 | k + 1 => if s.testBit k = true then bsL s k ++ [(k : Int)] else bsL s k
theorem F0 {s : Nat} {x : Int} : ∀ {n : Nat}, x ∈ bsL s n ↔ ∃ k : Nat, k < n ∧ s.testBit k = true ∧ x = (k : Int)
 | 0 => by simp [bsL]
 | n + 1 => by
  have ih := F0 (s := s) (x := x) (n := n)
  rw [bsL]
  split
  ·rename_i h
   rw [List.mem_append, ih, List.mem_singleton]
   constructor
   ·rintro (⟨k, h1, h2, h3⟩ | h1)
    ·exact ⟨k, by omega, h2, h3⟩
    ·exact ⟨n, by omega, h, h1⟩
   ·rintro ⟨k, h1, h2, h3⟩
    by_cases hk : k = n
    ·exact .inr (hk ▸ h3)
    ·exact .inl ⟨k, by omega, h2, h3⟩
  ·rename_i h
   rw [ih]
   constructor
   ·rintro ⟨k, h1, h2, h3⟩; exact ⟨k, by omega, h2, h3⟩
   ·rintro ⟨k, h1, h2, h3⟩
    by_cases hk : k = n
    ·exact absurd (hk ▸ h2) h
    ·exact ⟨k, by omega, h2, h3⟩
theorem bsL_lt (s : Nat) : ∀ n : Nat, (bsL s n).Pairwise (· < ·)
 | 0 => by simp [bsL]
 | n + 1 => by
  rw [bsL]
  split
  ·rw [List.pairwise_append]
   refine ⟨bsL_lt s n, by simp, fun a ha b hb => ?_⟩
   obtain ⟨k, h1, _, h2⟩ := F0.1 ha
   rw [List.mem_singleton.1 hb]
   omega
  ·exact bsL_lt s n
theorem Zb7 (s : Nat) : ∀ n : Nat, (bsL s n).length ≤ n
 | 0 => by simp [bsL]
 | n + 1 => by
  have := Zb7 s n
  rw [bsL]
  split
  ·simp; omega
  ·omega
theorem bsL_nil {s n : Nat} (h : s < 2 ^ n) : bsL s n = [] ↔ s = 0 := by
 constructor
 ·intro he
  refine Nat.eq_of_testBit_eq fun i => ?_
  rw [Nat.zero_testBit]
  cases hb : s.testBit i with
  | false => rfl
  | true =>
   by_cases hi : i < n
   ·have : (i : Int) ∈ bsL s n := F0.2 ⟨i, hi, hb, rfl⟩
    rw [he] at this; simp at this
   ·have := Nat.testBit_lt_two_pow (x := s) (i := i) (Nat.lt_of_lt_of_le h (Nat.pow_le_pow_right (by omega) (by omega)))
    rw [this] at hb; simp at hb
 ·rintro rfl
  rw [List.eq_nil_iff_forall_not_mem]
  intro x hx
  obtain ⟨k, _, h2, _⟩ := F0.1 hx
  simp at h2
def difN (a b : Nat) : Nat := (BitVec.ofNat 64 a &&& ~~~ BitVec.ofNat 64 b).toNat
theorem Zca (a b j : Nat) : (difN a b).testBit j = (decide (j < 64) && (a.testBit j && !b.testBit j)) := by
 unfold difN
 rw [BitVec.testBit_toNat, BitVec.getLsbD_and, BitVec.getLsbD_not, BitVec.getLsbD_ofNat, BitVec.getLsbD_ofNat]
 cases decide (j < 64) <;> simp
theorem difN_le {a b : Nat} (h : a < 2 ^ 64) : difN a b ≤ a := by
 unfold difN
 rw [BitVec.toNat_and, BitVec.toNat_ofNat, Nat.mod_eq_of_lt h]
 exact Nat.and_le_left
theorem difN_lt {a r : Nat} (h : a < 2 ^ 64) (hr : a.testBit r = true) (hr6 : r < 64) : difN a (2 ^ r) < a := by
 refine Nat.lt_of_le_of_ne (difN_le h) fun he => ?_
 have := Zca a (2 ^ r) r
 rw [he, hr, Nat.testBit_two_pow_self] at this
 simp at this
theorem difN_zero {a b : Nat} (h : a < 2 ^ 64) : difN a b = 0 ↔ ∀ j, a.testBit j = true → b.testBit j = true := by
 constructor
 ·intro he j hj
  have := Zca a b j
  rw [he, hj, Nat.zero_testBit] at this
  have h64 : j < 64 := by
   refine Nat.lt_of_not_le fun hle => ?_
   have := Nat.testBit_lt_two_pow (x := a) (i := j) (Nat.lt_of_lt_of_le h (Nat.pow_le_pow_right (by omega) hle))
   rw [this] at hj; simp at hj
  simpa [h64] using this.symm
 ·intro hj
  refine Nat.eq_of_testBit_eq fun i => ?_
  rw [Zca, Nat.zero_testBit]
  cases ha : a.testBit i with
  | false => simp
  | true => simp [hj i ha]
def mkB (f : Nat → Bool) : Nat → Nat
 | 0 => 0
 | k + 1 => if f k = true then mkB f k ||| 2 ^ k else mkB f k
theorem mkB_bit (f : Nat → Bool) (j : Nat) : ∀ k : Nat, (mkB f k).testBit j = (decide (j < k) && f j)
 | 0 => by simp [mkB]
 | k + 1 => by
  have ih := mkB_bit f j k
  rw [mkB]
  by_cases hjk : j = k
  ·subst hjk
   cases hf : f j with
   | true => simp [ih]
   | false => simp [ih, hf]
  ·have h1 : decide (j < k + 1) = decide (j < k) := by
    by_cases h : j < k
    ·simp [h]; omega
    ·simp [h]; omega
   rw [h1]
   split
   ·rw [Nat.testBit_or, ih, Nat.testBit_two_pow_of_ne (fun e => hjk e.symm)]; simp
   ·exact ih
theorem mkB_lt (f : Nat → Bool) : ∀ k : Nat, mkB f k < 2 ^ k
 | 0 => by simp [mkB]
 | k + 1 => by
  have ih := mkB_lt f k
  have h2 : 2 ^ k < 2 ^ (k + 1) := by rw [Nat.pow_succ]; have := Nat.two_pow_pos k; omega
  rw [mkB]
  split
  ·exact Nat.or_lt_two_pow (by omega) h2
  ·omega
def mayB (d : Des) (a b : Nat) : Bool := decide (a ≠ b) && mpI d a b
def mayN (d : Des) (a : Nat) : Nat := mkB (mayB d a) d.rules.length
def gB (d : Des) (s : Nat) : Bool := (ordG d (bsL s d.rules.length).length (bsL s d.rules.length) []).isSome
theorem ordG_acyc {d : Des} {l acc : List Int} : (ordG d l.length l acc).isSome = true ↔ ∀ c, isCyc d c = true → ¬ ∀ x ∈ c, x ∈ l := by
 constructor
 ·intro h c hc hs
  rw [ordG_no hc hs] at h
  simp at h
 ·intro h
  cases ho : ordG d l.length l acc with
  | some o => rfl
  | none =>
   obtain ⟨c, hc, hs⟩ := ordG_cyc _ _ _ rfl ho
   exact absurd hs (h c hc)
theorem acyc_step {d : Des} {l : List Int} : (∀ c, isCyc d c = true → ¬ ∀ x ∈ c, x ∈ l) ↔ (l = [] ∨ ∃ r ∈ l, fstB d r l = true ∧ ∀ c, isCyc d c = true → ¬ ∀ x ∈ c, x ∈ l ∧ x ≠ r) := by
 constructor
 ·intro h
  cases l with
  | nil => exact .inl rfl
  | cons a t =>
   right
   refine Classical.byContradiction fun hno => ?_
   have hp : ∀ r ∈ a :: t, ∃ o ∈ a :: t, o ≠ r ∧ mpI d r o = false := fun r hr => by
    refine Classical.byContradiction fun hn => hno ⟨r, hr, Z1p.2 fun o ho hne => ?_, fun c hc hs => h c hc fun x hx => (hs x hx).1⟩
    cases hm : mpI d r o with
    | true => rfl
    | false => exact absurd ⟨o, ho, hne, hm⟩ hn
   obtain ⟨c, hc, hs⟩ := cyc_ex hp (a :: t).length [a] (by omega) (by simp) (by simp) (fun x hx => by rw [List.mem_singleton.1 hx]; simp) (fun k hk => by simp at hk)
   exact h c hc hs
 ·rintro (rfl | ⟨r, hr, hf, h⟩) c hc hs
  ·have := (Vg hc).1
   exact absurd (hs _ (List.getElem_mem (show 0 < c.length by omega))) (by simp)
  ·by_cases hrc : r ∈ c
   ·obtain ⟨_, hnd, hp⟩ := Vg hc
    obtain ⟨i, hi, he⟩ := List.mem_iff_getElem.1 hrc
    obtain ⟨h2, h3, h4⟩ := hp i hi
    have hne : c[prv c.length i] ≠ r := by
     intro h5
     rw [← he] at h5
     rcases Nat.lt_or_gt_of_ne h3 with h6 | h6
     ·exact hnd _ _ h2 hi h6 h5
     ·exact hnd _ _ hi h2 h6 h5.symm
    have := Z1p.1 hf _ (hs _ (List.getElem_mem h2)) hne
    rw [← he, h4] at this
    simp at this
   ·exact h c hc fun x hx => ⟨hs x hx, fun e => hrc (e ▸ hx)⟩
def inB (d : Des) (s : Nat) : Nat → Bool
 | 0 => decide (s = 0)
 | r + 1 => if s.testBit r = true then inB d s r || (decide (difN (difN s (2 ^ r)) (mayN d r) = 0) && gB d (difN s (2 ^ r))) else inB d s r
theorem inB_iff (d : Des) (s : Nat) : ∀ n : Nat, inB d s n = true ↔ s = 0 ∨ ∃ r < n, s.testBit r = true ∧ difN (difN s (2 ^ r)) (mayN d r) = 0 ∧ gB d (difN s (2 ^ r)) = true
 | 0 => by simp [inB]
 | n + 1 => by
  have ih := inB_iff d s n
  rw [inB]
  split
  ·rename_i h
   rw [Bool.or_eq_true, ih, Bool.and_eq_true, decide_eq_true_eq]
   constructor
   ·rintro ((h1 | ⟨r, h1, h2⟩) | h1)
    ·exact .inl h1
    ·exact .inr ⟨r, by omega, h2⟩
    ·exact .inr ⟨n, by omega, h, h1⟩
   ·rintro (h1 | ⟨r, h1, h2, h3⟩)
    ·exact .inl (.inl h1)
    ·by_cases hr : r = n
     ·subst hr; exact .inr h3
     ·exact .inl (.inr ⟨r, by omega, h2, h3⟩)
  ·rename_i h
   rw [ih]
   constructor
   ·rintro (h1 | ⟨r, h1, h2⟩)
    ·exact .inl h1
    ·exact .inr ⟨r, by omega, h2⟩
   ·rintro (h1 | ⟨r, h1, h2, h3⟩)
    ·exact .inl h1
    ·by_cases hr : r = n
     ·exact absurd (hr ▸ h2) h
     ·exact .inr ⟨r, by omega, h2, h3⟩
theorem inB_gB {d : Des} {s : Nat} (hn : d.rules.length ≤ 60) (hs : s < 2 ^ d.rules.length) : inB d s d.rules.length = gB d s := by
  have h64 : s < 2 ^ 64 := Nat.lt_of_lt_of_le hs (Nat.pow_le_pow_right (by omega) (by omega))
  rw [Bool.eq_iff_iff, inB_iff]
  unfold gB
  rw [ordG_acyc, acyc_step, bsL_nil hs]
  have hbit : ∀ j, s.testBit j = true → j < d.rules.length := fun j hj => by
    refine Nat.lt_of_not_le fun hle => ?_
    have := Nat.testBit_lt_two_pow (x := s) (i := j) (Nat.lt_of_lt_of_le hs (Nat.pow_le_pow_right (by omega) hle))
    rw [this] at hj; simp at hj
  have key : ∀ r : Nat, r < d.rules.length → s.testBit r = true →
      ((difN (difN s (2 ^ r)) (mayN d r) = 0 ↔ fstB d r (bsL s d.rules.length) = true) ∧
       ((ordG d (bsL (difN s (2 ^ r)) d.rules.length).length (bsL (difN s (2 ^ r)) d.rules.length) []).isSome = true ↔ ∀ c, isCyc d c = true → ¬ ∀ x ∈ c, x ∈ bsL s d.rules.length ∧ x ≠ (r : Int))) := fun r hr hb => by
    have hd : difN s (2 ^ r) < 2 ^ 64 := Nat.lt_of_le_of_lt (difN_le h64) h64
    have hbd : ∀ j, (difN s (2 ^ r)).testBit j = true ↔ s.testBit j = true ∧ j ≠ r := fun j => by
      rw [Zca]
      by_cases hj : j = r
      · subst hj; simp
      · rw [Nat.testBit_two_pow_of_ne (fun e => hj e.symm)]
        constructor
        · intro h; simp at h; exact ⟨h.2, hj⟩
        · rintro ⟨h, _⟩
          have := hbit j h
          simp [h]; omega
    constructor
    · rw [difN_zero hd, Z1p]
      constructor
      · intro h o ho hne
        obtain ⟨k, h1, h2, rfl⟩ := F0.1 ho
        have h3 := h k ((hbd k).2 ⟨h2, fun e => hne (by rw [e])⟩)
        unfold mayN at h3
        rw [mkB_bit] at h3
        simp only [mayB, Bool.and_eq_true, decide_eq_true_eq] at h3
        exact h3.2.2
      · intro h j hj
        obtain ⟨h1, h2⟩ := (hbd j).1 hj
        have h3 := h (j : Int) (F0.2 ⟨j, hbit j h1, h1, rfl⟩) (by omega)
        unfold mayN
        rw [mkB_bit]
        simp only [mayB, Bool.and_eq_true, decide_eq_true_eq]
        exact ⟨hbit j h1, fun e => h2 e.symm, h3⟩
    · rw [ordG_acyc]
      have hm : ∀ x : Int, x ∈ bsL (difN s (2 ^ r)) d.rules.length ↔ x ∈ bsL s d.rules.length ∧ x ≠ (r : Int) := fun x => by
        rw [F0, F0]
        constructor
        · rintro ⟨k, h1, h2, rfl⟩
          obtain ⟨h3, h4⟩ := (hbd k).1 h2
          exact ⟨⟨k, h1, h3, rfl⟩, by omega⟩
        · rintro ⟨⟨k, h1, h2, rfl⟩, h3⟩
          exact ⟨k, h1, (hbd k).2 ⟨h2, by omega⟩, rfl⟩
      simp only [hm]
  constructor
  · rintro (h | ⟨r, h1, h2, h3, h4⟩)
    · exact .inl h
    · obtain ⟨k1, k2⟩ := key r h1 h2
      exact .inr ⟨(r : Int), F0.2 ⟨r, h1, h2, rfl⟩, k1.1 h3, k2.1 h4⟩
  · rintro (h | ⟨r, h1, h2, h3⟩)
    · exact .inl h
    · obtain ⟨k, h4, h5, rfl⟩ := F0.1 h1
      obtain ⟨k1, k2⟩ := key k h4 h5
      exact .inr ⟨k, h4, h5, k1.2 h2, k2.2 h3⟩
def befB : List Int → List Int → Bool
 | [], [] => false
 | [], _ :: _ => true
 | _ :: _, [] => false
 | a :: r, b :: s => if a = b then befB r s else decide (a < b)
def takB (d : Des) (s : Nat) (best : List Int) : Bool :=
 gB d s && (decide (best.length < (bsL s d.rules.length).length) || (decide ((bsL s d.rules.length).length = best.length) && befB (bsL s d.rules.length) best))
def bstF (d : Des) : Nat → Nat → List Int → List Int
 | 0, _, best => best
 | m + 1, s, best => bstF d m (s + 1) (if takB d s best = true then bsL s d.rules.length else best)
theorem gB_ordF {d : Des} {s : Nat} : (ordF d (bsL s d.rules.length) (bsL s d.rules.length).length []).isSome = gB d s := by
 unfold gB
 rw [Zcn (rules := bsL s d.rules.length) (fun x hx => by obtain ⟨k, h1, _, rfl⟩ := F0.1 hx; omega) _ _ _ rfl (bsL_lt s _) (fun x => by simp)]
theorem Zhv (d : Des) : ∀ (m s : Nat) (best : List Int), best.length ≤ d.rules.length → (bstF d m s best).length ≤ d.rules.length
 | 0, _, _, h => h
 | m + 1, s, best, h => by
  rw [bstF]
  refine Zhv d m _ _ ?_
  split
  ·exact Zb7 s _
  ·exact h
def befR : List Int → List Int → Option Bool
 | x :: r, y :: u => if x = y then befR r u else some (decide (x < y))
 | _, _ => none
theorem befB_eq : ∀ a b : List Int, befB a b = (match befR a b with | some v => v | none => decide (a.length < b.length))
 | [], [] => rfl
 | [], _ :: _ => by simp [befB, befR]
 | _ :: _, [] => by simp [befB, befR]
 | x :: r, y :: u => by
  rw [befB, befR]
  split
  ·rw [befB_eq r u]
   cases befR r u with
   | none => simp
   | some v => rfl
  ·rfl
theorem bef_loop (a b : List Int) (ha : a.length ≤ 1000) :
  ∀ (s t p q : List Int) (x : Env × Sto), a = p ++ s → b = q ++ t → p.length = q.length → mask [0, 1, 5] [] x = some ([(0, .p (Z2 a)), (1, .p (Z2 b)), (5, .p (I p.length))], []) →
  kpO [0, 1] [4] [] (bkO 0 (iter (round EE iter π [] [0, 1, 5] Z2b) x)) = (match befR s t with
   | some v => some (.rt, [(4, .p (.bool v))], [])
   | none => some (.nm, [(0, .p (Z2 a)), (1, .p (Z2 b))], []))
 | [], t, p, q, x, h1, h2, h3, hm => by
  rw [Z0 hm]
  have : p = a := by simpa using h1.symm
  subst this
  simp [Hc, Uw, befR]
 | y :: r, [], p, q, x, h1, h2, h3, hm => by
  rw [Z0 hm]
  have h4 := Z7 h1
  have h4n : p.length < a.length := by omega
  have : q = b := by simpa using h2.symm
  subst this
  have h5 : ¬ p.length < q.length := by omega
  simp [Hc, Uw, h4, h4n, h5, befR]
 | y :: r, z :: u, p, q, x, h1, h2, h3, hm => by
  rw [Z0 hm]
  have h4 := Z7 h1
  have h4n : p.length < a.length := by omega
  have h5 := Z7 h2
  have h5n : p.length < b.length := by omega
  have h5i : (p.length : Int) < b.length := by omega
  have g1 : a[p.length]? = some y := by rw [h1]; simp
  have g2 : b[p.length]? = some z := by rw [h2, h3]; simp
  have k1 : a[p.length] = y := by simpa [h4n] using g1
  have k2 : b[p.length] = z := by simpa [h5n] using g2
  have hws := Zb h4n (show a.length ≤ top63 by simp only [top63]; omega)
  have ih := fun x => bef_loop a b ha r u (p ++ [y]) (q ++ [z]) x (by simp [h1]) (by simp [h2]) (by simp [h3])
  by_cases hyz : y = z
  ·simp [Hc, Uw, h4, h4n, h5n, h5i, g1, g2, k1, k2, hyz, befR]
   exact ih _ (by simp [hws])
  ·simp [Hc, Uw, h4, h4n, h5n, h5i, g1, g2, k1, k2, hyz, befR]
theorem e_Before (a b : List Int) (ha : a.length ≤ 1000) : EE π Z3u [.p (Z2 a), .p (Z2 b)] [] = some (.p (.bool (befB a b)), []) := by
 have hlp := fun x => bef_loop (π := π) a b ha a b [] [] x rfl rfl rfl
 rw [befB_eq]
 simp [e_rb_Before, Z1, Z84]
 rw [hlp _ (by simp)]
 cases befR a b with
 | none => simp
 | some v => simp
def cmR : List Int → List Int → Option Int
 | [], _ => none
 | _ :: _, [] => some 1
 | x :: r, y :: u => if x = y then cmR r u else some (if x < y then -1 else 1)
def cmpL (a b : List Int) : Int := match cmR a b with
 | some v => v
 | none => if a.length < b.length then -1 else 0
theorem cmR_bef : ∀ a b : List Int, a.length = b.length → (match cmR a b with | some v => decide (v < 0) | none => false) = befB a b
 | [], [], _ => rfl
 | [], _ :: _, h => by simp at h
 | _ :: _, [], h => by simp at h
 | x :: r, y :: u, h => by
  rw [cmR, befB]
  by_cases he : x = y
  ·rw [if_pos he, if_pos he]; exact cmR_bef r u (by simpa using h)
  ·rw [if_neg he, if_neg he]
   by_cases hl : x < y
   ·simp [hl]
   ·simp [hl]
theorem cmpL_bef {a b : List Int} (h : a.length = b.length) : decide (cmpL a b < 0) = befB a b := by
 rw [← cmR_bef a b h, cmpL]
 cases cmR a b with
 | none => simp [h]
 | some v => rfl
theorem e_cmpInt (x y : Int) : EE π Pl [.p (I x), .p (I y)] [] = some (.p (I (if x < y then -1 else if y < x then 1 else 0)), []) := by
 by_cases h : x < y
 ·simp [Kv, Z1, U0, Z0h, Pa, h]
 ·by_cases h2 : y < x
  ·simp [Kv, Z1, U0, Z0h, Pa, h, h2]
  ·simp [Kv, Z1, U0, Z0h, Pa, h, h2]
theorem cmp_loop (a b : List Int) (ha : a.length ≤ 1000) :
  ∀ (s t p q : List Int) (x : Env × Sto), a = p ++ s → b = q ++ t → p.length = q.length → mask [0, 1, 9, 10, 11] [] x = some ([(0, .p (Z2 a)), (1, .p (Z2 b)), (9, .p (Z2 a)), (10, .p (I a.length)), (11, .p (I p.length))], []) →
  kpO [0, 1] [4] [] (bkO 0 (iter (round EE iter π [] [0, 1, 9, 10, 11] Uc) x)) = (match cmR s t with
   | some v => some (.rt, [(4, .p (I v))], [])
   | none => some (.nm, [(0, .p (Z2 a)), (1, .p (Z2 b))], []))
 | [], t, p, q, x, h1, h2, h3, hm => by
  rw [Z0 hm]
  have : p = a := by simpa using h1.symm
  subst this
  simp [Yv, Y1, cmR]
 | y :: r, [], p, q, x, h1, h2, h3, hm => by
  rw [Z0 hm]
  have h4 := Z7 h1
  have h4n : p.length < a.length := by omega
  have g1 : a[p.length]? = some y := by rw [h1]; simp
  have k1 : a[p.length] = y := by simpa [h4n] using g1
  have : q = b := by simpa using h2.symm
  subst this
  have h5 : q.length ≤ p.length := by omega
  have h5i : (q.length : Int) ≤ p.length := by omega
  simp [Yv, Y1, h4, h4n, h5, h5i, g1, k1, cmR]
 | y :: r, z :: u, p, q, x, h1, h2, h3, hm => by
  rw [Z0 hm]
  have h4 := Z7 h1
  have h4n : p.length < a.length := by omega
  have h5 := Z7 h2
  have h5n : p.length < b.length := by omega
  have h5m : ¬ b.length ≤ p.length := by omega
  have h5i : (p.length : Int) < b.length := by omega
  have h5j : ¬ (b.length : Int) ≤ p.length := by omega
  have g1 : a[p.length]? = some y := by rw [h1]; simp
  have g2 : b[p.length]? = some z := by rw [h2, h3]; simp
  have k1 : a[p.length] = y := by simpa [h4n] using g1
  have k2 : b[p.length] = z := by simpa [h5n] using g2
  have hws := Zb h4n (show a.length ≤ top63 by simp only [top63]; omega)
  have hC := fun π => e_cmpInt (π := π) y z
  have ih := fun x => cmp_loop a b ha r u (p ++ [y]) (q ++ [z]) x (by simp [h1]) (by simp [h2]) (by simp [h3])
  by_cases hyz : y = z
  ·subst hyz
   have hi : ¬ y < y := by omega
   simp only [hi, if_false] at hC
   simp [Yv, Y1, h4, h4n, h5n, h5m, h5i, h5j, g1, g2, k1, k2, hC, cmR]
   exact ih _ (by simp [hws])
  ·by_cases hl : y < z
   ·simp only [hl, if_true] at hC
    simp [Yv, Y1, h4, h4n, h5n, h5m, h5i, h5j, g1, g2, k1, k2, hC, hyz, hl, cmR]
   ·have hg : z < y := by omega
    simp only [hl, hg, if_true, if_false] at hC
    simp [Yv, Y1, h4, h4n, h5n, h5m, h5i, h5j, g1, g2, k1, k2, hC, hyz, hl, cmR]
theorem e_Compare (a b : List Int) (ha : a.length ≤ 1000) : EE π Vi [.p (Z2 a), .p (Z2 b)] [] = some (.p (I (cmpL a b)), []) := by
 have hlp := fun x => cmp_loop (π := π) a b ha a b [] [] x rfl rfl rfl
 unfold cmpL
 simp [Z6x, Z1, Pz]
 rw [hlp _ (by simp)]
 cases cmR a b with
 | none =>
  by_cases h : a.length < b.length
  ·simp [h]
  ·simp [h]
 | some v => simp
theorem wrapU {n : Int} (h0 : 0 ≤ n) (h : n < 18446744073709551616) : IntKind.u64.wrap n = n := by
 have : n % 18446744073709551616 = n := Int.emod_eq_of_lt h0 h
 simp [IntKind.wrap, IntKind.bits, IntKind.signed, this]
theorem ib_or {a b : Nat} (ha : a < 2 ^ 64) (hb : b < 2 ^ 64) : ibits .or .u64 (a : Int) (b : Int) = some ((a ||| b : Nat) : Int) := by
 have h := Nat.or_lt_two_pow ha hb
 have hb64 : (18446744073709551616 : Nat) = 2 ^ 64 := rfl
 show some (IntKind.u64.wrap ((BitVec.ofInt 64 (a : Int) ||| BitVec.ofInt 64 (b : Int)).toNat : Int)) = _
 rw [BitVec.ofInt_natCast, BitVec.ofInt_natCast, BitVec.toNat_or, BitVec.toNat_ofNat, BitVec.toNat_ofNat, Nat.mod_eq_of_lt ha, Nat.mod_eq_of_lt hb, wrapU (by omega) (by omega)]
theorem ib_andn (a b : Nat) : ibits .andNot .u64 (a : Int) (b : Int) = some ((difN a b : Nat) : Int) := by
 have h := (BitVec.ofNat 64 a &&& ~~~ BitVec.ofNat 64 b).isLt
 have hb64 : (18446744073709551616 : Nat) = 2 ^ 64 := rfl
 show some (IntKind.u64.wrap ((BitVec.ofInt 64 (a : Int) &&& ~~~ BitVec.ofInt 64 (b : Int)).toNat : Int)) = _
 rw [BitVec.ofInt_natCast, BitVec.ofInt_natCast, wrapU (by omega) (by omega)]
 rfl
theorem ib_and1 {a : Nat} (ha : a < 2 ^ 64) : ibits .and .u64 (a : Int) 1 = some ((a % 2 : Nat) : Int) := by
 have h := Nat.mod_lt a (show 0 < 2 by omega)
 show some (IntKind.u64.wrap ((BitVec.ofInt 64 (a : Int) &&& BitVec.ofInt 64 ((1 : Nat) : Int)).toNat : Int)) = _
 rw [BitVec.ofInt_natCast, BitVec.ofInt_natCast, BitVec.toNat_and, BitVec.toNat_ofNat, BitVec.toNat_ofNat, Nat.mod_eq_of_lt ha, show 1 % 2 ^ 64 = 1 from rfl, Nat.and_one_is_mod, wrapU (by omega) (by omega)]
theorem Zf5 {r : Nat} (h : r ≤ 60) : (2 : Int) ^ min r 64 = ((2 ^ r : Nat) : Int) := by
 rw [Nat.min_eq_left (by omega)]; simp
theorem pw_lt {r : Nat} (h : r ≤ 60) : 2 ^ r < 2 ^ 62 := Nat.pow_lt_pow_right (by omega) (by omega)
abbrev U (m : Nat) : PV := .int .u64 (m : Int)
def mL (d : Des) (a : Nat) : List PV := (List.range d.rules.length).map fun i => U (if i < a then mayN d i else 0)
theorem Zcv (d : Des) (a : Nat) : (mL d a).length = d.rules.length := by simp [mL]
theorem mL_get (d : Des) (a : Nat) {i : Nat} (h : i < d.rules.length) : (mL d a)[i]? = some (U (if i < a then mayN d i else 0)) := by simp [mL, h]
theorem mL_zero (d : Des) : mL d 0 = List.replicate d.rules.length (PV.int .u64 0) := by
 refine List.ext_getElem (by simp [Zcv]) fun i h1 h2 => ?_
 simp [mL]
theorem mL_set0 (d : Des) (a : Nat) : (mL d a).set a (U 0) = mL d a := by
 refine List.ext_getElem (by simp [Zcv]) fun i h1 h2 => ?_
 rw [List.getElem_set]
 split
 ·rename_i h; subst h; simp [mL]
 ·rfl
theorem mL_set (d : Des) (a : Nat) : (mL d a).set a (U (mayN d a)) = mL d (a + 1) := by
 refine List.ext_getElem (by simp [Zcv]) fun i h1 h2 => ?_
 rw [List.getElem_set]
 split
 ·rename_i h; subst h; simp [mL]
 ·rename_i h
  simp only [mL, List.getElem_map, List.getElem_range]
  have : (i < a) ↔ (i < a + 1) := by omega
  simp only [this]
abbrev gBx (π : Id) (d : Des) : Id × Blk := (4 :: π, .box false [AV.p (PV.str d.name), AV.p (X7 d.inputs), AV.p (Xd d.elements),
 AV.p (Z8 d.nodes), AV.p (Uz d.rules), AV.p (Vh d.outputs), AV.p (Q0 d.attrs), AV.p (Z2 (dlv d)),
 AV.p (PV.sl 1 (flagE (List.map (rdP d) d.rules)) (List.map (rdP d) d.rules)), AV.p (PV.sl 1 (flagE (List.map wrP d.rules)) (List.map wrP d.rules))])
abbrev rowU (id : Id) (L : List PV) : Id × Blk := (id, .row false t_uint 1 (some false) L)
theorem grp_loop1 (d : Des) (hd : DesOk d) (hv : DesVal d) (hn : d.rules.length ≤ 60) (a : Nat) (ha : a < d.rules.length) (L : List PV) (hL : L.length = d.rules.length) :
  ∀ (m K : Nat) (R : List PV) (x : Env × Sto), K + m = d.rules.length → R = L.set a (U (mkB (mayB d a) K)) →
  mask [4, 6, 7, 28, 29, 33, 34] [] x = some ([(4, .ref (4 :: π) 0), (6, .ap (26 :: π)), (7, .p (I a)), (28, .p (I d.rules.length)), (29, .p (I a)), (33, .p (I d.rules.length)), (34, .p (I K))], [rowU (26 :: π) R, gBx π d]) →
  kpO [4, 6, 28, 29] [2, 3] [] (bkO 2 (iter (round EE iter π [] [4, 6, 7, 28, 29, 33, 34] Z13) x)) = some (.nm, [(4, .ref (4 :: π) 0), (6, .ap (26 :: π)), (28, .p (I d.rules.length)), (29, .p (I a))], [rowU (26 :: π) (L.set a (U (mayN d a))), gBx π d])
 | 0, K, R, x, h, hR, hm => by
  rw [Z0 hm]
  have : K = d.rules.length := by omega
  subst this
  subst hR
  simp [Mq, U5, mayN]
 | m + 1, K, R, x, h, hR, hm => by
  rw [Z0 hm]
  subst hR
  have hlt : (K : Int) < d.rules.length := by omega
  have hws := Zb (show K < d.rules.length by omega) (show d.rules.length ≤ top63 by simp only [top63]; omega)
  have ih := fun R x => grp_loop1 d hd hv hn a ha L hL m (K + 1) R x (by omega)
  have hM := fun π => e_mayI (π := π) d hd hv a K (by omega) (by omega) (by omega) (by omega)
  have hal : a < L.length := by omega
  have hK0 : ¬ (K : Int) < 0 := by omega
  have hst : mkB (mayB d a) (K + 1) = if mayB d a K = true then mkB (mayB d a) K ||| 2 ^ K else mkB (mayB d a) K := rfl
  have hmb : mayB d a K = (decide (a ≠ K) && mpI d a K) := rfl
  have hp := Zf5 (r := K) (by omega)
  have hpl := pw_lt (r := K) (by omega)
  have hml : mkB (mayB d a) K < 2 ^ 64 := Nat.lt_of_lt_of_le (mkB_lt _ K) (Nat.pow_le_pow_right (by omega) (by omega))
  rw [hst] at ih
  generalize mkB (mayB d a) K = v at *
  have hor := ib_or hml (show 2 ^ K < 2 ^ 64 by omega)
  generalize 2 ^ K = pw at *
  have hsh : IntKind.u64.wrap (2 ^ min K 64) = (pw : Int) := by rw [hp]; exact wrapU (by omega) (by omega)
  by_cases hak : a = K
  ·have hf : mayB d a K = false := by rw [hmb]; simp [hak]
   rw [hf] at ih
   subst hak
   simp [Mq, U5, hlt]
   exact ih _ _ rfl (by simp [hws])
  ·have haki : ¬ (a : Int) = K := by omega
   have hf : mayB d a K = mpI d a K := by rw [hmb]; simp [hak]
   rw [hf] at ih
   generalize mpI d (a : Int) (K : Int) = t at *
   cases t
   ·simp [Mq, U5, hlt, haki, hak, hM, Z9k, Z9j, Z4]
    exact ih _ _ rfl (by simp [hws])
   ·simp [Mq, U5, hlt, haki, hak, hM, Z9k, Z9j, Z4, hal, hK0, hsh, hor, IntKind.bits]
    exact ih _ _ rfl (by simp [hws, PV.setc])
theorem grp_loop0 (d : Des) (hd : DesOk d) (hv : DesVal d) (hn : d.rules.length ≤ 60) :
  ∀ (m a : Nat) (x : Env × Sto), a + m = d.rules.length →
  mask [4, 6, 28, 29] [] x = some ([(4, .ref (4 :: π) 0), (6, .ap (26 :: π)), (28, .p (I d.rules.length)), (29, .p (I a))], [rowU (26 :: π) (mL d a), gBx π d]) →
  kpO [6] [2, 3] [] (bkO 0 (iter (round EE iter π [] [4, 6, 28, 29] Z14) x)) = some (.nm, [(6, .ap (26 :: π))], [rowU (26 :: π) (mL d d.rules.length)])
 | 0, a, x, h, hm => by
  rw [Z0 hm]
  have : a = d.rules.length := by omega
  subst this
  simp [Z5a, Kb]
 | m + 1, a, x, h, hm => by
  rw [Z0 hm]
  have hlt : (a : Int) < d.rules.length := by omega
  have hws := Zb (show a < d.rules.length by omega) (show d.rules.length ≤ top63 by simp only [top63]; omega)
  have ih := fun x => grp_loop0 d hd hv hn m (a + 1) x (by omega)
  have hln := Zcv d a
  have hlp := fun x => grp_loop1 (π := π) d hd hv hn a (by omega) (mL d a) hln d.rules.length 0 (mL d a) x (by omega) (mL_set0 d a).symm
  rw [mL_set] at hlp
  simp [Z5a, Kb, hlt, hln]
  rw [hlp _ (by simp)]
  simp
  exact ih _ (by simp [hws])
abbrev rowBo (id : Id) (L : List PV) : Id × Blk := (id, .row false Zev 1 (some false) L)
abbrev bestP (l : List Int) : PV := .sl 1 (flagE (ints l)) (ints l)
abbrev stG (π : Id) (d : Des) (B : List PV) : Sto := [rowBo (59 :: π) B, rowU (26 :: π) (mL d d.rules.length)]
theorem grp_loop3 (d : Des) (hn : d.rules.length ≤ 16) (N s : Nat) (hN : N = 2 ^ d.rules.length) (hs : s < N) (best : List Int) (B : List PV) (hB : B.length = N) (hG : ∀ t < s, B[t]? = some (.bool (gB d t))) :
  ∀ (m r : Nat) (R own : List PV) (nl : Option Bool) (x : Env × Sto), r + m = d.rules.length → R = B.set s (.bool (inB d s r)) → own = ints (bsL s r) → nl = flagE own →
  mask [6, 9, 10, 11, 12, 62, 63, 72, 73] [] x = some ([(6, .ap (26 :: π)), (9, .ap (59 :: π)), (10, .p (bestP best)), (11, .p (U s)), (12, .ap (1012 :: π)), (62, .p (U N)), (63, .p (U s)), (72, .p (I d.rules.length)), (73, .p (I r))],
   [(1012 :: π, .row false t_int 1 nl own), rowBo (59 :: π) R, rowU (26 :: π) (mL d d.rules.length)]) →
  kpO [6, 9, 10, 11, 12, 62, 63] [2, 3] [] (bkO 6 (iter (round EE iter π [] [6, 9, 10, 11, 12, 62, 63, 72, 73] Z11) x)) =
   some (.nm, [(6, .ap (26 :: π)), (9, .ap (59 :: π)), (10, .p (bestP best)), (11, .p (U s)), (12, .ap (1012 :: π)), (62, .p (U N)), (63, .p (U s))],
    [(1012 :: π, .row false t_int 1 (flagE (ints (bsL s d.rules.length))) (ints (bsL s d.rules.length))), rowBo (59 :: π) (B.set s (.bool (inB d s d.rules.length))), rowU (26 :: π) (mL d d.rules.length)])
 | 0, r, R, own, nl, x, h, hR, ho, hnl, hm => by
  rw [Z0 hm]
  have : r = d.rules.length := by omega
  subst this hnl ho hR
  simp [Qo, Wq]
 | m + 1, r, R, own, nl, x, h, hR, ho, hnl, hm => by
  rw [Z0 hm]
  subst hnl hR ho
  have hlt : (r : Int) < d.rules.length := by omega
  have hws := Zb (show r < d.rules.length by omega) (show d.rules.length ≤ top63 by simp only [top63]; omega)
  have ih := fun R own nl x => grp_loop3 d hn N s hN hs best B hB hG m (r + 1) R own nl x (by omega)
  have hNl : N ≤ 2 ^ 16 := by rw [hN]; exact Nat.pow_le_pow_right (by omega) hn
  have h64 : s < 2 ^ 64 := Nat.lt_of_lt_of_le hs (by omega)
  have hr0 : ¬ (r : Int) < 0 := by omega
  have hp := Zf5 (r := r) (by omega)
  have hpl := pw_lt (r := r) (by omega)
  have hlen := Zb7 s r
  have hro : (bsL s r).length + 1 ≤ room := by simp only [room]; omega
  have hro0 : (bsL s r).length ≤ room := by simp only [room]; omega
  have hI : inB d s (r + 1) = if s.testBit r = true then inB d s r || (decide (difN (difN s (2 ^ r)) (mayN d r) = 0) && gB d (difN s (2 ^ r))) else inB d s r := rfl
  have hO : bsL s (r + 1) = if s.testBit r = true then bsL s r ++ [(r : Int)] else bsL s r := rfl
  have hfd : Int.fdiv (s : Int) (2 ^ min r 64) = ((s / 2 ^ r : Nat) : Int) := by rw [hp, Int.fdiv_eq_ediv_of_nonneg _ (Int.natCast_nonneg _)]; rfl
  have hq64 : s / 2 ^ r < 2 ^ 64 := Nat.lt_of_le_of_lt (Nat.div_le_self _ _) h64
  have hq := ib_and1 hq64
  have htb : s.testBit r = decide (s / 2 ^ r % 2 = 1) := Nat.testBit_eq_decide_div_mod_eq
  rw [hI, hO] at ih
  have hmg := mL_get d d.rules.length (i := r) (by omega)
  rw [if_pos (by omega)] at hmg
  have hml := Zcv d d.rules.length
  have hrl : r < d.rules.length := by omega
  have hsB : s < B.length := by omega
  by_cases hb : s.testBit r = true
  ·have hd1 := ib_andn s (2 ^ r)
   have hd2 := ib_andn (difN s (2 ^ r)) (mayN d r)
   have hlt2 := difN_lt h64 hb (by omega)
   have hGt := hG (difN s (2 ^ r)) hlt2
   rw [hb] at htb
   have hq1 : s / 2 ^ r % 2 = 1 := by simpa using htb.symm
   rw [hq1] at hq
   simp only [hb, if_true] at ih
   generalize hpw : 2 ^ r = pw at *
   have hsh : IntKind.u64.wrap (2 ^ min r 64) = (pw : Int) := by rw [hp]; exact wrapU (by omega) (by omega)
   generalize hz : difN s pw = t at *
   generalize hgb : gB d t = g at *
   generalize mayN d r = y at *
   generalize difN t y = z at *
   generalize s / pw = q at *
   have htN : t < B.length := by omega
   have hst : ¬ s = t := by omega
   have hge : B[t] = .bool g := by rw [List.getElem?_eq_getElem htN] at hGt; simpa using hGt
   have hmge : (mL d d.rules.length)[r]'(by omega) = U y := by rw [List.getElem?_eq_getElem (by omega)] at hmg; simpa using hmg
   cases hib : inB d s r with
   | true =>
    simp only [hib, Bool.true_or] at ih
    simp [Qo, Wq, hlt, hr0, hfd, hq, hsh, hd1, hro, hro0, hsB, Zc, IntKind.bits]
    exact ih _ (ints (bsL s r) ++ [I (r : Int)]) (some false) _ rfl (by simp) (by rw [Zc]) (by simp [hws, PV.setc])
   | false =>
    simp only [hib, Bool.false_or] at ih
    by_cases hzz : z = 0
    ·have hzi : (z : Int) = 0 := by omega
     simp only [hzz, decide_true, Bool.true_and] at ih
     simp [Qo, Wq, hlt, hr0, hfd, hq, hsh, hd1, hd2, hro, hro0, hsB, Zc, IntKind.bits, hml, hrl, hmg, hmge, hzi, hzz, hst, htN, hge, hGt]
     exact ih _ (ints (bsL s r) ++ [I (r : Int)]) (some false) _ rfl (by simp) (by rw [Zc]) (by simp [hws, PV.setc])
    ·have hzi : ¬ (z : Int) = 0 := by omega
     simp only [hzz, decide_false, Bool.false_and] at ih
     simp [Qo, Wq, hlt, hr0, hfd, hq, hsh, hd1, hd2, hro, hro0, hsB, Zc, IntKind.bits, hml, hrl, hmg, hmge, hzi, hzz]
     exact ih _ (ints (bsL s r) ++ [I (r : Int)]) (some false) _ rfl (by simp) (by rw [Zc]) (by simp [hws, PV.setc])
  ·have hb : s.testBit r = false := by simpa using hb
   rw [hb] at htb
   have hq0 : s / 2 ^ r % 2 = 0 := by
    have : ¬ s / 2 ^ r % 2 = 1 := by simpa using htb.symm
    omega
   rw [hq0] at hq
   generalize s / 2 ^ r = q at *
   simp only [hb, Bool.false_eq_true, if_false] at ih
   simp [Qo, Wq, hlt, hr0, hfd, hq, IntKind.bits]
   exact ih _ _ _ _ rfl rfl rfl (by simp [hws])
theorem grp_loop2 (d : Des) (hn : d.rules.length ≤ 16) (N : Nat) (hN : N = 2 ^ d.rules.length) :
  ∀ (m s : Nat) (best : List Int) (B : List PV) (x : Env × Sto), s + m = N → B.length = N → (∀ v ∈ B, ∃ b, v = .bool b) → (∀ t < s, B[t]? = some (.bool (gB d t))) → best.length ≤ d.rules.length →
  mask [6, 9, 10, 62, 63] [] x = some ([(6, .ap (26 :: π)), (9, .ap (59 :: π)), (10, .p (bestP best)), (62, .p (U N)), (63, .p (U s))], stG π d B) →
  kpO [10] [2, 3] [] (bkO 4 (iter (round EE iter π [] [6, 9, 10, 62, 63] Z12) x)) = some (.nm, [(10, .p (bestP (bstF d m s best)))], [])
 | 0, s, best, B, x, h, hB, hA, hG, hbl, hm => by
  rw [Z0 hm]
  have : s = N := by omega
  subst this
  simp [Z59, Ka, bstF]
 | m + 1, s, best, B, x, h, hB, hA, hG, hbl, hm => by
  rw [Z0 hm]
  have hNl : N ≤ 2 ^ 16 := by rw [hN]; exact Nat.pow_le_pow_right (by omega) hn
  have hs : s < N := by omega
  have hsi : (s : Int) < N := by omega
  have hsB : s < B.length := by omega
  have hwU : IntKind.u64.wrap ((s : Int) + 1) = (s : Int) + 1 := wrapU (by omega) (by omega)
  have hml := Zcv d d.rules.length
  have ih := fun best B x => grp_loop2 d hn N hN m (s + 1) best B x (by omega)
  have hlp := fun R x => grp_loop3 (π := π) d hn N s hN hs best B hB hG d.rules.length 0 R [] (some true) x (by omega)
  rw [inB_gB (by omega) (hN ▸ hs)] at hlp
  have hG' : ∀ t < s + 1, (B.set s (.bool (gB d s)))[t]? = some (.bool (gB d t)) := fun t ht => by
   by_cases hts : t = s
   ·subst hts; simp [hsB]
   ·rw [List.getElem?_set_ne (fun e => hts e.symm)]; exact hG t (by omega)
  have hA' : ∀ v ∈ B.set s (.bool (gB d s)), ∃ b, v = .bool b := fun v hv => by
   rcases List.mem_or_eq_of_mem_set hv with h | h
   ·exact hA v h
   ·exact ⟨_, h⟩
  obtain ⟨b0, hb0⟩ := hA _ (List.getElem_mem hsB)
  have hown := Zb7 s d.rules.length
  have hC := fun π => e_Compare (π := π) (bsL s d.rules.length) best (by omega)
  have hst : bstF d (m + 1) s best = bstF d m (s + 1) (if takB d s best = true then bsL s d.rules.length else best) := rfl
  have htk : takB d s best = (gB d s && (decide (best.length < (bsL s d.rules.length).length) || (decide ((bsL s d.rules.length).length = best.length) && befB (bsL s d.rules.length) best))) := rfl
  have hcb := fun h => cmpL_bef (a := bsL s d.rules.length) (b := best) h
  rw [hst]
  generalize takB d s best = tk at *
  generalize hgg : gB d s = g at *
  generalize bsL s d.rules.length = own at *
  generalize befB own best = bf at *
  generalize cmpL own best = cm at *
  simp [Z59, Ka, hsi, hsB, hb0, thaw, thaw1]
  rw [hlp _ _ (by simp [inB]; rfl) rfl rfl (by simp [PV.setc, hml])]
  cases g with
  | false =>
   simp only [Bool.false_and] at htk
   subst htk
   simp [hsB]
   exact ih _ _ _ (by simp [hB]) hA' hG' hbl (by simp [hwU])
  | true =>
   simp only [Bool.true_and] at htk
   by_cases h1 : best.length < own.length
   ·have h1i : (best.length : Int) < own.length := by omega
    simp only [h1, decide_true, Bool.true_or] at htk
    subst htk
    simp [hsB, h1, h1i]
    exact ih _ _ _ (by simp [hB]) hA' hG' (by simpa using hown) (by simp [hwU])
   ·have h1i : ¬ (best.length : Int) < own.length := by omega
    by_cases h2 : own.length = best.length
    ·have h2i : (own.length : Int) = best.length := by omega
     have hcb := hcb h2
     simp only [h1, h2, decide_true, decide_false, Bool.true_and, Bool.false_or] at htk
     subst htk
     by_cases h3 : cm < 0
     ·simp only [h3, decide_true] at hcb
      subst hcb
      simp [hsB, h1, h1i, h2, h2i, h3, hC, Z4]
      exact ih _ _ _ (by simp [hB]) hA' hG' (by simpa using hown) (by simp [hwU])
     ·simp only [h3, decide_false] at hcb
      subst hcb
      simp [hsB, h1, h1i, h2, h2i, h3, hC, Z4]
      exact ih _ _ _ (by simp [hB]) hA' hG' hbl (by simp [hwU])
    ·have h2i : ¬ (own.length : Int) = best.length := by omega
     simp only [h1, h2, decide_false, Bool.false_and, Bool.false_or] at htk
     subst htk
     simp [hsB, h1, h1i, h2, h2i]
     exact ih _ _ _ (by simp [hB]) hA' hG' hbl (by simp [hwU])
def grpF (d : Des) : List Int := bstF d (2 ^ d.rules.length) 0 []
theorem Zdp (d : Des) (hd : DesOk d) (hn : d.rules.length ≤ 16) :
  EE π Z1m [.p (Z5 d)] [] = if (desE d).2 = 0 then some (.p (.tup [bestP (grpF d), I 0]), []) else some (.p (.tup [.sl 1 (some true) [], I (desE d).2]), []) := by
 have ho := fun π => Z43 (π := π) d hd [] (by simp)
 have hoE : orE d [] = (desE d).2 := by
  unfold orE
  split
  ·rename_i h; rw [h]; rfl
  ·rfl
 rw [hoE] at ho
 unfold Z5 at ho
 simp only [Z2, ints, List.map_nil] at ho
 by_cases h0 : (desE d).2 = 0
 ·have hv := Zco (hoE.trans h0)
  simp only [h0, if_true] at ho ⊢
  have hro : d.rules.length ≤ room := by simp only [room]; omega
  have hNl : 2 ^ d.rules.length ≤ 2 ^ 16 := Nat.pow_le_pow_right (by omega) hn
  have hp := Zf5 (r := d.rules.length) (by omega)
  have hml := Zcv d d.rules.length
  have hlp0 := fun x => grp_loop0 (π := π) d hd hv.1 (by omega) d.rules.length 0 x (by omega)
  have hlp2 := fun B x => grp_loop2 (π := π) d hn (2 ^ d.rules.length) rfl (2 ^ d.rules.length) 0 [] B x (by omega)
  have hz := mL_zero d
  have hg : grpF d = bstF d (2 ^ d.rules.length) 0 [] := rfl
  rw [← hg] at hlp2
  generalize 2 ^ d.rules.length = N at *
  have hw : IntKind.i64.wrap (2 ^ min d.rules.length 64) = (N : Int) := by rw [hp]; exact Z1e (by omega) (by omega)
  have hwU : IntKind.u64.wrap (N : Int) = (N : Int) := wrapU (by omega) (by omega)
  have hNr : N ≤ room := by simp only [room]; omega
  have hn0 : ¬ (d.rules.length : Int) < 0 := by omega
  generalize grpF d = G at *
  simp [Zbk, Z1, Z1t, Z5, ho, Z4, hro]
  rw [hlp0 _ (by simp [hz])]
  simp [hml, hw, hwU, hNr, hn0, IntKind.bits]
  rw [hlp2 (List.replicate N (.bool false)) _ (by simp) (by simp) (by simp) (by simp) (by simp [flagE])]
  simp
 ·simp only [h0, if_false] at ho ⊢
  simp [Zbk, Z1, Z1t, Z5, ho, Z4, h0]
theorem grr_loop1 (d : Des) (hn : d.rules.length ≤ 16) (s : Nat) (hs : s < 2 ^ 16) (best : List Int) :
  ∀ (m r : Nat) (own : List PV) (nl : Option Bool) (x : Env × Sto), r + m = d.rules.length → own = ints (bsL s r) → nl = flagE own →
  mask [1, 3, 4, 5, 6, 7] [] x = some ([(1, .ref (1 :: π) 0), (3, .p (I d.rules.length)), (4, .p (.sl 1 (some false) (ints best))), (5, .p (I s)), (6, .ap (1006 :: π)), (7, .p (I r))], [(1006 :: π, .row false t_int 1 nl own), Zo (1 :: π) d]) →
  kpO [1, 3, 4, 5, 6] [2] [] (bkO 2 (iter (round EE iter π [] [1, 3, 4, 5, 6, 7] Z0n) x)) =
   some (.nm, [(1, .ref (1 :: π) 0), (3, .p (I d.rules.length)), (4, .p (.sl 1 (some false) (ints best))), (5, .p (I s)), (6, .ap (1006 :: π))], [(1006 :: π, .row false t_int 1 (flagE (ints (bsL s d.rules.length))) (ints (bsL s d.rules.length))), Zo (1 :: π) d])
 | 0, r, own, nl, x, h, ho, hnl, hm => by
  rw [Z0 hm]
  have : r = d.rules.length := by omega
  subst this hnl ho
  simp [Fz, Pb]
 | m + 1, r, own, nl, x, h, ho, hnl, hm => by
  rw [Z0 hm]
  subst hnl ho
  have hlt : (r : Int) < d.rules.length := by omega
  have hws := Zb (show r < d.rules.length by omega) (show d.rules.length ≤ top63 by simp only [top63]; omega)
  have ih := fun own nl x => grr_loop1 d hn s hs best m (r + 1) own nl x (by omega)
  have hP := fun π => Zhd (π := π) (r : Int) (by omega)
  have hp := Zf5 (r := r) (by omega)
  have hpl := pw_lt (r := r) (by omega)
  have hpp := Nat.two_pow_pos r
  have hlen := Zb7 s r
  have hro : (bsL s r).length + 1 ≤ room := by simp only [room]; omega
  have hro0 : (bsL s r).length ≤ room := by simp only [room]; omega
  have hO : bsL s (r + 1) = if s.testBit r = true then bsL s r ++ [(r : Int)] else bsL s r := rfl
  have htb : s.testBit r = decide (s / 2 ^ r % 2 = 1) := Nat.testBit_eq_decide_div_mod_eq
  have hqs := Nat.div_le_self s (2 ^ r)
  have htd : Int.tdiv (s : Int) ((2 ^ r : Nat) : Int) = ((s / 2 ^ r : Nat) : Int) := (Int.ofNat_tdiv s (2 ^ r)).symm
  rw [Int.toNat_natCast, hp] at hP
  rw [hO] at ih
  generalize 2 ^ r = pw at *
  generalize s / pw = q at *
  have hw : IntKind.i64.wrap (pw : Int) = (pw : Int) := Z1e (by omega) (by omega)
  have hw2 : IntKind.i64.wrap (q : Int) = (q : Int) := Z1e (by omega) (by omega)
  have hp0 : ¬ (pw : Int) = 0 := by omega
  have hp0n : ¬ pw = 0 := by omega
  have htm : Int.tmod (q : Int) 2 = ((q % 2 : Nat) : Int) := (Int.ofNat_tmod q 2).symm
  have hq2 := Nat.mod_lt q (show 0 < 2 by omega)
  rw [hw] at hP
  generalize q % 2 = z at *
  by_cases hb : s.testBit r = true
  ·rw [hb] at htb
   have hz : z = 1 := by simpa using htb.symm
   subst hz
   simp only [hb, if_true] at ih
   simp [Fz, Pb, hlt, hP, htd, hw2, hp0, hp0n, htm, hro, hro0, Zc]
   exact ih (ints (bsL s r) ++ [I (r : Int)]) (some false) _ (by simp) (by rw [Zc]) (by simp [hws])
  ·have hb : s.testBit r = false := by simpa using hb
   rw [hb] at htb
   have hz : z = 0 := by
    have : ¬ z = 1 := by simpa using htb.symm
    omega
   subst hz
   simp only [hb, Bool.false_eq_true, if_false] at ih
   simp [Fz, Pb, hlt, hP, htd, hw2, hp0, hp0n, htm]
   exact ih _ _ _ rfl rfl (by simp [hws])
theorem befB_nil {a b : List Int} (h : a.length = b.length) (hb : befB a b = true) : a ≠ [] := by
 rintro rfl
 have : b = [] := List.length_eq_zero_iff.1 h.symm
 subst this
 simp [befB] at hb
theorem flagE_ne {l : List Int} (h : l ≠ []) : flagE (ints l) = some false := by
 cases l with
 | nil => exact absurd rfl h
 | cons a r => rfl
theorem grr_loop0 (d : Des) (hd : DesOk d) (h0 : (desE d).2 = 0) (hn : d.rules.length ≤ 16) (N : Nat) (hN : N = 2 ^ d.rules.length) :
  ∀ (m s : Nat) (best : List Int) (x : Env × Sto), s + m = N → best.length ≤ d.rules.length →
  mask [1, 3, 4, 5] [] x = some ([(1, .ref (1 :: π) 0), (3, .p (I d.rules.length)), (4, .p (.sl 1 (some false) (ints best))), (5, .p (I s))], [Zo (1 :: π) d]) →
  kpO [4] [2] [] (bkO 0 (iter (round EE iter π [] [1, 3, 4, 5] Z0o) x)) = some (.nm, [(4, .p (.sl 1 (some false) (ints (bstF d m s best))))], [])
 | 0, s, best, x, h, hbl, hm => by
  rw [Z0 hm]
  have : s = N := by omega
  subst this
  have hNl : s ≤ 2 ^ 16 := by rw [hN]; exact Nat.pow_le_pow_right (by omega) hn
  have hP := fun π => Zhd (π := π) (d.rules.length : Int) (by omega)
  have hp := Zf5 (r := d.rules.length) (by omega)
  rw [Int.toNat_natCast, hp, ← hN, Z1e (by omega) (by omega)] at hP
  simp [Z57, Lx, bstF, hP]
 | m + 1, s, best, x, h, hbl, hm => by
  rw [Z0 hm]
  have hNl : N ≤ 2 ^ 16 := by rw [hN]; exact Nat.pow_le_pow_right (by omega) hn
  have hsi : (s : Int) < N := by omega
  have hP := fun π => Zhd (π := π) (d.rules.length : Int) (by omega)
  have hp := Zf5 (r := d.rules.length) (by omega)
  rw [Int.toNat_natCast, hp, ← hN, Z1e (by omega) (by omega)] at hP
  have hws : IntKind.i64.wrap ((s : Int) + 1) = (s : Int) + 1 := Z1e (by omega) (by omega)
  have ih := fun best x => grr_loop0 d hd h0 hn N hN m (s + 1) best x (by omega)
  have hlp := fun x => grr_loop1 (π := π) d hn s (by omega) best d.rules.length 0 [] (some true) x (by omega) rfl rfl
  have hown := Zb7 s d.rules.length
  have hB := fun π => e_Before (π := π) (bsL s d.rules.length) best (by omega)
  have hO := fun π => e_OrderR (π := π) d hd h0 (bsL s d.rules.length) (by omega) (fun x hx => by obtain ⟨k, h1, _, rfl⟩ := F0.1 hx; omega)
  have hst : bstF d (m + 1) s best = bstF d m (s + 1) (if takB d s best = true then bsL s d.rules.length else best) := rfl
  have htk : takB d s best = (gB d s && (decide (best.length < (bsL s d.rules.length).length) || (decide ((bsL s d.rules.length).length = best.length) && befB (bsL s d.rules.length) best))) := rfl
  have hgo := gB_ordF (d := d) (s := s)
  have hnil := fun h => befB_nil (a := bsL s d.rules.length) (b := best) h
  rw [hst]
  generalize takB d s best = tk at *
  generalize gB d s = g at *
  generalize bsL s d.rules.length = own at *
  generalize befB own best = bf at *
  unfold Z5 at hO
  simp [Z57, Lx, hsi, hP, thaw, thaw1]
  rw [hlp _ (by simp [Yd])]
  have take : own ≠ [] → (decide (best.length < own.length) || (decide (own.length = best.length) && bf)) = true → True := fun _ _ => trivial
  by_cases h1 : own.length < best.length
  ·have h1b : ¬ best.length < own.length := by omega
   have h1c : ¬ own.length = best.length := by omega
   have htk : tk = false := by rw [htk]; simp [h1b, h1c]
   subst htk
   simp [h1, Yd]
   exact ih _ _ hbl (by simp [hws, Yd])
  ·by_cases h2 : own.length = best.length
   ·have h2i : (own.length : Int) = best.length := by omega
    have h1b : ¬ best.length < own.length := by omega
    cases bf with
    | false =>
     have htk : tk = false := by rw [htk]; simp [h1b]
     subst htk
     simp [h1, h2, h2i, hB, Z4, Yd]
     exact ih _ _ hbl (by simp [hws, Yd])
    | true =>
     have hfl := flagE_ne (hnil h2 rfl)
     have htk : tk = g := by rw [htk]; simp [h2]
     subst htk
     cases ho : ordF d own own.length [] with
     | none =>
      rw [ho] at hgo hO
      subst hgo
      simp [h1, h2, h2i, hB, Z4, Yd, hfl, hO]
      exact ih _ _ hbl (by simp [hws, Yd])
     | some o =>
      rw [ho] at hgo hO
      subst hgo
      simp [h1, h2, h2i, hB, Z4, Yd, hfl, hO]
      exact ih _ _ hown (by simp [hws, Yd])
   ·have h2i : ¬ (own.length : Int) = best.length := by omega
    have h1b : best.length < own.length := by omega
    have hfl := flagE_ne (l := own) (fun e => by rw [e] at h1b; simp at h1b)
    have htk : tk = g := by rw [htk]; simp [h1b]
    subst htk
    cases ho : ordF d own own.length [] with
    | none =>
     rw [ho] at hgo hO
     subst hgo
     simp [h1, h2, h2i, Z4, Yd, hfl, hO]
     exact ih _ _ hbl (by simp [hws, Yd])
    | some o =>
     rw [ho] at hgo hO
     subst hgo
     simp [h1, h2, h2i, Z4, Yd, hfl, hO]
     exact ih _ _ hown (by simp [hws, Yd])
theorem e_GroupR (d : Des) (hd : DesOk d) (h0 : (desE d).2 = 0) (hn : d.rules.length ≤ 16) :
  EE π Z1i [.p (Z5 d)] [] = some (.p (.sl 1 (some false) (ints (grpF d))), []) := by
 have hlp := fun x => grr_loop0 (π := π) d hd h0 hn (2 ^ d.rules.length) rfl (2 ^ d.rules.length) 0 [] x (by omega) (by simp)
 have hg : grpF d = bstF d (2 ^ d.rules.length) 0 [] := rfl
 rw [← hg] at hlp
 generalize grpF d = G at *
 simp [e_rr16_Group, Z1, Z63, Z5, Z4]
 rw [hlp _ (by simp [Yd])]
 simp
theorem Zd7 {d : Des} (h : fewD d = true) : d.rules.length ≤ 7 := by
 simp only [fewD, fewS, Bool.and_eq_true, decide_eq_true_eq] at h
 omega
theorem ord_few (d : Des) (rules : List Int) (hw : Zeb [18]) (hf : fewD d = false) : ∃ s, EE [] Zp [.p (Z5 d), .p (Z2 rules)] [] = some (.p (.bool true), s) := by
 have hfe := fun π => Zdq (π := π) d
 rw [hf] at hfe
 unfold Z5 at hfe
 refine ⟨[], ?_⟩
 simp [Zy, Z1, Zj, Z5, hw, hfe]
theorem ord_many (d : Des) (rules : List Int) (hw : Zeb [18]) (hf : fewD d = true) (hl : 9 < rules.length) : ∃ s, EE [] Zp [.p (Z5 d), .p (Z2 rules)] [] = some (.p (.bool true), s) := by
 have hfe := fun π => Zdq (π := π) d
 rw [hf] at hfe
 have hli : (9 : Int) < rules.length := by omega
 unfold Z5 at hfe
 refine ⟨[], ?_⟩
 simp [Zy, Z1, Zj, Z5, hw, hfe, hl, hli]
theorem ord_err (d : Des) (hi : DesIn d) (rules : List Int) (hw : Zeb [18]) (hf : fewD d = true) (hl : rules.length ≤ 9) (h0 : ¬ (desE d).2 = 0) : ∃ s, EE [] Zp [.p (Z5 d), .p (Z2 rules)] [] = some (.p (.bool true), s) := by
 have hd := Zds hi hf
 have hfr := Zd7 hf
 have hfe := fun π => Zdq (π := π) d
 have hcp := fun π => Z5y (π := π) d hd
 have hci := fun π => Kw (π := π) (ints rules) (by simp only [List.length_map, room]; omega)
 have hde := fun π => Z7v (π := π) d hd
 have hO := fun π => Zak (π := π) d hd rules (by omega)
 have hK := fun π => Z5z (π := π) d hd rules (by omega)
 have hC := fun π => Zdr (π := π) d hd rules (by omega)
 have hG := fun π => Zdp (π := π) d hd (by omega)
 have hoE : orE d rules = (desE d).2 := by unfold orE; rw [if_neg h0]
 have hli : ¬ (9 : Int) < rules.length := by omega
 have hln : ¬ 9 < rules.length := by omega
 rw [hf] at hfe
 simp only [hoE, h0, if_false] at hO hK hC hG
 unfold Z5 at hfe hcp hde hO hK hC hG
 generalize (desE d).2 = E at *
 have hw0 : IntKind.i64.wrap 0 = 0 := rfl
 refine ⟨[], ?_⟩
 simp [Zy, Z1, Zj, Z5, hw, hfe, hli, hln, hcp, hci, hde, h0, hw0, hO, hK, hC, hG, Z4, Fy, Z3e, Z3g]
theorem ord_rules (d : Des) (hi : DesIn d) (rules : List Int) (hw : Zeb [18]) (hf : fewD d = true) (hl : rules.length ≤ 9) (h0 : (desE d).2 = 0) (h1 : ¬ rulsE d rules = 0) : ∃ s, EE [] Zp [.p (Z5 d), .p (Z2 rules)] [] = some (.p (.bool true), s) := by
 have hd := Zds hi hf
 have hfr := Zd7 hf
 have hfe := fun π => Zdq (π := π) d
 have hcp := fun π => Z5y (π := π) d hd
 have hci := fun π => Kw (π := π) (ints rules) (by simp only [List.length_map, room]; omega)
 have hde := fun π => Z7v (π := π) d hd
 have hre := fun π => Zfw (π := π) d hd rules (by omega)
 have hO := fun π => Zak (π := π) d hd rules (by omega)
 have hK := fun π => Z5z (π := π) d hd rules (by omega)
 have hC := fun π => Zdr (π := π) d hd rules (by omega)
 have hG := fun π => Zdp (π := π) d hd (by omega)
 have hH := fun π => e_GroupR (π := π) d hd h0 (by omega)
 have hgl : (grpF d).length ≤ d.rules.length := Zhv d _ _ _ (by simp)
 have hI := fun π => e_Ints (π := π) (grpF d) (grpF d) (by simp only [top63]; omega)
 have hoE : orE d rules = rulsE d rules := by unfold orE; rw [if_pos h0]
 have hli : ¬ (9 : Int) < rules.length := by omega
 have hln : ¬ 9 < rules.length := by omega
 rw [hf] at hfe
 rw [hoE] at hO hK hC
 simp only [h1, if_false] at hO hK hC
 simp only [h0, if_true] at hde hG
 simp only [decide_true] at hI
 unfold Z5 at hfe hcp hde hre hO hK hC hG hH
 generalize rulsE d rules = E at *
 generalize grpF d = G at *
 have hw0 : IntKind.i64.wrap 0 = 0 := rfl
 refine ⟨[], ?_⟩
 simp [Zy, Z1, Zj, Z5, hw, hfe, hli, hln, hcp, hci, hde, h1, hw0, hre, hO, hK, hC, hG, hH, hI, Z4, Fy, Z3e, Z3g]
set_option maxHeartbeats 2000000 in
theorem ord_true (d : Des) (hi : DesIn d) (rules : List Int) (hw : Zeb [18]) (hf : fewD d = true) (hl : rules.length ≤ 9) (h0 : (desE d).2 = 0) (h1 : rulsE d rules = 0) : ∃ s, EE [] Zp [.p (Z5 d), .p (Z2 rules)] [] = some (.p (.bool true), s) := by
 have hd := Zds hi hf
 have hfr := Zd7 hf
 have hfe := fun π => Zdq (π := π) d
 have hcp := fun π => Z5y (π := π) d hd
 have hci := fun π => Kw (π := π) (ints rules) (by simp only [List.length_map, room]; omega)
 have hde := fun π => Z7v (π := π) d hd
 have hre := fun π => Zfw (π := π) d hd rules (by omega)
 have hO := fun π => Zak (π := π) d hd rules (by omega)
 have hK := fun π => Z5z (π := π) d hd rules (by omega)
 have hC := fun π => Zdr (π := π) d hd rules (by omega)
 have hG := fun π => Zdp (π := π) d hd (by omega)
 have hH := fun π => e_GroupR (π := π) d hd h0 (by omega)
 have hgl : (grpF d).length ≤ d.rules.length := Zhv d _ _ _ (by simp)
 have hI := fun π => e_Ints (π := π) (grpF d) (grpF d) (by simp only [top63]; omega)
 have hoE : orE d rules = 0 := orE_of h0 h1
 obtain ⟨hv, hlr, hin, hnd⟩ := Zco hoE
 have hKR := fun π => Zhi (π := π) d hd h0 rules (by omega) hin
 have hOR := fun π => e_OrderR (π := π) d hd h0 rules (by omega) hin
 have hCR := fun π => e_CycleR (π := π) d hd h0 rules (by omega)
 have hli : ¬ (9 : Int) < rules.length := by omega
 have hln : ¬ 9 < rules.length := by omega
 have hcl : ∀ c, fndU (cycF d rules) 2 (rules.length - 1) = some c → 0 < c.length ∧ c.length ≤ 1000 := fun c hc => by
  have h := Zfy (d := d) hin
  rw [hc] at h
  obtain ⟨k1, k2, _⟩ := Vg h.is.cyc
  exact ⟨by omega, by have := Z90 (List.pairwise_iff_getElem.2 fun i j hi hj hij => k2 i j hi hj hij) h.is.has; omega⟩
 have hol : ∀ o, ordF d rules rules.length [] = some o → o.length ≤ 1000 := fun o ho => by
  rw [← ordG_eq hin hnd] at ho
  obtain ⟨t, ht, hp⟩ := Z5d d _ _ _ _ (Zcj rules) ho
  have := hp.length_eq
  rw [ht, List.nil_append, this, Zcj]
  omega
 rw [hf] at hfe
 simp only [hoE, if_true, ordG_eq hin hnd, ck_eq hnd, cyF_cycR hin hnd] at hO hK hC
 simp only [h0, if_true] at hde hG
 simp only [h1] at hre
 simp only [decide_true] at hI
 unfold Z5 at hfe hcp hde hre hO hK hC hG hH hKR hOR hCR
 generalize (ckR d 0 rules).1 = K1 at *
 generalize (ckR d 0 rules).2 = E1 at *
 generalize grpF d = G at *
 refine ⟨[], ?_⟩
 cases ho : ordF d rules rules.length [] with
 | none =>
  rw [ho] at hO hOR
  cases hc : fndU (cycF d rules) 2 (rules.length - 1) with
  | none =>
   rw [hc] at hC hCR
   simp only [optP, cyE, cycO] at hC hCR
   simp [Zy, Z1, Zj, Z5, hw, hfe, hli, hln, hcp, hci, hde, hre, hO, hK, hC, hG, hH, hI, hKR, hOR, hCR, Z4, Fy, Z3e, Z3g]
  | some c =>
   obtain ⟨q1, q2⟩ := hcl c hc
   have hIc := fun π => e_Ints (π := π) c c (by simp only [top63]; omega)
   simp only [decide_true] at hIc
   rw [hc] at hC hCR
   simp only [optP, cyE, cycO] at hC hCR
   simp [Zy, Z1, Zj, Z5, hw, hfe, hli, hln, hcp, hci, hde, hre, hO, hK, hC, hG, hH, hI, hKR, hOR, hCR, hIc, q1, Z4, Fy, Z3e, Z3g]
 | some o =>
  have hIo := fun π => e_Ints (π := π) o o (by have := hol o ho; simp only [top63]; omega)
  simp only [decide_true] at hIo
  rw [ho] at hO hOR
  cases hc : fndU (cycF d rules) 2 (rules.length - 1) with
  | none =>
   rw [hc] at hC hCR
   simp only [optP, cyE, cycO] at hC hCR
   simp [Zy, Z1, Zj, Z5, hw, hfe, hli, hln, hcp, hci, hde, hre, hO, hK, hC, hG, hH, hI, hIo, hKR, hOR, hCR, Z4, Fy, Z3e, Z3g]
  | some c =>
   obtain ⟨q1, q2⟩ := hcl c hc
   have hIc := fun π => e_Ints (π := π) c c (by simp only [top63]; omega)
   simp only [decide_true] at hIc
   rw [hc] at hC hCR
   simp only [optP, cyE, cycO] at hC hCR
   simp [Zy, Z1, Zj, Z5, hw, hfe, hli, hln, hcp, hci, hde, hre, hO, hK, hC, hG, hH, hI, hIo, hKR, hOR, hCR, hIc, q1, Z4, Fy, Z3e, Z3g]
end Go.Proofs.YteecfnfjlclhdaaGreat.V
