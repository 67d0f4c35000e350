/- What all rules share, by the program. Which rule may precede which, and the relation of two rules, by the program. Which rule may precede which, and the relation of two rules, by the reference. RelationOf and MatrixOf. Sorted values of a list. Rules of a design, opened; the order of some rules, by t -/
import Derived.Test.YteecfnfjlclhdaaGreatS4

set_option linter.unusedSimpArgs false
set_option linter.unusedVariables false

/- What all rules share, by the program. -/
namespace Go.Proofs.YteecfnfjlclhdaaGreat.V
open Go (IntKind BinOp UnOp)
variable {π : Id}
abbrev rdP (d : Des) (r : Rul) : PV := .sl 1 (flagE (rdE d r)) (ints (rdE d r))
abbrev wrP (r : Rul) : PV := .sl 1 (flagE (r.writes.map fun w => w.el)) (ints (wrE r))
abbrev rowLL (id : Id) (l : List PV) : Id × Blk := (id, .row false Wu 1 (flagE l) l)
abbrev shCells (π : Id) (d : Des) : List AV := [.p (.str d.name), .p (X8 d.inputs), .p (Xk d.elements), .p (Z7 d.nodes), .p (Qq d.rules), .p (Vp d.outputs), .p (Qr d.attrs), .p (Z3 (dlv d)), .ap (900003 :: π), .ap (1000003 :: π)]
abbrev shZ : List AV := [.p (.str ⟨#[]⟩), .p (.sl 2 (some true) []), .p (.sl 5 (some true) []), .p (.sl 4 (some true) []), .p (.sl 3 (some true) []), .p (.sl 2 (some true) []), .p (.sl 2 (some true) []), .p (.sl 1 (some true) []), .p (.sl 1 (some true) []), .p (.sl 1 (some true) [])]
theorem shr_region (N : PV) (C1 C2 C3 : List AV) (h1 : C1.length = 8) (h1' : AV.mkAgg (seg 0 8 C1) = .p N) (h1i : AV.ids.AV.idsL C1 = []) (h2i : AV.ids.AV.idsL C2 = [])
    (h3 : C3.length = 10) (h38 : C3[8]'(by omega) = .ap (900003 :: π)) (h39 : C3[9]'(by omega) = .ap (1000003 :: π)) (h3i : AV.ids.AV.idsL C3 = [900003 :: π, 1000003 :: π])
    (K3 : List AV) (hk : ∀ p : Id → Bool, p (900003 :: π) = true → p (1000003 :: π) = true → C3.map (AV.killP p) = K3) (hk3 : K3.length = 10) (hki : AV.ids.AV.idsL K3 = [])
    (L3 : List AV) (hs1 : Zk K3 8 [AV.ap (900003 :: π)] = L3) (hl3 : L3.length = 10) (hs2 : Zk L3 9 [AV.ap (1000003 :: π)] = C3)
    (n : Int) (k : Nat) (R W : List PV) (fr fw fR fW : Option Bool) (r w : List Int) (hfr : fR = flagE R) (hfw : fW = flagE W) (hR : R.length + 1 ≤ room) (hW : W.length + 1 ≤ room)
    (hN : N.fg = N)
    (hrd : ∀ π, EE π Mh [.p N, .p (I k)] [] = some (.ap (1004 :: 41 :: π), [(1004 :: 41 :: π, .row false t_int 1 fr (ints r))]))
    (hwr : ∀ π, EE π Pp [.p N, .p (I k)] [] = some (.p (.sl 1 fw (ints w)), [])) (hlt : (k : Int) < n) (hws : IntKind.i64.wrap ((k : Int) + 1) = k + 1) :
    ∃ st, evC EE iter π [] Vw [(1, .ref (1 :: π) 0), (2, .ref (2 :: π) 0), (3, .ref (3 :: π) 0), (10, .p (I n)), (11, .p (I k))] [(1000003 :: π, .row false Wu 1 fW W), (900003 :: π, .row false Wu 1 fR R), (3 :: π, .box false C3), (2 :: π, .box false C2), (1 :: π, .box false C1)] = some (.nm, st) ∧ mask [1, 2, 3, 10, 11] [] st = some ([(1, .ref (1 :: π) 0), (2, .ref (2 :: π) 0), (3, .ref (3 :: π) 0), (10, .p (I n)), (11, .p (I (k + 1 : Nat)))], [(1000003 :: π, .row false Wu 1 (some false) (W ++ [.sl 1 fw (ints w)])), (900003 :: π, .row false Wu 1 (some false) (R ++ [.sl 1 fr (ints r)])), (3 :: π, .box false C3), (2 :: π, .box false C2), (1 :: π, .box false C1)]) := by
  obtain ⟨q, hq⟩ : ∃ q, evC EE iter π [] Vw [(1, .ref (1 :: π) 0), (2, .ref (2 :: π) 0), (3, .ref (3 :: π) 0), (10, .p (I n)), (11, .p (I k))] [(1000003 :: π, .row false Wu 1 fW W), (900003 :: π, .row false Wu 1 fR R), (3 :: π, .box false C3), (2 :: π, .box false C2), (1 :: π, .box false C1)] = q := ⟨_, rfl⟩
  have hq2 := hq
  simp [-seg, -AV.mkAgg, -Zk, Z19, Pf, hlt, hrd, hwr, evRO, Z4, hR, hW, h1, h1', h1i, h2i, h3, h38, h39, h3i, hk, hk3, hs1, hl3, hs2, hN, hws] at hq2
  subst hq2
  refine ⟨_, hq, ?_⟩
  simp [h1i, h2i, h3i]
theorem fgL_rd (d : Des) (l : List Rul) : PV.fg.PV.fgL (l.map (rdP d)) = l.map fun r => Z3 (rdE d r) := Mk _ _ (fun x => by simp) l
theorem fgL_wr (l : List Rul) : PV.fg.PV.fgL (l.map wrP) = l.map fun r => Z3 (wrE r) := Mk _ _ (fun x => by simp) l
theorem shr_loop (d : Des) (hd : DesOk d) (hv : DesVal d) : ∀ (suf pre : List Rul) (x : Env × Sto), d.rules = pre ++ suf →
    mask [1, 2, 3, 10, 11] [] x = some ([(1, .ref (1 :: π) 0), (2, .ref (2 :: π) 0), (3, .ref (3 :: π) 0), (10, .p (I d.rules.length)), (11, .p (I pre.length))], [rowLL (1000003 :: π) (pre.map wrP), rowLL (900003 :: π) (pre.map (rdP d)), (3 :: π, .box false (shCells π d)), (2 :: π, .box false shZ), netBox (1 :: π) d]) →
    kpO [2, 3] [2] [] (bkO 0 (iter (round EE iter π [] [1, 2, 3, 10, 11] Vw) x)) = some (.nm, [(2, .ref (2 :: π) 0), (3, .ref (3 :: π) 0)], [rowLL (1000003 :: π) (d.rules.map wrP), rowLL (900003 :: π) (d.rules.map (rdP d)), (3 :: π, .box false (shCells π d)), (2 :: π, .box false shZ)])
  | [], pre, x, h, hm => by
    rw [Z1 hm]
    have : pre = d.rules := by simpa using h.symm
    subst this
    simp [Z19, Pf]
  | y :: suf, pre, x, h, hm => by
    rw [Z1 hm]
    have hg : d.rules[pre.length]? = some y := by rw [h]; simp
    have hlt := Z9 h
    have hr := hd.rules
    have hws := Zc (show pre.length < d.rules.length by omega) (show d.rules.length ≤ top63 by simp only [top63]; omega)
    have hrd := fun π => e_readsC (π := π) d hd hv pre.length y (by simpa using hg) (by omega) hlt
    have hwr := fun π => e_writesC (π := π) d hd pre.length y (by simpa using hg) (by omega) hlt
    have hrm : pre.length + 1 ≤ room := by simp only [room]; omega
    obtain ⟨st, h1, h2⟩ := shr_region (π := π) (encNet d) ((netCells d).map .p) shZ (shCells π d) (by simp) (by simp) (by simp) (by simp) (by simp) (by simp) (by simp) (by simp)
      _ (fun p h1 h2 => by simp only [List.map_cons, List.map_nil, AV.killP, AV.ids, List.any_nil, List.any_cons, h1, h2, Bool.or_false, if_true, Bool.false_eq_true, if_false]; rfl) (by simp) (by simp) _ rfl (by simp) (by simp)
      d.rules.length pre.length (pre.map (rdP d)) (pre.map wrP) (flagE (rdE d y)) (flagE (y.writes.map fun w => w.el)) _ _ (rdE d y) (wrE y) rfl rfl (by simpa using hrm) (by simpa using hrm) (by simp) hrd hwr hlt hws
    rw [h1]
    simp only [nextO_nm]
    exact shr_loop d hd hv suf (pre ++ [y]) st (by simp [h]) (by rw [h2]; simp [Y3])
abbrev shA (π : Id) (d : Des) : AV := .agg [.p (.str d.name), .p (X8 d.inputs), .p (Xk d.elements), .p (Z7 d.nodes), .p (Qq d.rules), .p (Vp d.outputs), .p (Qr d.attrs), .p (Z3 (dlv d)), .ap (900003 :: π), .ap (1000003 :: π)]
abbrev shS (π : Id) (d : Des) : Sto := [rowLL (1000003 :: π) (d.rules.map wrP), rowLL (900003 :: π) (d.rules.map (rdP d))]
theorem e_shared (d : Des) (hd : DesOk d) (hv : DesVal d) : EE π Pq [.p (encNet d)] [] = some (shA π d, shS π d) := by
  have hlp := shr_loop (π := π) d hd hv d.rules []
  simp [e_cf_nw_shared, Z0, Z11, thaw, thaw1]
  rw [hlp _ rfl (by simp [flagE])]
  simp
end Go.Proofs.YteecfnfjlclhdaaGreat.V

/- Which rule may precede which, and the relation of two rules, by the program. -/
namespace Go.Proofs.YteecfnfjlclhdaaGreat.V
open Go (IntKind BinOp UnOp)
variable {π : Id}
def kdOf (l : List Elm) (n : Int) : Int := (l.getD n.toNat elm0).kind
def commonB (els : List Elm) (a b : List Int) (k : Int) : Bool := a.any fun n => decide (kdOf els n = k) && memB b n
abbrev shLs (d : Des) : List PV := [.str d.name, X8 d.inputs, Xk d.elements, Z7 d.nodes, Qq d.rules, Vp d.outputs, Qr d.attrs, Z3 (dlv d), .sl 1 none (d.rules.map fun r => Z3 (rdE d r)), .sl 1 none (d.rules.map fun r => Z3 (wrE r))]
abbrev encShr (d : Des) : PV := .agg (shLs d)
@[simp] theorem fgL_rd' (d : Des) (l : List Rul) : PV.fg.PV.fgL (l.map fun r => Z3 (rdE d r)) = l.map fun r => Z3 (rdE d r) := Mk _ _ (fun x => by simp) l
@[simp] theorem fgL_wr' (l : List Rul) : PV.fg.PV.fgL (l.map fun r => Z3 (wrE r)) = l.map fun r => Z3 (wrE r) := Mk _ _ (fun x => by simp) l
theorem e_common1 (d : Des) (b : List Int) (hb : b.length ≤ 2000) (k n : Int) (h0 : 0 ≤ n) (hn : n < (d.elements.length : Int)) :
    EE π Ue [.p (I n), .p (.ptr (shLs d)), .p (.ptr [I k]), .p (.ptr [Z3 b])] [] = some (.p (.bool (decide (kdOf d.elements n = k) && memB b n)), []) := by
  have hlt : n.toNat < d.elements.length := by omega
  have hg : d.elements[n.toNat] = d.elements.getD n.toNat elm0 := by simp [hlt]
  have hk : kdOf d.elements n = (d.elements.getD n.toNat elm0).kind := rfl
  have hc := fun π => e_Contains (π := π) b (by simp only [top63]; omega) n
  rw [hk]
  generalize d.elements.getD n.toNat elm0 = x at *
  generalize memB b n = m at *
  by_cases hx : x.kind = k
  · simp [e_cf_sh_common_1, Z0, N5, h0, hn, hlt, hg, Zn, hx, hc, evRO, Z4]
  · simp [e_cf_sh_common_1, Z0, N5, h0, hn, hlt, hg, Zn, hx, evRO, Z4]
theorem e_common (d : Des) (a b : List Int) (ha : a.length ≤ 2000) (hb : b.length ≤ 2000) (k : Int) (hin : ∀ n ∈ a, 0 ≤ n ∧ n < (d.elements.length : Int)) :
    EE π Po [.p (encShr d), .p (Z3 a), .p (Z3 b), .p (I k)] [] = some (.p (.bool (commonB d.elements a b k)), []) := by
  have hc := fun π => e_CoFI (π := π) a (by simp only [top63]; omega) (f := Ue) (caps := [.ptr (shLs d), .ptr [I k], .ptr [Z3 b]]) (p := fun n => decide (kdOf d.elements n = k) && memB b n) (fun x hx => by
    have := e_common1 (π := 16 :: 7 :: π) d b hb k x (hin x hx).1 (hin x hx).2
    simpa using this)
  unfold commonB
  generalize (a.any fun n => decide (kdOf d.elements n = k) && memB b n) = r at *
  simp [e_cf_sh_common, Z0, Z0y, Z4, hc]
def mpR (d : Des) (ra rb : Rul) : Bool := !commonB d.elements (wrE ra) (rdE d rb) 0 && !commonB d.elements (rdE d ra) (wrE rb) 1
theorem usedE_in {ni : Nat} {m : Nat} {l : List Int} (hl : ∀ n ∈ l, 0 ≤ n ∧ n < ((ni + m : Nat) : Int)) : ∀ n ∈ usedE ni l, 0 ≤ n ∧ n < (m : Int) := fun n hn => by
  unfold usedE at hn
  obtain ⟨k, hk, rfl⟩ := List.mem_map.1 hn
  obtain ⟨h1, h2⟩ := List.mem_filter.1 hk
  have := hl k h1
  simp at h2
  omega
theorem rdE_in (d : Des) (r : Rul) : ∀ n ∈ rdE d r, 0 ≤ n ∧ n < (d.elements.length : Int) := usedE_in fun n hn => by
  have := lvN_mem hn
  simpa [dlv] using this
theorem wrE_in' {d : Des} (hv : DesVal d) {r : Rul} (hr : r ∈ d.rules) : ∀ n ∈ wrE r, 0 ≤ n ∧ n < (d.elements.length : Int) := fun n hn => by
  unfold wrE at hn
  rw [mem_cmpI, (Yf _).mem_iff] at hn
  exact wrE_in hv hr n hn
theorem e_mayC (d : Des) (hd : DesOk d) (hv : DesVal d) (a b : Int) (ra rb : Rul) (ha : d.rules[a.toNat]? = some ra) (hb : d.rules[b.toNat]? = some rb) (ha0 : 0 ≤ a) (ha1 : a < (d.rules.length : Int)) (hb0 : 0 ≤ b) (hb1 : b < (d.rules.length : Int)) :
    EE π Y0 [.p (encShr d), .p (I a), .p (I b)] [] = some (.p (.bool (mpR d ra rb)), []) := by
  have hla : a.toNat < d.rules.length := by omega
  have hlb : b.toNat < d.rules.length := by omega
  have hra : d.rules[a.toNat] = ra := by simpa [hla] using ha
  have hrb : d.rules[b.toNat] = rb := by simpa [hlb] using hb
  have hma := List.mem_of_getElem? ha
  have hmb := List.mem_of_getElem? hb
  have hwa := wrE_len hd hv hma
  have hwb := wrE_len hd hv hmb
  have hc1 := fun π => e_common (π := π) d (wrE ra) (rdE d rb) (by omega) (rdE_len d hd rb) 0 (wrE_in' hv hma)
  have hc2 := fun π => e_common (π := π) d (rdE d ra) (wrE rb) (rdE_len d hd ra) (by omega) 1 (rdE_in d ra)
  unfold mpR
  generalize commonB d.elements (wrE ra) (rdE d rb) 0 = b1 at *
  generalize commonB d.elements (rdE d ra) (wrE rb) 1 = b2 at *
  cases b1
  · simp [Z07, Z0, Q5, ha0, ha1, hb0, hb1, hla, hlb, hra, hrb, hc1, hc2, evRO, Z4]
  · simp [Z07, Z0, Q5, ha0, ha1, hb0, hb1, hla, hlb, hra, hrb, hc1, evRO, Z4]
end Go.Proofs.YteecfnfjlclhdaaGreat.V

/- Which rule may precede which, and the relation of two rules, by the reference. -/
namespace Go.Proofs.YteecfnfjlclhdaaGreat.V
open Go (IntKind BinOp UnOp)
variable {π : Id}
theorem desKind {d : Des} (h : (desE d).2 = 0) : ∀ x ∈ d.elements, x.kind = 0 ∨ x.kind = 1 := fun x hx => by
  unfold desE stagesE at h
  obtain ⟨_, h⟩ := Mj h
  obtain ⟨_, h⟩ := Mj h
  obtain ⟨_, h⟩ := Mj h
  obtain ⟨h4, h⟩ := Mj h
  obtain ⟨K, hK⟩ := eachK_all _ _ _ _ _ h4 x hx
  rw [elmE_eq] at hK
  cases hw : Z5 x.kind 0 1 with
  | true => have := Zy.1 hw; omega
  | false =>
    rw [hw] at hK
    repeat' split at hK
    all_goals first | contradiction | omega | skip
theorem rdE_len' (d : Des) (hv : DesVal d) (r : Rul) : (rdE d r).length ≤ 40 := by
  have h := trues_len2 (isLv (dlv d).length d.nodes (Pg r)) 0
  have hl : (isLv (dlv d).length d.nodes (Pg r)).length = (dlv d).length := by unfold isLv; rw [Xx]; simp
  have hk : (dlv d).length ≤ 40 := by have := hv.ll; simp [dlv]; omega
  have h2 : (rdE d r).length ≤ (lvD d (Pg r)).length := by unfold rdE usedE; rw [List.length_map]; exact List.length_filter_le _ _
  have h3 : (lvD d (Pg r)).length = (trues 0 (isLv (dlv d).length d.nodes (Pg r))).length := rfl
  omega
def mpK (d : Des) (ra rb : Rul) (k : Int) : Bool := if kdOf d.elements k = 1 then decide (k ∈ rdE d ra) && decide (k ∈ wrE rb) else decide (k ∈ wrE ra) && decide (k ∈ rdE d rb)
def anyUp (p : Int → Bool) : Nat → Nat → Bool
  | 0, _ => false
  | s + 1, i => p i || anyUp p s (i + 1)
theorem anyUp_iff (p : Int → Bool) : ∀ (s i : Nat), anyUp p s i = true ↔ ∃ k : Int, (i : Int) ≤ k ∧ k < ((i + s : Nat) : Int) ∧ p k = true
  | 0, i => by simp [anyUp]; omega
  | s + 1, i => by
    unfold anyUp
    rw [Bool.or_eq_true, anyUp_iff p s (i + 1)]
    constructor
    · rintro (h | ⟨k, h1, h2, h3⟩)
      · exact ⟨i, by omega, by omega, h⟩
      · exact ⟨k, by omega, by omega, h3⟩
    · rintro ⟨k, h1, h2, h3⟩
      by_cases e : k = i
      · subst e; exact .inl h3
      · exact .inr ⟨k, by omega, by omega, h3⟩
theorem may_loop (d : Des) (hd : DesOk d) (hv : DesVal d) (a b : Int) (ra rb : Rul) (ha : d.rules[a.toNat]? = some ra) (hb : d.rules[b.toNat]? = some rb) (ha0 : 0 ≤ a) (ha1 : a < (d.rules.length : Int)) (hb0 : 0 ≤ b) (hb1 : b < (d.rules.length : Int)) :
    ∀ (s i : Nat) (x : Env × Sto), i + s = d.elements.length → mask [1, 2, 3, 7] [] x = some ([(1, .p (I a)), (2, .p (I b)), (3, .ref (3 :: π) 0), (7, .p (I i))], [Zt (3 :: π) d]) →
    kpO [] [6] [] (bkO 0 (iter (round EE iter π [] [1, 2, 3, 7] Mx) x)) = (if anyUp (mpK d ra rb) s i = true then some (.rt, [(6, .p (.bool false))], []) else some (.nm, [], []))
  | 0, i, x, h, hm => by
    rw [Z1 hm]
    have : (i : Int) = d.elements.length := by omega
    simp [Yt, Y2, anyUp, this]
  | s + 1, i, x, h, hm => by
    rw [Z1 hm]
    have he := hd.elements
    have hlt : (i : Int) < d.elements.length := by omega
    have hltn : i < d.elements.length := by omega
    have hg : d.elements[i]? = some (d.elements.getD i elm0) := by simp [hltn]
    have hk : kdOf d.elements (i : Int) = (d.elements.getD i elm0).kind := by simp [kdOf]
    have hws := Zc hltn (show d.elements.length ≤ top63 by simp only [top63]; omega)
    have ih := fun x => may_loop d hd hv a b ra rb ha hb ha0 ha1 hb0 hb1 s (i + 1) x (by omega)
    have hma := List.mem_of_getElem? ha
    have hmb := List.mem_of_getElem? hb
    have hWa := fun π => e_Writes (π := π) d hd hv a ra ha ha0 ha1
    have hWb := fun π => e_Writes (π := π) d hd hv b rb hb hb0 hb1
    have hRa := fun π => e_Reads (π := π) d hd hv a ra ha ha0 ha1
    have hRb := fun π => e_Reads (π := π) d hd hv b rb hb hb0 hb1
    have hHWa := fun π => e_Has (π := π) (wrE ra) (wrE_len hd hv hma) i
    have hHWb := fun π => e_Has (π := π) (wrE rb) (wrE_len hd hv hmb) i
    have hHRa := fun π => e_Has (π := π) (rdE d ra) (by have := rdE_len' d hv ra; omega) i
    have hHRb := fun π => e_Has (π := π) (rdE d rb) (by have := rdE_len' d hv rb; omega) i
    unfold Z6 at hWa hWb hRa hRb
    have hst : anyUp (mpK d ra rb) (s + 1) i = (mpK d ra rb i || anyUp (mpK d ra rb) s (i + 1)) := rfl
    rw [hst]
    unfold mpK
    rw [hk]
    change ∀ x, _ → _ = if anyUp (fun k => if kdOf d.elements k = 1 then decide (k ∈ rdE d ra) && decide (k ∈ wrE rb) else decide (k ∈ wrE ra) && decide (k ∈ rdE d rb)) s (i + 1) = true then _ else _ at ih
    generalize anyUp (fun k => if kdOf d.elements k = 1 then decide (k ∈ rdE d ra) && decide (k ∈ wrE rb) else decide (k ∈ wrE ra) && decide (k ∈ rdE d rb)) s (i + 1) = T at *
    generalize d.elements.getD i elm0 = y at *
    generalize decide ((i : Int) ∈ wrE ra) = m1 at *
    generalize decide ((i : Int) ∈ wrE rb) = m2 at *
    generalize decide ((i : Int) ∈ rdE d ra) = m3 at *
    generalize decide ((i : Int) ∈ rdE d rb) = m4 at *
    generalize wrE ra = W1 at *
    generalize wrE rb = W2 at *
    generalize rdE d ra = R1 at *
    generalize rdE d rb = R2 at *
    by_cases hw : y.kind = 1
    · cases m3
      · simp [Yt, Y2, hlt, hg, Zn, hw, hRa, hHRa]
        exact ih _ (by simp [hws])
      · cases m2
        · simp [Yt, Y2, hlt, hg, Zn, hw, hRa, hHRa, hWb, hHWb]
          exact ih _ (by simp [hws])
        · simp [Yt, Y2, hlt, hg, Zn, hw, hRa, hHRa, hWb, hHWb]
    · cases m1
      · simp [Yt, Y2, hlt, hg, Zn, hw, hWa, hHWa]
        exact ih _ (by simp [hws])
      · cases m4
        · simp [Yt, Y2, hlt, hg, Zn, hw, hRb, hHRb, hWa, hHWa]
          exact ih _ (by simp [hws])
        · simp [Yt, Y2, hlt, hg, Zn, hw, hRb, hHRb, hWa, hHWa]
theorem any_mpK {d : Des} (hk : ∀ x ∈ d.elements, x.kind = 0 ∨ x.kind = 1) (hv : DesVal d) {ra rb : Rul} (hma : ra ∈ d.rules) (hmb : rb ∈ d.rules) : anyUp (mpK d ra rb) d.elements.length 0 = !mpR d ra rb := by
  have kd : ∀ {k : Int}, 0 ≤ k → k < (d.elements.length : Int) → kdOf d.elements k = 0 ∨ kdOf d.elements k = 1 := fun {k} h0 h1 => by
    have hlt : k.toNat < d.elements.length := by omega
    have : d.elements.getD k.toNat elm0 = d.elements[k.toNat] := by simp [hlt]
    unfold kdOf
    rw [this]
    exact hk _ (List.getElem_mem hlt)
  rw [Bool.eq_iff_iff, anyUp_iff]
  unfold mpR commonB
  rw [Bool.not_eq_true', Bool.and_eq_false_iff, Bool.not_eq_false', Bool.not_eq_false', List.any_eq_true, List.any_eq_true]
  constructor
  · rintro ⟨k, h0, h1, h2⟩
    unfold mpK at h2
    have h0' : 0 ≤ k := by omega
    have h1' : k < (d.elements.length : Int) := by omega
    split at h2
    · rename_i hw
      simp only [Bool.and_eq_true, decide_eq_true_eq] at h2
      exact .inr ⟨k, h2.1, by simp [hw, Vc, h2.2]⟩
    · rename_i hw
      simp only [Bool.and_eq_true, decide_eq_true_eq] at h2
      have : kdOf d.elements k = 0 := (kd h0' h1').resolve_right hw
      exact .inl ⟨k, h2.1, by simp [this, Vc, h2.2]⟩
  · rintro (⟨k, h1, h2⟩ | ⟨k, h1, h2⟩)
    · have hi := wrE_in' hv hma k h1
      simp only [Bool.and_eq_true, decide_eq_true_eq, Vc] at h2
      exact ⟨k, by omega, by omega, by unfold mpK; rw [if_neg (by omega)]; simp [h1, h2.2]⟩
    · have hi := rdE_in d ra k h1
      simp only [Bool.and_eq_true, decide_eq_true_eq, Vc] at h2
      exact ⟨k, by omega, by omega, by unfold mpK; rw [if_pos h2.1]; simp [h1, h2.2]⟩
theorem e_May (d : Des) (hd : DesOk d) (h0 : (desE d).2 = 0) (a b : Int) (ra rb : Rul) (ha : d.rules[a.toNat]? = some ra) (hb : d.rules[b.toNat]? = some rb) (ha0 : 0 ≤ a) (ha1 : a < (d.rules.length : Int)) (hb0 : 0 ≤ b) (hb1 : b < (d.rules.length : Int)) :
    EE π Vk [.p (Z6 d), .p (I a), .p (I b)] [] = some (.p (.bool (mpR d ra rb)), []) := by
  have hlp := may_loop (π := π) d hd (desVal h0) a b ra rb ha hb ha0 ha1 hb0 hb1 d.elements.length 0
  rw [any_mpK (desKind h0) (desVal h0) (List.mem_of_getElem? ha) (List.mem_of_getElem? hb)] at hlp
  generalize mpR d ra rb = r at *
  simp [e_rb_MayPrecede, Z0, Fh, Z6]
  rw [hlp _ (by simp) (by simp)]
  cases r <;> simp
end Go.Proofs.YteecfnfjlclhdaaGreat.V

/- RelationOf and MatrixOf. -/
namespace Go.Proofs.YteecfnfjlclhdaaGreat.V
open Go (IntKind BinOp UnOp)
variable {π : Id}
theorem first_loopC (l : List Int) (hl : l.length ≤ top63) : ∀ (suf pre : List Int) (x : Env × Sto), l = pre ++ suf → mask [5, 6, 7] [] x = some ([(5, .p (Z3 l)), (6, .p (I l.length)), (7, .p (I pre.length))], []) →
    kpO [] [2] [] (bkO 0 (iter (round EE iter π [] [5, 6, 7] Z36) x)) = (if Z8 suf = 0 then some (.nm, [], []) else some (.rt, [(2, .p (I (Z8 suf)))], []))
  | [], pre, x, h, hm => by
    rw [Z1 hm]
    subst h
    simp [Z25, Lh, Z8]
  | y :: suf, pre, x, h, hm => by
    rw [Z1 hm]
    by_cases hy : y = 0
    · simp [Z25, Lh, Z9 h, Zw _ h, hy, Z8]
      exact first_loopC l hl suf (pre ++ [y]) _ (by simp [h]) (by simp [Zc (show pre.length < l.length by have := Z9 h; omega) hl])
    · simp [Z25, Lh, Z9 h, Zw _ h, hy, Z8]
theorem e_firstC (l : List Int) (hl : l.length ≤ top63) : EE π Lu [.p (Z3 l)] [] = some (.p (I (Z8 l)), []) := by
  simp [e_cf_first, Z0, c_cf_first]
  rw [first_loopC l hl l [] _ rfl (by simp)]
  by_cases hf : Z8 l = 0 <;> simp [hf]
theorem e_first2C (a b : Int) : EE π Lu [.p (.sl 1 none [I a, I b])] [] = some (.p (I (Z8 [a, b])), []) := e_firstC [a, b] (by simp [top63])
def rul0 : Rul := ⟨⟨#[]⟩, 0, []⟩
def rulAt (d : Des) (n : Int) : Rul := d.rules.getD n.toNat rul0
theorem rulAt_get {d : Des} {n : Int} (h0 : 0 ≤ n) (h1 : n < (d.rules.length : Int)) : d.rules[n.toNat]? = some (rulAt d n) := by
  have : n.toNat < d.rules.length := by omega
  simp [rulAt, this]
end Go.Proofs.YteecfnfjlclhdaaGreat.V

/- Sorted values of a list. -/
namespace Go.Proofs.YteecfnfjlclhdaaGreat.V
open Go (IntKind BinOp UnOp)
variable {π κ : Id}
abbrev frS (π : Id) (st : FSt) : Id × Blk := (2000000 :: π, .frm π 13 [(2, .ref (2 :: π) 0)] [7] Ww Wv st)
abbrev stSq (π : Id) (l : List Int) : Sto := [rowL (100002 :: π) l, (2 :: π, .box false [.ap (100002 :: π)])]
abbrev k0S (π : Id) : List Id := [2000000 :: π, 100002 :: π, 2 :: π]
theorem seq_round (x : Int) (l : List Int) (hl : l.length + 1 ≤ room) :
    EE κ Z2 [.p (I x), .yld (2000000 :: π)] (frS π .ready :: stSq π l) = some (.p (.bool true), frS π .ready :: stSq π (l ++ [x])) := by
  rw [e_yldB]
  simp [runY, Fx, Wz, Fw, Wy, hl, Y3]
theorem seq_loop (l : List Int) (hl : l.length ≤ 1000) : ∀ (suf pre : List Int) (x : Env × Sto), l = pre ++ suf →
    mask [0, 5, 6, 7] (k0S π) x = some ([(0, .yld (2000000 :: π)), (5, .p (Z3 l)), (6, .p (I l.length)), (7, .p (I pre.length))], frS π .ready :: stSq π pre) →
    kpO [] [] (k0S π) (bkO 0 (iter (round EE iter κ (k0S π) [0, 5, 6, 7] Vq) x)) = some (.nm, [], frS π .ready :: stSq π l)
  | [], pre, x, h, hm => by
    rw [Z1 hm]
    have : pre = l := by simpa using h.symm
    subst this
    simp [Np, Xu]
  | y :: suf, pre, x, h, hm => by
    rw [Z1 hm]
    have hlt := Z9 h
    have hws := Zc (show pre.length < l.length by omega) (show l.length ≤ top63 by simp only [top63]; omega)
    have ih := fun x => seq_loop l hl suf (pre ++ [y]) x
    have hc := fun κ => seq_round (κ := κ) (π := π) y pre (by simp only [room]; omega)
    simp [Np, Xu, hlt, Zw _ h, hc]
    exact ih _ (by simp [h]) (by simp [hws])
theorem e_Values1 (l : List Int) (hl : l.length ≤ 1000) : EE κ Zr [.yld (2000000 :: π), .p (.ptr [Z3 l])] (frS π .ready :: stSq π []) = some (.p (.tup []), frS π .ready :: stSq π l) := by
  have hlp := seq_loop (κ := κ) (π := π) l hl l []
  simp [e_sl_Values_int_int_1, Z0, Qs]
  rw [hlp _ rfl (by simp)]
  simp
theorem e_AppendSeq (l : List Int) (hl : l.length ≤ 1000) : EE π Wo [.p (.sl 1 (some true) []), .p (.fn Zr [.ptr [Z3 l]])] [] = some (.ap (100002 :: π), [rowL (100002 :: π) l]) := by
  have hv : ∀ κ, EE κ Zr [.yld (2000000 :: π), .p (.ptr [Z3 l])] [frS π .ready, (100002 :: π, .row false t_int 1 (some true) []), (2 :: π, .box false [.ap (100002 :: π)])] = _ := fun κ => e_Values1 (κ := κ) (π := π) l hl
  simp [e_sl_AppendSeq_int_int, Z0, Us, thaw, thaw1, evC_rf, fnOf, hv]
theorem e_Sorted (l : List Int) (hl : l.length ≤ 1000) : EE π Qg [.p (.fn Zr [.ptr [Z3 l]])] [] = some (.ap (100002 :: 4 :: 5 :: π), [rowL (100002 :: 4 :: 5 :: π) (sortI l)]) := by
  have ha := fun π => e_AppendSeq (π := π) l hl
  have hro : l.length ≤ room := by simp only [room]; omega
  have hfl : flagE (sortI l) = flagE l := by
    cases l with
    | nil => rfl
    | cons a r => have := (Yf (a :: r)).length_eq; cases h : sortI (a :: r) with
      | nil => rw [h] at this; simp at this
      | cons b s => rfl
  simp [e_sl_Sorted_int, Z0, Ff, e_sl_Collect_int, Hn, ha, Z4, Lr, sortO, hro, hfl]
end Go.Proofs.YteecfnfjlclhdaaGreat.V

/- Rules of a design, opened; the order of some rules, by the program. -/
namespace Go.Proofs.YteecfnfjlclhdaaGreat.V
open Go (IntKind BinOp UnOp)
variable {π κ : Id}
def rlsE (d : Des) (rules : List Int) : Int × Int := eachE (fun i r => Z8 [Lj d r, unlE (!memB (rules.take i) r) 23]) 0 rules
def rulsE (d : Des) (rules : List Int) : Int := if d.rules.length < rules.length then 8 else (rlsE d rules).2
def orE (d : Des) (rules : List Int) : Int := if (desE d).2 = 0 then rulsE d rules else (desE d).2
abbrev zShr : PV := .agg [.str ⟨#[]⟩, .sl 2 (some true) [], .sl 5 (some true) [], .sl 4 (some true) [], .sl 3 (some true) [], .sl 2 (some true) [], .sl 2 (some true) [], .sl 1 (some true) [], .sl 1 (some true) [], .sl 1 (some true) []]
theorem e_openRules1 (d : Des) (hd : d.rules.length ≤ 1000) (rules : List Int) (hr : rules.length ≤ 1000) (i : Nat) (r : Int) (hi : i ≤ rules.length) :
    EE π Uf [.p (I i), .p (I r), .p (.ptr (netCells d)), .p (.ptr [Z3 rules])] [] = some (.p (I (Z8 [Lj d r, unlE (!memB (rules.take i) r) 23])), []) := by
  have h := fun π => e_ruleErrC (π := π) d hd r
  have hc := fun π => e_Contains (π := π) (rules.take i) (by rw [List.length_take]; simp only [top63]; omega) r
  have hi' : (i : Int) ≤ rules.length := by omega
  simp only [Z3, ints, List.map_take] at hc
  generalize memB (rules.take i) r = m at *
  generalize Lj d r = E at *
  simp [e_cf_openRules_1, Z0, Hx, h, hi, hc, Mn, e_first2C, evRO, Z4]
abbrev shA' (π : Id) (d : Des) : AV := .agg [.p (.str d.name), .p (X8 d.inputs), .p (Xk d.elements), .p (Z7 d.nodes), .p (Qq d.rules), .p (Vp d.outputs), .p (Qr d.attrs), .p (Z3 (dlv d)), .ap (900003 :: 38 :: π), .ap (1000003 :: 38 :: π)]
theorem e_openRules (d : Des) (hd : DesOk d) (rules : List Int) (hr : rules.length ≤ 1000) :
    EE π Un [.p (Z6 d), .p (Z3 rules)] [] = if orE d rules = 0 then some (.tup [shA' π d, .p (I 0)], shS (38 :: π) d) else some (.p (.tup [zShr, I (orE d rules)]), []) := by
  have ho := fun π => e_openC (π := π) d hd [] (by simp)
  have hE : opE d [] = (desE d).2 := by unfold opE eachE; split <;> simp_all
  have hea := fun π => e_eachC (π := π) rules (by simp only [top63]; omega) (f := Uf) (caps := [.ptr (netCells d), .ptr [Z3 rules]]) (err := fun i r => Z8 [Lj d r, unlE (!memB (rules.take i) r) 23]) (fun i x hx => by
    have hi : i < rules.length := (List.getElem?_eq_some_iff.1 hx).1
    simpa using e_openRules1 d hd.rules rules hr i x (by omega))
  rw [hE] at ho
  unfold Z6 at ho
  simp only [List.map_nil, Z3, ints] at ho
  change ∀ π, _ = some (AV.p (PV.tup [I (rlsE d rules).1, I (rlsE d rules).2]), _) at hea
  unfold orE rulsE
  by_cases h0 : (desE d).2 = 0
  · have hs := fun π => e_shared (π := π) d hd (desVal h0)
    rw [h0] at ho
    by_cases h1 : d.rules.length < rules.length
    · have h1' : ¬ (rules.length : Int) ≤ d.rules.length := by omega
      simp [Kq, Z0, Uo, Z6, ho, Z4, h0, h1, h1', Mn, e_first2C, unlE, Z8]
    · have h1' : (rules.length : Int) ≤ d.rules.length := by omega
      generalize rlsE d rules = R at *
      by_cases h2 : R.2 = 0
      · simp [Kq, Z0, Uo, Z6, ho, Z4, h0, h1, h1', Mn, e_first2C, unlE, Z8, hea, h2, hs]
      · simp [Kq, Z0, Uo, Z6, ho, Z4, h0, h1, h1', Mn, e_first2C, unlE, Z8, hea, h2]
  · generalize (desE d).2 = E at *
    simp [Kq, Z0, Uo, Z6, ho, Z4, h0, Mn, e_first2C, Z8]
def mpI (d : Des) (a b : Int) : Bool := mpR d (rulAt d a) (rulAt d b)
theorem e_mayI (d : Des) (hd : DesOk d) (hv : DesVal d) (a b : Int) (ha0 : 0 ≤ a) (ha1 : a < (d.rules.length : Int)) (hb0 : 0 ≤ b) (hb1 : b < (d.rules.length : Int)) :
    EE π Y0 [.p (encShr d), .p (I a), .p (I b)] [] = some (.p (.bool (mpI d a b)), []) :=
  e_mayC d hd hv a b _ _ (rulAt_get ha0 ha1) (rulAt_get hb0 hb1) ha0 ha1 hb0 hb1
def fstB (d : Des) (r : Int) (l : List Int) : Bool := !(l.any fun o => decide (o ≠ r) && !mpI d r o)
abbrev inR (d : Des) (l : List Int) : Prop := ∀ n ∈ l, 0 ≤ n ∧ n < (d.rules.length : Int)
theorem e_isFirst1 (d : Des) (hd : DesOk d) (hv : DesVal d) (r o : Int) (h0 : 0 ≤ r ∧ r < (d.rules.length : Int)) (h1 : 0 ≤ o ∧ o < (d.rules.length : Int)) :
    EE π Vn [.p (I o), .p (.ptr [I r]), .p (.ptr (shLs d))] [] = some (.p (.bool (decide (o ≠ r) && !mpI d r o)), []) := by
  have hm := fun π => e_mayI (π := π) d hd hv r o h0.1 h0.2 h1.1 h1.2
  generalize mpI d r o = m at *
  by_cases h : o = r
  · simp [Z1u, Z0, Pb, h]
  · simp [Z1u, Z0, Pb, h, hm]
theorem e_isFirst (d : Des) (hd : DesOk d) (hv : DesVal d) (r : Int) (l : List Int) (hl : l.length ≤ 1000) (h0 : 0 ≤ r ∧ r < (d.rules.length : Int)) (h1 : inR d l) :
    EE π Qm [.p (encShr d), .p (I r), .p (Z3 l)] [] = some (.p (.bool (fstB d r l)), []) := by
  have hc := fun π => e_CoFI (π := π) l (by simp only [top63]; omega) (f := Vn) (caps := [.ptr [I r], .ptr (shLs d)]) (p := fun o => decide (o ≠ r) && !mpI d r o) (fun x hx => by
    have := e_isFirst1 (π := 16 :: 7 :: π) d hd hv r x h0 (h1 x hx)
    simpa using this)
  unfold fstB
  generalize (l.any fun o => decide (o ≠ r) && !mpI d r o) = b at *
  simp [e_cf_sh_isFirst, Z0, Fo, hc, Z4]
theorem e_OrderFor1 (d : Des) (hd : DesOk d) (hv : DesVal d) (r : Int) (l : List Int) (hl : l.length ≤ 1000) (h0 : 0 ≤ r ∧ r < (d.rules.length : Int)) (h1 : inR d l) :
    EE π Qo [.p (I r), .p (.ptr (shLs d)), .p (.ptr [Z3 l])] [] = some (.p (.bool (fstB d r l)), []) := by
  have h := fun π => e_isFirst (π := π) d hd hv r l hl h0 h1
  generalize fstB d r l = b at *
  simp [e_cf_OrderFor_1, Z0, Fr, h]
end Go.Proofs.YteecfnfjlclhdaaGreat.V

/- The order of some rules, by the program. -/
namespace Go.Proofs.YteecfnfjlclhdaaGreat.V
open Go (IntKind BinOp UnOp)
variable {π κ : Id}
def ordG (d : Des) : Nat → List Int → List Int → Option (List Int)
  | 0, _, acc => some acc
  | n + 1, l, acc => if idxOf (fun r => fstB d r l) 0 l = -1 then none else
      ordG d n (delI l (idxOf (fun r => fstB d r l) 0 l).toNat ((idxOf (fun r => fstB d r l) 0 l).toNat + 1)) (acc ++ [l.getD (idxOf (fun r => fstB d r l) 0 l).toNat 0])
theorem e_Values (l : List Int) : EE π Wd [.p (Z3 l)] [] = some (AV.mkFn Zr [.ref (1 :: π) 0], [(1 :: π, .box false [.p (Z3 l)])]) := by
  simp [e_sl_Values_int_int, Z0, Nd]
abbrev idL (π : Id) : Id := 100002 :: 4 :: 5 :: 22 :: π
abbrev stO (π : Id) (d : Des) (nl : Option Bool) (l acc : List Int) : Sto := [rowL (1009 :: π) acc, (8 :: π, .box false [.ap (idL π)]), (idL π, .row false t_int 1 nl (l.map I)), (6 :: π, .box false [AV.p (PV.str d.name), AV.p (X8 d.inputs), AV.p (Xk d.elements),
  AV.p (Z7 d.nodes), AV.p (Qq d.rules), AV.p (Vp d.outputs), AV.p (Qr d.attrs), AV.p (Z3 (dlv d)),
  AV.p (PV.sl 1 (flagE (List.map (rdP d) d.rules)) (List.map (rdP d) d.rules)), AV.p (PV.sl 1 (flagE (List.map wrP d.rules)) (List.map wrP d.rules))])]
theorem Z2f {α : Type} (p : α → Bool) : ∀ (i : Nat) (l : List α), idxOf p i l = -1 ∨ ((i : Int) ≤ idxOf p i l ∧ idxOf p i l < i + l.length)
  | _, [] => .inl rfl
  | i, x :: r => by
    have := Z2f p (i + 1) r
    simp only [idxOf, List.length_cons]
    split
    · right; omega
    · omega
theorem ord_loop (d : Des) (hd : DesOk d) (hv : DesVal d) : ∀ (n : Nat) (l acc : List Int) (nl : Option Bool) (x : Env × Sto), l.length = n → acc.length + n ≤ 1000 → inR d l →
    mask [6, 8, 9] [] x = some ([(6, .ref (6 :: π) 0), (8, .ref (8 :: π) 0), (9, .ap (1009 :: π))], stO π d nl l acc) →
    kpO [9] [4, 5] [] (bkO 0 (iter (round EE iter π [] [6, 8, 9] Hz) x)) = (match ordG d n l acc with
      | some o => some (.nm, [(9, .ap (1009 :: π))], [rowL (1009 :: π) o])
      | none => some (.rt, [(4, .p (.sl 1 (some true) [])), (5, .p (I 27))], []))
  | 0, l, acc, nl, x, hn, ha, hr, hm => by
    rw [Z1 hm]
    have : l = [] := List.length_eq_zero_iff.1 hn
    subst this
    simp [Hk, Um, ordG]
  | n + 1, l, acc, nl, x, hn, ha, hr, hm => by
    rw [Z1 hm]
    have hl : l.length ≤ 1000 := by omega
    have hpos : 0 < l.length := by omega
    have hne : l ≠ [] := by intro h; subst h; simp at hn
    have hi := fun π => e_IxFI (π := π) l (by simp only [top63]; omega) (f := Qo) (caps := [.ptr (shLs d), .ptr [Z3 l]]) (p := fun r => fstB d r l) (fun x hx => by
      have := e_OrderFor1 (π := 16 :: π) d hd hv x l hl (hr x hx) hr
      simpa using this)
    have hb := Z2f (fun r => fstB d r l) 0 l
    simp only [ordG]
    generalize idxOf (fun r => fstB d r l) 0 l = i at *
    by_cases h : i = -1
    · simp [Hk, Um, fgL_rd, fgL_wr, hi, h, hpos, Z4]
    · obtain ⟨j, rfl⟩ : ∃ j : Nat, i = j := ⟨i.toNat, by omega⟩
      have hj : j < l.length := by omega
      have hjn : ¬ ((j : Int) < 0) := by omega
      have hj1 : (j : Int) ≤ j + 1 := by omega
      have hj2 : (j : Int) + 1 ≤ l.length := by omega
      have hro : acc.length + 1 ≤ room := by simp only [room]; omega
      have hrl : l.length ≤ room := by simp only [room]; omega
      have hw : IntKind.i64.wrap ((j : Int) + 1) = (j + 1 : Nat) := Zc hj (by simp only [top63]; omega)
      have hg : l[j]? = some l[j] := by simp [hj]
      simp [Hk, Um, fgL_rd, fgL_wr, hi, h, hpos, hj, hj1, hj2, hjn, hro, hrl, hw, hg, hne, Y3, Z4, o_sl_Delete_int_int, delO]
      refine ord_loop d hd hv n (delI l j (j + 1)) (acc ++ [l[j]]) nl _ (by rw [delI_len (by omega) (by omega)]; omega) (by simp; omega) (fun x hx => hr x ?_) (by simp [Y3])
      simp only [delI, List.mem_append] at hx
      rcases hx with hx | hx
      · exact List.mem_of_mem_take hx
      · exact List.mem_of_mem_drop hx
theorem orE_val {d : Des} {rules : List Int} (h : orE d rules = 0) : DesVal d ∧ rules.length ≤ d.rules.length ∧ inR d rules ∧ rules.Nodup := by
  unfold orE at h
  by_cases h0 : (desE d).2 = 0
  · rw [if_pos h0] at h
    unfold rulsE at h
    split at h
    · simp at h
    · have hall := eachE_all h
      refine ⟨desVal h0, by omega, ?_, ?_⟩
      · intro n hn
        obtain ⟨k, hk⟩ := List.mem_iff_getElem?.1 hn
        have := hall k n hk
        simp only [Zl, Lj] at this
        rw [Li (by decide), Zy] at this
        omega
      · refine List.pairwise_iff_getElem.2 (fun i j hi hj hij he => ?_)
        have hk : rules[j]? = some rules[j] := by simp [hj]
        have := hall j _ hk
        simp only [Zl] at this
        have := (Li (by decide)).1 this.2.1
        simp only [Bool.not_eq_true', ← Bool.not_eq_true, Vc, Nat.zero_add] at this
        exact this (List.mem_of_getElem? (i := i) (by rw [List.getElem?_take, if_pos hij, ← he]; simp [hi]))
  · rw [if_neg h0] at h; exact absurd h h0
theorem e_OrderFor (d : Des) (hd : DesOk d) (rules : List Int) (hr : rules.length ≤ 1000) :
    EE π U6 [.p (Z6 d), .p (Z3 rules)] [] = if orE d rules = 0 then (match ordG d rules.length (sortI rules) [] with
      | some o => some (.tup [.ap (1009 :: π), .p (I 0)], [rowL (1009 :: π) o])
      | none => some (.p (.tup [.sl 1 (some true) [], I 27]), [])) else some (.p (.tup [.sl 1 (some true) [], I (orE d rules)]), []) := by
  have ho := fun π => e_openRules (π := π) d hd rules hr
  have hS := fun π => e_Sorted (π := π) rules hr
  have hV := fun π => e_Values (π := π) rules
  unfold Z6 at ho
  simp only [Z3, ints] at hV hS ho
  by_cases h0 : orE d rules = 0
  · simp only [h0, if_true] at ho ⊢
    have hv := orE_val h0
    have hlp := fun x => ord_loop (π := π) d hd hv.1 rules.length (sortI rules) [] (flagE (sortI rules)) x (Yf rules).length_eq (by simpa using hr) (fun n hn => hv.2.2.1 n ((Yf rules).mem_iff.1 hn))
    simp [e_cf_OrderFor, Z0, Gf, Z6, ho, Z4, hV, AV.mkFn, hS, thaw, thaw1]
    rw [hlp _ (by simp; rfl)]
    cases ordG d rules.length (sortI rules) [] with
    | none => simp
    | some o => simp
  · simp only [h0, if_false] at ho ⊢
    simp [e_cf_OrderFor, Z0, Gf, Z6, ho, Z4, h0]
end Go.Proofs.YteecfnfjlclhdaaGreat.V

/- The check of an order, by the program. -/
namespace Go.Proofs.YteecfnfjlclhdaaGreat.V
open Go (IntKind BinOp UnOp)
variable {π κ : Id}
def ckE (d : Des) (rules : List Int) (i : Nat) (r : Int) : Int := unlE (fstB d r (rules.drop i)) 29
theorem e_CheckOrder1 (d : Des) (hd : DesOk d) (hv : DesVal d) (rules : List Int) (hr : rules.length ≤ 1000) (hin : inR d rules) (i : Nat) (hi : i ≤ rules.length) (r : Int) (h0 : 0 ≤ r ∧ r < (d.rules.length : Int)) :
    EE π Vo [.p (I i), .p (I r), .p (.ptr (shLs d)), .p (.ptr [Z3 rules])] [] = some (.p (I (ckE d rules i r)), []) := by
  have hc := fun π => e_isFirst (π := π) d hd hv r (rules.drop i) (by rw [List.length_drop]; omega) h0 (fun n hn => hin n (List.mem_of_mem_drop hn))
  have hi' : (i : Int) ≤ rules.length := by omega
  have hdr : List.take (rules.length - i) (PV.fg.PV.fgL (List.drop i (ints rules))) = ints (rules.drop i) := by
    rw [show List.drop i (ints rules) = ints (rules.drop i) from (List.map_drop ..).symm, fgL_ints, List.take_of_length_le (by simp)]
  simp only [Z3, ints, List.map_drop] at hc
  unfold ckE
  generalize fstB d r (rules.drop i) = m at *
  simp [e_cf_CheckOrder_1, Z0, Kd, hi, hi', hdr, hc, Mn]
theorem e_CheckOrder (d : Des) (hd : DesOk d) (rules : List Int) (hr : rules.length ≤ 1000) :
    EE π Mi [.p (Z6 d), .p (Z3 rules)] [] = if orE d rules = 0 then some (.p (.tup [I (eachE (ckE d rules) 0 rules).1, I (eachE (ckE d rules) 0 rules).2]), []) else some (.p (.tup [I 0, I (orE d rules)]), []) := by
  have ho := fun π => e_openRules (π := π) d hd rules hr
  unfold Z6 at ho
  simp only [Z3, ints] at ho
  by_cases h0 : orE d rules = 0
  · have hv := orE_val h0
    have hea := fun π => e_eachC (π := π) rules (by simp only [top63]; omega) (f := Vo) (caps := [.ptr (shLs d), .ptr [Z3 rules]]) (err := ckE d rules) (fun i x hx => by
      have hi : i < rules.length := (List.getElem?_eq_some_iff.1 hx).1
      have := e_CheckOrder1 (π := 19 :: π) d hd hv.1 rules hr hv.2.2.1 i (by omega) x (hv.2.2.1 x (List.mem_of_getElem? hx))
      simpa using this)
    simp only [h0, if_true] at ho ⊢
    generalize eachE (ckE d rules) 0 rules = R at *
    simp [e_cf_CheckOrder, Z0, L6, Z6, ho, Z4, fgL_rd, fgL_wr, hea]
  · simp only [h0, if_false] at ho ⊢
    simp [e_cf_CheckOrder, Z0, L6, Z6, ho, Z4, h0]
end Go.Proofs.YteecfnfjlclhdaaGreat.V

/- The reference's errors of some rules, and of an order of some. -/
namespace Go.Proofs.YteecfnfjlclhdaaGreat.V
open Go (IntKind BinOp UnOp)
variable {π κ : Id}
theorem memB_dec (l : List Int) (x : Int) : memB l x = decide (x ∈ l) := by rw [Bool.eq_iff_iff, Vc, decide_eq_true_iff]
def rl1E (d : Des) (rules : List Int) (i : Nat) (r : Int) : Int := Z8 [Lj d r, unlE (!memB (rules.take i) r) 23]
theorem rls_loop (d : Des) (hd : d.rules.length ≤ 1000) (rules : List Int) (hl : rules.length ≤ 1000) :
    ∀ (suf pre : List Int) (x : Env × Sto), rules = pre ++ suf → mask [1, 2, 5] [] x = some ([(1, .p (Z3 rules)), (2, .ref (2 :: π) 0), (5, .p (I pre.length))], [Zt (2 :: π) d]) →
    kpO [] [4] [] (bkO 0 (iter (round EE iter π [] [1, 2, 5] Mt) x)) = (if (eachE (rl1E d rules) pre.length suf).2 = 0 then some (.nm, [], []) else some (.rt, [(4, .p (I (eachE (rl1E d rules) pre.length suf).2))], []))
  | [], pre, x, h, hm => by
    rw [Z1 hm]
    have : pre = rules := by simpa using h.symm
    subst this
    simp [Uu, Xv, eachE]
  | y :: suf, pre, x, h, hm => by
    rw [Z1 hm]
    have hlt := Z9 h
    have hltn : pre.length < rules.length := by omega
    have hg : rules[pre.length]? = some y := by rw [h]; simp
    have hge : rules[pre.length] = y := by simpa [hltn] using hg
    have hlen : pre.length ≤ rules.length := by omega
    have hle : (pre.length : Int) ≤ rules.length := by omega
    have hws := Zc hltn (show rules.length ≤ top63 by simp only [top63]; omega)
    have ih := fun x => rls_loop d hd rules hl suf (pre ++ [y]) x
    have hR := fun π => e_RuleErr (π := π) d hd y
    have hH := fun π => e_Has (π := π) (rules.take pre.length) (by rw [List.length_take]; omega) y
    unfold Z6 at hR
    simp only [Z3, ints, List.map_take] at hH
    rw [← memB_dec] at hH
    have hst : eachE (rl1E d rules) pre.length (y :: suf) = if rl1E d rules pre.length y = 0 then eachE (rl1E d rules) (pre ++ [y]).length suf else (pre.length, rl1E d rules pre.length y) := by
      rw [eachE]; simp
    have h1 : rl1E d rules pre.length y = Z8 [Lj d y, unlE (!memB (rules.take pre.length) y) 23] := rfl
    rw [hst, h1]
    generalize memB (rules.take pre.length) y = m at *
    generalize Lj d y = E at *
    by_cases hE : E = 0
    · cases m
      · simp [Uu, Xv, hlt, hltn, hle, hlen, hg, hge, hR, hH, hE, evRO, Z8, unlE]
        rw [ih _ (by simp [h]) (by simp [hws])]
        simp
      · simp [Uu, Xv, hlt, hltn, hle, hlen, hg, hge, hR, hH, hE, evRO, Z8, unlE]
    · simp [Uu, Xv, hlt, hltn, hle, hlen, hg, hge, hR, hH, hE, evRO, Z8, unlE]
theorem e_RulesErr (d : Des) (hd : DesOk d) (rules : List Int) (hr : rules.length ≤ 1000) : EE π Xj [.p (Z6 d), .p (Z3 rules)] [] = some (.p (I (rulsE d rules)), []) := by
  have hlp := rls_loop (π := π) d hd.rules rules hr rules []
  have h1 : rlsE d rules = eachE (rl1E d rules) 0 rules := rfl
  unfold rulsE
  rw [h1]
  by_cases h : d.rules.length < rules.length
  · simp [Fb, Z0, Qv, Z6, h]
  · simp [Fb, Z0, Qv, Z6, h]
    rw [hlp _ rfl (by simp)]
    simp only [List.length_nil]
    generalize eachE (rl1E d rules) 0 rules = R at *
    by_cases h2 : R.2 = 0
    · simp [h2]
    · simp [h2]
end Go.Proofs.YteecfnfjlclhdaaGreat.V

/- The reference's check of an order. -/
namespace Go.Proofs.YteecfnfjlclhdaaGreat.V
open Go (IntKind BinOp UnOp)
variable {π κ : Id}
theorem e_MayR (d : Des) (hd : DesOk d) (h0 : (desE d).2 = 0) (a b : Int) (ha : 0 ≤ a ∧ a < (d.rules.length : Int)) (hb : 0 ≤ b ∧ b < (d.rules.length : Int)) :
    EE π Vk [.p (Z6 d), .p (I a), .p (I b)] [] = some (.p (.bool (mpI d a b)), []) :=
  e_May d hd h0 a b _ _ (rulAt_get ha.1 ha.2) (rulAt_get hb.1 hb.2) ha.1 ha.2 hb.1 hb.2
end Go.Proofs.YteecfnfjlclhdaaGreat.V

/- The reference's cycles. -/
namespace Go.Proofs.YteecfnfjlclhdaaGreat.V
open Go (IntKind BinOp UnOp)
variable {π κ : Id}
def prv (n i : Nat) : Nat := if i = 0 then n - 1 else i - 1
def cyB (d : Des) (l : List Int) : Nat → List Int → Bool
  | _, [] => true
  | i, y :: r => if memB (l.take i) y = true then false else if mpI d y (l.getD (prv l.length i) 0) = true then false else cyB d l (i + 1) r
theorem cyc_loop (d : Des) (hd : DesOk d) (h0 : (desE d).2 = 0) (l : List Int) (hl : l.length ≤ 1000) (hin : inR d l) :
    ∀ (suf pre : List Int) (x : Env × Sto), l = pre ++ suf → mask [1, 2, 5] [] x = some ([(1, .p (Z3 l)), (2, .ref (2 :: π) 0), (5, .p (I pre.length))], [Zt (2 :: π) d]) →
    kpO [1] [4] [] (bkO 0 (iter (round EE iter π [] [1, 2, 5] Lz) x)) = (if cyB d l pre.length suf = true then some (.nm, [(1, .p (Z3 l))], []) else some (.rt, [(4, .p (.bool false))], []))
  | [], pre, x, h, hm => by
    rw [Z1 hm]
    have : pre = l := by simpa using h.symm
    subst this
    simp [P3, Wa, cyB]
  | y :: suf, pre, x, h, hm => by
    rw [Z1 hm]
    have hlt := Z9 h
    have hltn : pre.length < l.length := by omega
    have hg : l[pre.length]? = some y := by rw [h]; simp
    have hge : l[pre.length] = y := by simpa [hltn] using hg
    have hlen : pre.length ≤ l.length := by omega
    have hle : (pre.length : Int) ≤ l.length := by omega
    have hws := Zc hltn (show l.length ≤ top63 by simp only [top63]; omega)
    have ih := fun x => cyc_loop d hd h0 l hl hin suf (pre ++ [y]) x
    have hp : prv l.length pre.length < l.length := by unfold prv; split <;> omega
    have hpi : ((prv l.length pre.length : Nat) : Int) < l.length := by omega
    have hw1 : IntKind.i64.wrap ((pre.length : Int) + l.length) = ((pre.length + l.length : Nat) : Int) := wrap64 (by omega) (by omega)
    have hrem : (pre.length + l.length - 1) % l.length = prv l.length pre.length := by
      unfold prv
      split
      · rename_i hz; rw [hz, Nat.zero_add, Nat.mod_eq_of_lt (by omega)]
      · rw [show pre.length + l.length - 1 = (pre.length - 1) + l.length by omega, Nat.add_mod_right, Nat.mod_eq_of_lt (by omega)]
    have hne : l ≠ [] := by intro hh; rw [hh] at hltn; simp at hltn
    have hq : (IntKind.i64.wrap ((pre.length : Int) + l.length - 1)).tmod l.length = ((prv l.length pre.length : Nat) : Int) := by
      rw [wrap64 (by omega) (by omega), ← hrem, Int.natCast_emod, show ((pre.length + l.length - 1 : Nat) : Int) = (pre.length : Int) + l.length - 1 by omega]
      exact Int.tmod_eq_emod_of_nonneg (by omega)
    have hM := fun π => e_MayR (π := π) d hd h0 y l[prv l.length pre.length] (hin y (by rw [h]; simp)) (hin _ (List.getElem_mem hp))
    have hH := fun π => e_Has (π := π) (l.take pre.length) (by rw [List.length_take]; omega) y
    unfold Z6 at hM
    simp only [Z3, ints, List.map_take] at hH
    rw [← memB_dec] at hH
    have hst : cyB d l pre.length (y :: suf) = if memB (l.take pre.length) y = true then false else if mpI d y l[prv l.length pre.length] = true then false else cyB d l (pre ++ [y]).length suf := by
      rw [cyB]; simp [hp]
    rw [hst]
    generalize memB (l.take pre.length) y = m at *
    generalize mpI d y l[prv l.length pre.length] = t at *
    cases m
    · cases t
      · simp [P3, Wa, hlt, hltn, hle, hlen, hg, hge, hw1, hq, hne, hp, hpi, hM, hH, evRO]
        rw [ih _ (by simp [h]) (by simp [hws])]
        simp
      · simp [P3, Wa, hlt, hltn, hle, hlen, hg, hge, hw1, hq, hne, hp, hpi, hM, hH, evRO]
    · simp [P3, Wa, hlt, hltn, hle, hlen, hg, hge, hw1, hq, hne, hp, hpi, hM, hH, evRO]
def isCyc (d : Des) (l : List Int) : Bool := cyB d l 0 l && decide (1 < l.length)
theorem e_IsCycle (d : Des) (hd : DesOk d) (h0 : (desE d).2 = 0) (l : List Int) (hl : l.length ≤ 1000) (hin : inR d l) :
    EE π Kg [.p (Z6 d), .p (Z3 l)] [] = some (.p (.bool (isCyc d l)), []) := by
  have hlp := cyc_loop (π := π) d hd h0 l hl hin l []
  unfold isCyc
  simp [e_rr16_IsCycle, Z0, Z0j, Z6]
  rw [hlp _ rfl (by simp)]
  simp only [List.length_nil]
  generalize cyB d l 0 l = R at *
  cases R <;> simp <;> omega
end Go.Proofs.YteecfnfjlclhdaaGreat.V

/- The reference's order: which rule leads those not done. -/
namespace Go.Proofs.YteecfnfjlclhdaaGreat.V
open Go (IntKind BinOp UnOp)
variable {π κ : Id}
end Go.Proofs.YteecfnfjlclhdaaGreat.V

/- The reference's order of some rules. -/
namespace Go.Proofs.YteecfnfjlclhdaaGreat.V
open Go (IntKind BinOp UnOp)
variable {π κ : Id}
end Go.Proofs.YteecfnfjlclhdaaGreat.V

/- The reference's cycles of a length. -/
namespace Go.Proofs.YteecfnfjlclhdaaGreat.V
open Go (IntKind BinOp UnOp)
variable {π κ : Id}
end Go.Proofs.YteecfnfjlclhdaaGreat.V

/- The reference's cycle of some rules. -/
namespace Go.Proofs.YteecfnfjlclhdaaGreat.V
open Go (IntKind BinOp UnOp)
variable {π κ : Id}
end Go.Proofs.YteecfnfjlclhdaaGreat.V

/- Maps of numbers known. -/
namespace Go.Proofs.YteecfnfjlclhdaaGreat.V
open Go (IntKind BinOp UnOp)
variable {π κ : Id}
def entI (K : List Int) : List (PV × PV) := K.map fun k => (I k, .bool true)
def okI (k : Int) : Prop := 0 ≤ k ∧ k < 1000000
def posI (s : Int) : List Int → Nat
  | [] => 0
  | a :: r => if a = s then 0 else posI s r + 1
theorem wfI {k : Int} (h : okI k) : (Lit.int .i64 k).wf = true := by
  unfold okI at h
  have h1 : IntKind.i64.min = -9223372036854775808 := rfl
  simp [Lit.wf, h1]
  omega
theorem like_int {k : Int} (h : okI k) (z : Int) : likeV (.int .i64 z) (.int .i64 k) = true := by
  simp [likeV, F6, M5, Zu, wfI h]
theorem keyV_int {k : Int} (h : okI k) : keyV (I k) = some (.int .i64 k) := by simp [keyV, cellOf, wfI h]
theorem keysLikeI : ∀ {K : List Int}, (∀ s ∈ K, okI s) → Km (.int .i64 0) (entI K) = true
  | [], _ => rfl
  | a :: r, h => by
    have h1 := keysLikeI (K := r) fun z hz => h z (by simp [hz])
    have h2 := like_int (h a (by simp)) 0
    have h3 := keyV_int (h a (by simp))
    unfold Km at h1 ⊢
    simp only [entI, List.map_cons, List.all_cons, Bool.and_eq_true]
    refine ⟨?_, h1⟩
    rw [h3]
    exact h2
theorem lookI (s : Int) : ∀ (i : Nat) {K : List Int}, (∀ x ∈ K, okI x) → lookE (.int .i64 s) i (entI K) = some (if memB K s = true then some (i + posI s K, .bool true) else none)
  | i, [], _ => by simp [lookE, entI, memB]
  | i, a :: r, hK => by
    have ih := lookI s (i + 1) (K := r) fun z hz => hK z (by simp [hz])
    have h3 := keyV_int (hK a (by simp))
    unfold entI at ih ⊢
    simp only [List.map_cons, lookE, h3]
    by_cases h : a = s
    · subst h
      simp [sameV, M5, sameB, posI, memB]
    · have hn : sameV (.int .i64 a) (.int .i64 s) = false := by simp [sameV, M5, sameB, h]
      rw [hn]
      simp only [Bool.false_eq_true, if_false]
      rw [ih]
      have hh : memB (a :: r) s = memB r s := by simp [memB]; intro e; exact absurd e.symm h
      rw [hh]
      by_cases hm : memB r s = true
      · simp [hm, posI, h]; omega
      · simp [hm]
theorem put_entI (s : Int) (K : List Int) : putE (I s) (.bool true) (entI K) none = entI (K ++ [s]) := by
  simp [putE, entI]
end Go.Proofs.YteecfnfjlclhdaaGreat.V

/- The shortest cycle through a rule, by the program: one path extended. -/
namespace Go.Proofs.YteecfnfjlclhdaaGreat.V
open Go (IntKind BinOp UnOp)
variable {π κ : Id}
abbrev pathP (p : List Int) : PV := .sl 1 (some false) (ints p)
abbrev shBx (π : Id) (d : Des) : Id × Blk := (3 :: π, .box false [AV.p (PV.str d.name), AV.p (X8 d.inputs), AV.p (Xk d.elements), AV.p (Z7 d.nodes), AV.p (Qq d.rules), AV.p (Vp d.outputs), AV.p (Qr d.attrs), AV.p (Z3 (dlv d)),
  AV.p (PV.sl 1 none (List.map (fun r => Z3 (rdE d r)) d.rules)), AV.p (PV.sl 1 none (List.map (fun r => Z3 (wrE r)) d.rules))])
abbrev arS (π : Id) (d : Des) (K : List Int) (q : List (List Int)) : Sto := [(16 :: π, .row false Wu 1 (some false) (q.map pathP)), (13 :: π, .mpb (entI K)), shBx π d]
def exT (d : Des) (i last : Int) (K : List Int) (n : Int) : Bool := decide (i < n) && (!memB K n && !mpI d n last)
def exI (d : Des) (i last : Int) (p : List Int) : List Int → List (List Int) → List Int → List Int × List (List Int)
  | K, q, [] => (K, q)
  | K, q, n :: r => if exT d i last K n = true then exI d i last p (K ++ [n]) (q ++ [p ++ [n]]) r else exI d i last p K q r
theorem ar_loop1 (d : Des) (hd : DesOk d) (hv : DesVal d) (ns : List Int) (hns : ns.length ≤ 1000) (hd2 : d.rules.length ≤ 1000) (hin : inR d ns) (i last : Int) (hla : 0 ≤ last ∧ last < (d.rules.length : Int)) (p : List Int) (hp : p.length ≤ 1001) :
    ∀ (suf pre : List Int) (K : List Int) (q : List (List Int)) (x : Env × Sto), ns = pre ++ suf → (∀ x ∈ K, okI x) → q.length + suf.length ≤ 5000 →
    mask [1, 2, 3, 7, 8, 9, 10, 42, 43, 44] [] x = some ([(1, .p (I i)), (2, .p (Z3 ns)), (3, .ref (3 :: π) 0), (7, .mp (13 :: π)), (8, .ap (16 :: π)), (9, .p (pathP p)), (10, .p (I last)), (42, .p (Z3 ns)), (43, .p (I ns.length)), (44, .p (I pre.length))], arS π d K q) →
    kpO [1, 2, 3, 7, 8] [6] [] (bkO 2 (iter (round EE iter π [] [1, 2, 3, 7, 8, 9, 10, 42, 43, 44] Ka) x)) = some (.nm, [(1, .p (I i)), (2, .p (Z3 ns)), (3, .ref (3 :: π) 0), (7, .mp (13 :: π)), (8, .ap (16 :: π))], arS π d (exI d i last p K q suf).1 (exI d i last p K q suf).2)
  | [], pre, K, q, x, h, hK, hq, hm => by
    rw [Z1 hm]
    have : pre = ns := by simpa using h.symm
    subst this
    simp [Vg, Xd, exI]
  | y :: suf, pre, K, q, x, h, hK, hq, hm => by
    rw [Z1 hm]
    have hlt := Z9 h
    have hltn : pre.length < ns.length := by omega
    have hg : ns[pre.length]? = some y := by rw [h]; simp
    have hge : ns[pre.length] = y := by simpa [hltn] using hg
    have hws := Zc hltn (show ns.length ≤ top63 by simp only [top63]; omega)
    have hy := hin y (by rw [h]; simp)
    have hyk : okI y := ⟨hy.1, by omega⟩
    have ih := fun K q x => ar_loop1 d hd hv ns hns hd2 hin i last hla p hp suf (pre ++ [y]) K q x (by simp [h])
    have hM := fun π => e_mayI (π := π) d hd hv y last hy.1 hy.2 hla.1 hla.2
    have h1 := keyV_int hyk
    have h2 := like_int hyk 0
    have h3 := keysLikeI hK
    have h4 := lookI y 0 hK
    have h5 := put_entI y K
    have h6 : keyV (I 0) = some (.int .i64 0) := rfl
    have hro : q.length + 1 ≤ room := by simp only [room]; simp at hq; omega
    have hrp0 : p.length ≤ room := by simp only [room]; omega
    have hrp : p.length + 1 ≤ room := by simp only [room]; omega
    have hst : exI d i last p K q (y :: suf) = if (decide (i < y) && (!memB K y && !mpI d y last)) = true then exI d i last p (K ++ [y]) (q ++ [p ++ [y]]) suf else exI d i last p K q suf := rfl
    rw [hst]
    have hq1 : q.length + suf.length ≤ 5000 := by simp at hq; omega
    have hK1 : ∀ x ∈ K ++ [y], okI x := fun x hx => by
      rcases List.mem_append.1 hx with hx | hx
      · exact hK x hx
      · rw [List.mem_singleton.1 hx]; exact hyk
    have ih1 := fun x => ih (K ++ [y]) (q ++ [p ++ [y]]) x hK1 (by simp at hq ⊢; omega)
    have ih2 := fun x => ih K q x hK hq1
    generalize mpI d y last = t at *
    by_cases hi : i < y
    · by_cases hmk : memB K y = true
      · rw [if_pos hmk] at h4
        simp [Vg, Xd, hlt, hltn, hg, hge, hi, hmk, h1, h2, h3, h4, h6]
        exact ih2 _ (by simp [hws])
      · rw [if_neg hmk] at h4
        cases t
        · simp [Vg, Xd, hlt, hltn, hg, hge, hi, hmk, h1, h2, h3, h4, h5, h6, hM, hro, hrp, hrp0, Z4, o_sl_Clone_int_int, cloneO, Y3]
          exact ih1 _ (by simp [hws])
        · simp [Vg, Xd, hlt, hltn, hg, hge, hi, hmk, h1, h2, h3, h4, h6, hM]
          exact ih2 _ (by simp [hws])
    · simp [Vg, Xd, hlt, hltn, hg, hge, hi]
      exact ih2 _ (by simp [hws])
end Go.Proofs.YteecfnfjlclhdaaGreat.V

/- The shortest cycle through a rule, by the program: the search. -/
namespace Go.Proofs.YteecfnfjlclhdaaGreat.V
open Go (IntKind BinOp UnOp)
variable {π κ : Id}
def unk (ns K : List Int) : Nat := (ns.filter fun x => !memB K x).length
theorem unk_snoc {ns K : List Int} {y : Int} (hy : y ∈ ns) (hK : memB K y = false) : unk ns (K ++ [y]) + 1 ≤ unk ns K := by
  unfold unk
  induction ns with
  | nil => simp at hy
  | cons a r ih =>
    have hle : ∀ l : List Int, (l.filter fun x => !memB (K ++ [y]) x).length ≤ (l.filter fun x => !memB K x).length := by
      intro l
      induction l with
      | nil => simp
      | cons b l ihl =>
        have hb : memB (K ++ [y]) b = (memB K b || decide (b = y)) := by simp [memB]
        simp only [List.filter_cons, hb]
        cases memB K b <;> cases decide (b = y) <;> simp <;> omega
    have ha : memB (K ++ [y]) a = (memB K a || decide (a = y)) := by simp [memB]
    simp only [List.filter_cons, ha]
    by_cases h : a = y
    · subst h
      simp [hK]
      have := hle r
      omega
    · have := ih (by rcases List.mem_cons.1 hy with h1 | h1; exact absurd h1.symm h; exact h1)
      cases memB K a <;> simp [h] <;> omega
structure QOk (d : Des) (ns K : List Int) (q : List (List Int)) : Prop where
  ok : ∀ x ∈ K, okI x
  pth : ∀ p ∈ q, 0 < p.length ∧ inR d p ∧ p.length + unk ns K ≤ ns.length + 1
  len : q.length + unk ns K ≤ ns.length + 1
theorem exI_ok (d : Des) (hd2 : d.rules.length ≤ 1000) (ns : List Int) (hin : inR d ns) (i last : Int) (p : List Int) (hp : inR d p) (hp0 : 0 < p.length) : ∀ (l : List Int) (K : List Int) (q : List (List Int)), (∀ x ∈ l, x ∈ ns) → QOk d ns K q → p.length + unk ns K ≤ ns.length + 1 →
    QOk d ns (exI d i last p K q l).1 (exI d i last p K q l).2 ∧ (exI d i last p K q l).2.length + unk ns (exI d i last p K q l).1 ≤ q.length + unk ns K ∧ q.length ≤ (exI d i last p K q l).2.length
  | [], K, q, _, h, _ => ⟨h, by simp [exI], by simp [exI]⟩
  | n :: r, K, q, hl, h, hpl => by
    have hn := hl n (by simp)
    have hl' : ∀ x ∈ r, x ∈ ns := fun x hx => hl x (by simp [hx])
    rw [exI]
    split
    · rename_i ht
      have hk : memB K n = false := by simp [exT] at ht; exact ht.2.1
      have hu := unk_snoc hn hk
      have hq : QOk d ns (K ++ [n]) (q ++ [p ++ [n]]) := {
        ok := fun x hx => by
          rcases List.mem_append.1 hx with hx | hx
          · exact h.ok x hx
          · rw [List.mem_singleton.1 hx]; exact ⟨(hin n hn).1, by have := (hin n hn).2; omega⟩
        pth := fun x hx => by
          rcases List.mem_append.1 hx with hx | hx
          · have := h.pth x hx; exact ⟨this.1, this.2.1, by omega⟩
          · rw [List.mem_singleton.1 hx]
            refine ⟨by simp, fun z hz => ?_, by simp; omega⟩
            rcases List.mem_append.1 hz with hz | hz
            · exact hp z hz
            · rw [List.mem_singleton.1 hz]; exact hin n hn
        len := by have := h.len; simp; omega }
      have := exI_ok d hd2 ns hin i last p hp hp0 r (K ++ [n]) (q ++ [p ++ [n]]) hl' hq (by omega)
      refine ⟨this.1, ?_, ?_⟩
      · have := this.2.1; simp at this; omega
      · have := this.2.2; simp at this; omega
    · exact exI_ok d hd2 ns hin i last p hp hp0 r K q hl' h hpl
end Go.Proofs.YteecfnfjlclhdaaGreat.V

/- The shortest cycle through a rule, by the program. -/
namespace Go.Proofs.YteecfnfjlclhdaaGreat.V
open Go (IntKind BinOp UnOp)
variable {π κ : Id}
def lastI (p : List Int) : Int := p.getD (p.length - 1) 0
def arB (d : Des) (ns : List Int) (i : Int) : Nat → List Int → List (List Int) → Option (List Int)
  | 0, _, _ => none
  | _ + 1, _, [] => none
  | n + 1, K, p :: q => if (decide (1 < p.length) && !mpI d i (lastI p)) = true then some p else arB d ns i n (exI d i (lastI p) p K (p :: q) ns).1 ((exI d i (lastI p) p K (p :: q) ns).2.drop 1)
theorem ar_loop (d : Des) (hd : DesOk d) (hv : DesVal d) (ns : List Int) (hns : ns.length ≤ 1000) (hd2 : d.rules.length ≤ 1000) (hin : inR d ns) (i : Int) (hi : 0 ≤ i ∧ i < (d.rules.length : Int)) :
    ∀ (n : Nat) (K : List Int) (q : List (List Int)) (x : Env × Sto), QOk d ns K q → q.length + unk ns K ≤ n →
    mask [1, 2, 3, 7, 8] [] x = some ([(1, .p (I i)), (2, .p (Z3 ns)), (3, .ref (3 :: π) 0), (7, .mp (13 :: π)), (8, .ap (16 :: π))], arS π d K q) →
    kpO [] [6] [] (bkO 0 (iter (round EE iter π [] [1, 2, 3, 7, 8] Kb) x)) = (match arB d ns i n K q with
      | some p => some (.rt, [(6, .p (pathP p))], [])
      | none => some (.nm, [], []))
  | 0, K, q, x, hq, hn, hm => by
    rw [Z1 hm]
    have : q = [] := List.length_eq_zero_iff.1 (by omega)
    subst this
    simp [Vh, Xe, arB]
  | n + 1, K, [], x, hq, hn, hm => by
    rw [Z1 hm]
    simp [Vh, Xe, arB]
  | n + 1, K, p :: q, x, hq, hn, hm => by
    rw [Z1 hm]
    have hpth := hq.pth p (by simp)
    have hpp := hpth.1
    have hpl : p.length ≤ 1001 := by omega
    have hne : p ≠ [] := by intro hh; rw [hh] at hpp; simp at hpp
    have hl1 : p.length - 1 < p.length := by omega
    have hl1i : ((p.length - 1 : Nat) : Int) < p.length := by omega
    have hw1 : IntKind.i64.wrap ((p.length : Int) - 1) = ((p.length - 1 : Nat) : Int) := by rw [wrap64 (by omega) (by omega)]; omega
    have hgl : p[p.length - 1]? = some (lastI p) := by simp [lastI, hl1]
    have hgel : p[p.length - 1] = lastI p := by simp [lastI, hl1]
    have hla := hpth.2.1 (lastI p) (hgel ▸ List.getElem_mem hl1)
    have hM := fun π => e_mayI (π := π) d hd hv i (lastI p) hi.1 hi.2 hla.1 hla.2
    have hex := exI_ok d hd2 ns hin i (lastI p) p hpth.2.1 hpp ns K (p :: q) (fun _ h => h) hq hpth.2.2
    have hlp := fun x => ar_loop1 (π := π) d hd hv ns hns hd2 hin i (lastI p) hla p hpl ns [] K (p :: q) x rfl hq.ok (by have := hq.len; simp at this ⊢; omega)
    have ih := fun x => ar_loop d hd hv ns hns hd2 hin i hi n (exI d i (lastI p) p K (p :: q) ns).1 ((exI d i (lastI p) p K (p :: q) ns).2.drop 1) x {
      ok := hex.1.ok
      pth := fun x hx => hex.1.pth x (List.mem_of_mem_drop hx)
      len := by have := hex.1.len; simp; omega } (by have := hex.2; simp at this hn ⊢; omega)
    have hpos : 1 ≤ (exI d i (lastI p) p K (p :: q) ns).2.length := by have := hex.2.2; simp at this; omega
    simp only [List.drop_one] at ih
    rw [arB]
    generalize exI d i (lastI p) p K (p :: q) ns = R at *
    generalize mpI d i (lastI p) = t at *
    generalize lastI p = la at *
    by_cases h1 : 1 < p.length
    · have h1i : (1 : Int) < p.length := by omega
      cases t
      · simp [Vh, Xe, hpp, hne, hl1, hl1i, hw1, hgl, hgel, h1, h1i, hM]
      · simp [Vh, Xe, hpp, hne, hl1, hl1i, hw1, hgl, hgel, h1, h1i, hM, thaw, thaw1]
        rw [hlp _ (by simp)]
        simp [hpos]
        exact ih _ (by simp [List.map_tail])
    · have h1i : ¬ (1 : Int) < p.length := by omega
      simp [Vh, Xe, hpp, hne, hl1, hl1i, hw1, hgl, hgel, h1, h1i, hM, thaw, thaw1]
      rw [hlp _ (by simp)]
      simp [hpos]
      exact ih _ (by simp [List.map_tail])
def arC (d : Des) (ns : List Int) (i : Int) : Option (List Int) := arB d ns i (ns.length + 1) [] [[i]]
theorem unk_le (ns K : List Int) : unk ns K ≤ ns.length := List.length_filter_le ..
theorem qok_start (d : Des) (ns : List Int) (i : Int) (hi : 0 ≤ i ∧ i < (d.rules.length : Int)) : QOk d ns [] [[i]] where
  ok := fun x hx => by simp at hx
  pth := fun p hp => by
    have := unk_le ns []
    rw [List.mem_singleton.1 hp]
    exact ⟨by simp, fun z hz => by rw [List.mem_singleton.1 hz]; exact hi, by simp; omega⟩
  len := by have := unk_le ns []; simp; omega
theorem e_around (d : Des) (hd : DesOk d) (hv : DesVal d) (ns : List Int) (hns : ns.length ≤ 1000) (hin : inR d ns) (i : Int) (hi : 0 ≤ i ∧ i < (d.rules.length : Int)) :
    EE π Kl [.p (encShr d), .p (I i), .p (Z3 ns)] [] = (match arC d ns i with
      | some p => some (.p (pathP p), [])
      | none => some (.p (.sl 1 (some true) []), [])) := by
  have hlp := fun x => ar_loop (π := π) d hd hv ns hns hd.rules hin i hi (ns.length + 1) [] [[i]] x (qok_start d ns i hi) (by have := unk_le ns []; simp; omega)
  simp [e_cf_sh_around, Z0, Z0z, thaw, thaw1]
  rw [hlp _ (by simp [entI])]
  change _ = (match arB d ns i (ns.length + 1) [] [[i]] with | some p => _ | none => _)
  cases arB d ns i (ns.length + 1) [] [[i]] with
  | none => simp
  | some p => simp
end Go.Proofs.YteecfnfjlclhdaaGreat.V

/- The cycle of some rules, by the program. -/
namespace Go.Proofs.YteecfnfjlclhdaaGreat.V
open Go (IntKind BinOp UnOp)
variable {π κ : Id}
def betC : Option (List Int) → Option (List Int) → Option (List Int)
  | none, b => b
  | some c, none => some c
  | some c, some b => if c.length < b.length then some c else some b
def cyF (d : Des) (l : List Int) : Option (List Int) → List Int → Option (List Int)
  | b, [] => b
  | b, i :: r => cyF d l (betC (arC d l i) b) r
def optP : Option (List Int) → PV
  | none => .sl 1 (some true) []
  | some c => pathP c
abbrev idC (π : Id) : Id := 100002 :: 4 :: 5 :: 24 :: π
abbrev stC (π : Id) (d : Des) (f : Bool) (l : List Int) : Sto := [(idC π, .row f t_int 1 (flagE l) (ints l)), (6 :: π, .box false [AV.p (PV.str d.name), AV.p (X8 d.inputs), AV.p (Xk d.elements),
  AV.p (Z7 d.nodes), AV.p (Qq d.rules), AV.p (Vp d.outputs), AV.p (Qr d.attrs), AV.p (Z3 (dlv d)),
  AV.p (PV.sl 1 (flagE (List.map (rdP d) d.rules)) (List.map (rdP d) d.rules)), AV.p (PV.sl 1 (flagE (List.map wrP d.rules)) (List.map wrP d.rules))])]
theorem cyc_loopP (d : Des) (hd : DesOk d) (hv : DesVal d) (l : List Int) (hl : l.length ≤ 1000) (hin : inR d l) :
    ∀ (suf pre : List Int) (b : Option (List Int)) (f : Bool) (x : Env × Sto), l = pre ++ suf →
    mask [6, 8, 9, 25, 26, 27] [] x = some ([(6, .ref (6 :: π) 0), (8, .ap (idC π)), (9, .p (optP b)), (25, .ap (idC π)), (26, .p (I l.length)), (27, .p (I pre.length))], stC π d f l) →
    kpO [9] [4, 5] [] (bkO 0 (iter (round EE iter π [] [6, 8, 9, 25, 26, 27] Fs) x)) = some (.nm, [(9, .p (optP (cyF d l b suf)))], [])
  | [], pre, b, f, x, h, hm => by
    rw [Z1 hm]
    have : pre = l := by simpa using h.symm
    subst this
    simp [Qd, Wm, cyF]
  | y :: suf, pre, b, f, x, h, hm => by
    rw [Z1 hm]
    have hlt := Z9 h
    have hltn : pre.length < l.length := by omega
    have hg : l[pre.length]? = some y := by rw [h]; simp
    have hge : l[pre.length] = y := by simpa [hltn] using hg
    have hws := Zc hltn (show l.length ≤ top63 by simp only [top63]; omega)
    have ih := fun b x => cyc_loopP d hd hv l hl hin suf (pre ++ [y]) b true x (by simp [h])
    have hA := fun π => e_around (π := π) d hd hv l hl hin y (hin y (by rw [h]; simp))
    rw [cyF]
    generalize arC d l y = c at *
    cases c with
    | none =>
      simp [Qd, Wm, hlt, hltn, hg, hge, hA, fgL_rd, fgL_wr, Z4]
      exact ih _ _ (by simp [hws, betC])
    | some c =>
      cases b with
      | none =>
        simp [Qd, Wm, hlt, hltn, hg, hge, hA, fgL_rd, fgL_wr, Z4, optP]
        exact ih _ _ (by simp [hws, betC, optP])
      | some b =>
        by_cases hcb : c.length < b.length
        · have hcbi : (c.length : Int) < b.length := by omega
          simp [Qd, Wm, hlt, hltn, hg, hge, hA, fgL_rd, fgL_wr, Z4, optP, hcb, hcbi]
          exact ih _ _ (by simp [hws, betC, optP, hcb])
        · have hcbi : ¬ (c.length : Int) < b.length := by omega
          simp [Qd, Wm, hlt, hltn, hg, hge, hA, fgL_rd, fgL_wr, Z4, optP, hcb, hcbi]
          exact ih _ _ (by simp [hws, betC, optP, hcb])
def cyE : Option (List Int) → Int
  | none => 12
  | some _ => 0
theorem e_CycleIn (d : Des) (hd : DesOk d) (rules : List Int) (hr : rules.length ≤ 1000) :
    EE π M3 [.p (Z6 d), .p (Z3 rules)] [] = if orE d rules = 0 then some (.p (.tup [optP (cyF d (sortI rules) none (sortI rules)), I (cyE (cyF d (sortI rules) none (sortI rules)))]), [])
      else some (.p (.tup [.sl 1 (some true) [], I (orE d rules)]), []) := by
  have ho := fun π => e_openRules (π := π) d hd rules hr
  have hS := fun π => e_Sorted (π := π) rules hr
  have hV := fun π => e_Values (π := π) rules
  unfold Z6 at ho
  simp only [Z3, ints] at hV hS ho
  by_cases h0 : orE d rules = 0
  · simp only [h0, if_true] at ho ⊢
    have hv := orE_val h0
    have hlp := fun x => cyc_loopP (π := π) d hd hv.1 (sortI rules) (by rw [(Yf rules).length_eq]; exact hr) (fun n hn => hv.2.2.1 n ((Yf rules).mem_iff.1 hn)) (sortI rules) [] none false x rfl
    generalize cyF d (sortI rules) none (sortI rules) = R at *
    simp [e_cf_CycleIn, Z0, Z0a, Z6, ho, Z4, hV, AV.mkFn, hS]
    rw [hlp _ (by simp [optP])]
    cases R with
    | none => simp [optP, cyE, Mn, unlE]
    | some c => simp [optP, cyE, Mn, unlE]
  · simp only [h0, if_false] at ho ⊢
    simp [e_cf_CycleIn, Z0, Z0a, Z6, ho, Z4, h0]
end Go.Proofs.YteecfnfjlclhdaaGreat.V

/- The greedy order is a permutation. -/
namespace Go.Proofs.YteecfnfjlclhdaaGreat.V
open Go (IntKind BinOp UnOp)
theorem delI_perm (l : List Int) (j : Nat) (h : j < l.length) : (l[j] :: delI l j (j + 1)).Perm l := by
  unfold delI
  have h1 : l = l.take j ++ l[j] :: l.drop (j + 1) := by rw [← List.drop_eq_getElem_cons h, List.take_append_drop]
  exact (List.perm_middle.symm).trans (List.Perm.of_eq h1.symm)
theorem idxOf_sat {α : Type} (p : α → Bool) : ∀ (i : Nat) (l : List α) (j : Nat), idxOf p i l = ((i + j : Nat) : Int) → ∃ h : j < l.length, p l[j] = true ∧ ∀ k (hk : k < j), p (l[k]'(by omega)) = false
  | i, [], j, h => by simp [idxOf] at h; omega
  | i, x :: r, j, h => by
    rw [idxOf] at h
    split at h
    · rename_i hx
      have : j = 0 := by omega
      subst this
      exact ⟨by simp, by simpa using hx, fun k hk => by omega⟩
    · rename_i hx
      have hb := Z2f p (i + 1) r
      have hj : 1 ≤ j := by omega
      obtain ⟨h1, h2, h3⟩ := idxOf_sat p (i + 1) r (j - 1) (by rw [h]; omega)
      refine ⟨by simp; omega, ?_, ?_⟩
      · have : (x :: r)[j]'(by simp; omega) = r[j - 1] := by
          rw [List.getElem_cons]; simp [show j ≠ 0 by omega]
        rw [this]; exact h2
      · intro k hk
        cases k with
        | zero => simpa using hx
        | succ k => simpa using h3 k (by omega)
theorem Z1f (d : Des) : ∀ (n : Nat) (l acc o : List Int), l.length = n → ordG d n l acc = some o → ∃ t, o = acc ++ t ∧ t.Perm l
  | 0, l, acc, o, hl, h => by
    have : l = [] := List.length_eq_zero_iff.1 hl
    subst this
    simp only [ordG, Option.some.injEq] at h
    exact ⟨[], by simp [h], .refl _⟩
  | n + 1, l, acc, o, hl, h => by
    have hb := Z2f (fun r => fstB d r l) 0 l
    have hs := idxOf_sat (fun r => fstB d r l) 0 l
    simp only [ordG] at h
    generalize idxOf (fun r => fstB d r l) 0 l = i at *
    split at h
    · simp at h
    · rename_i hi
      obtain ⟨j, rfl⟩ : ∃ j : Nat, i = j := ⟨i.toNat, by omega⟩
      obtain ⟨hj, _⟩ := hs j (by simp)
      simp only [Int.toNat_natCast] at h
      obtain ⟨t, ht, hp⟩ := Z1f d n _ _ o (by rw [delI_len (by omega) (by omega)]; omega) h
      have hg : l.getD j 0 = l[j] := by simp [hj]
      refine ⟨l[j] :: t, by rw [ht, hg]; simp, ?_⟩
      exact (List.Perm.cons _ hp).trans (delI_perm l j hj)
end Go.Proofs.YteecfnfjlclhdaaGreat.V

/- The greedy order: each may precede all that follow. -/
namespace Go.Proofs.YteecfnfjlclhdaaGreat.V
open Go (IntKind BinOp UnOp)
theorem fstB_iff {d : Des} {r : Int} {l : List Int} : fstB d r l = true ↔ ∀ o ∈ l, o ≠ r → mpI d r o = true := by
  simp only [fstB, Bool.not_eq_true', List.any_eq_false, Bool.and_eq_true, decide_eq_true_eq, Bool.not_eq_true', not_and, Bool.not_eq_false]
theorem fstB_perm {d : Des} {r : Int} {l m : List Int} (h : l.Perm m) (hl : fstB d r l = true) : fstB d r m = true :=
  fstB_iff.2 fun o ho => fstB_iff.1 hl o (h.mem_iff.2 ho)
theorem ordG_first (d : Des) : ∀ (n : Nat) (l acc t : List Int), l.length = n → ordG d n l acc = some (acc ++ t) → ∀ i (hi : i < t.length), fstB d t[i] (t.drop i) = true
  | 0, l, acc, t, hl, h, i, hi => by
    have : t = [] := by simpa [ordG] using h
    subst this; simp at hi
  | n + 1, l, acc, t, hl, h, i, hi => by
    obtain ⟨t1, ht1, hp1⟩ := Z1f d (n + 1) l acc _ hl h
    have : t1 = t := (List.append_cancel_left ht1).symm
    subst this
    have hb := Z2f (fun r => fstB d r l) 0 l
    have hs := idxOf_sat (fun r => fstB d r l) 0 l
    simp only [ordG] at h
    generalize idxOf (fun r => fstB d r l) 0 l = k at *
    split at h
    · simp at h
    · rename_i hk
      obtain ⟨j, rfl⟩ : ∃ j : Nat, k = j := ⟨k.toNat, by omega⟩
      obtain ⟨hj, hf, _⟩ := hs j (by simp)
      simp only [Int.toNat_natCast] at h
      have hlen : (delI l j (j + 1)).length = n := by rw [delI_len (by omega) (by omega)]; omega
      obtain ⟨t2, ht2, hp2⟩ := Z1f d n _ _ _ hlen h
      have hg : l.getD j 0 = l[j] := by simp [hj]
      have ht : t1 = l[j] :: t2 := by
        rw [hg, List.append_assoc] at ht2
        exact List.append_cancel_left ht2
      cases i with
      | zero =>
        subst ht
        exact fstB_perm hp1.symm (by simpa using hf)
      | succ i =>
        subst ht
        have := ordG_first d n _ (acc ++ [l[j]]) t2 hlen (by rw [hg] at h; rw [h]; simp) i (by simp at hi; omega)
        simpa using this
theorem ckE_zero (d : Des) (o : List Int) (h : ∀ i (hi : i < o.length), fstB d o[i] (o.drop i) = true) : eachE (ckE d o) 0 o = (0, 0) := by
  have hz : ∀ (s : List Int) (k : Nat), (∀ i (hi : i < s.length), ckE d o (k + i) s[i] = 0) → eachE (ckE d o) k s = (0, 0) := by
    intro s
    induction s with
    | nil => intro k _; rfl
    | cons a r ih =>
      intro k hk
      have h0 := hk 0 (by simp)
      simp only [Nat.add_zero, List.getElem_cons_zero] at h0
      rw [eachE, if_pos h0]
      exact ih (k + 1) fun i hi => by have := hk (i + 1) (by simp; omega); rw [show k + 1 + i = k + (i + 1) by omega]; simpa using this
  exact hz o 0 fun i hi => by rw [Nat.zero_add, ckE, h i hi]; rfl
end Go.Proofs.YteecfnfjlclhdaaGreat.V

/- The greedy order: one that is less than the one before may not precede it. -/
namespace Go.Proofs.YteecfnfjlclhdaaGreat.V
open Go (IntKind BinOp UnOp)
theorem delI_pw {l : List Int} (h : l.Pairwise (· < ·)) (j : Nat) : (delI l j (j + 1)).Pairwise (· < ·) := by
  have hs : (delI l j (j + 1)).Sublist l := by
    unfold delI
    have : (l.take j ++ l.drop (j + 1)).Sublist (l.take j ++ l.drop j) := List.Sublist.append (List.Sublist.refl _) (by
      rw [show l.drop (j + 1) = (l.drop j).drop 1 by rw [List.drop_drop]]; exact List.drop_sublist ..)
    rwa [List.take_append_drop] at this
  exact h.sublist hs
theorem ordG_desc (d : Des) : ∀ (n : Nat) (l acc t : List Int), l.length = n → l.Pairwise (· < ·) → ordG d n l acc = some (acc ++ t) → ∀ i (hi : i + 1 < t.length), t[i + 1] < t[i] → mpI d t[i + 1] t[i] = false
  | 0, l, acc, t, hl, hw, h, i, hi => by
    have : t = [] := by simpa [ordG] using h
    subst this; simp at hi
  | n + 1, l, acc, t, hl, hw, h, i, hi => by
    have hb := Z2f (fun r => fstB d r l) 0 l
    have hs := idxOf_sat (fun r => fstB d r l) 0 l
    simp only [ordG] at h
    generalize idxOf (fun r => fstB d r l) 0 l = k at *
    split at h
    · simp at h
    · rename_i hk
      obtain ⟨j, rfl⟩ : ∃ j : Nat, k = j := ⟨k.toNat, by omega⟩
      obtain ⟨hj, hf, hlow⟩ := hs j (by simp)
      simp only [Int.toNat_natCast] at h
      have hlen : (delI l j (j + 1)).length = n := by rw [delI_len (by omega) (by omega)]; omega
      obtain ⟨t2, ht2, hp2⟩ := Z1f d n _ _ _ hlen h
      have hg : l.getD j 0 = l[j] := by simp [hj]
      have ht : t = l[j] :: t2 := by
        rw [hg, List.append_assoc] at ht2
        exact List.append_cancel_left ht2
      have h2 : ordG d n (delI l j (j + 1)) (acc ++ [l[j]]) = some ((acc ++ [l[j]]) ++ t2) := by rw [hg] at h; rw [h, ht]; simp
      subst ht
      cases i with
      | zero =>
        intro hlt
        simp only [Nat.zero_add, List.getElem_cons_succ, List.getElem_cons_zero] at hlt ⊢
        have h02 : 0 < t2.length := by simp at hi; omega
        have hf2 := ordG_first d n _ _ t2 hlen h2 0 h02
        generalize hy : t2[0] = y at *
        have hy2 : y ∈ t2 := hy ▸ List.getElem_mem h02
        have hyd := hp2.mem_iff.1 hy2
        simp only [delI, List.mem_append] at hyd
        have hyk : ∃ k, ∃ hk : k < j, l[k]'(by omega) = y := by
          rcases hyd with hyd | hyd
          · obtain ⟨k, hk, he⟩ := List.mem_take_iff_getElem.1 hyd
            exact ⟨k, by omega, he⟩
          · obtain ⟨k, hk, he⟩ := List.mem_drop_iff_getElem.1 hyd
            have := List.pairwise_iff_getElem.1 hw j (j + 1 + k) hj (by omega) (by omega)
            rw [he] at this; omega
        obtain ⟨k, hkj, hky⟩ := hyk
        have hno := hlow k hkj
        rw [hky] at hno
        cases hmp : mpI d y l[j] with
        | false => rfl
        | true =>
          have : fstB d y l = true := fstB_iff.2 fun o ho hoy => by
            rcases List.mem_cons.1 ((delI_perm l j hj).mem_iff.2 ho) with he | he
            · rw [he]; exact hmp
            · exact fstB_iff.1 (by simpa using hf2) o (hp2.mem_iff.2 he) hoy
          simp [this] at hno
      | succ i =>
        intro hlt
        simp only [List.getElem_cons_succ] at hlt ⊢
        exact ordG_desc d n _ _ t2 hlen (delI_pw hw j) h2 i (by simp at hi; omega) hlt
end Go.Proofs.YteecfnfjlclhdaaGreat.V

/- No greedy order where there is a cycle. -/
namespace Go.Proofs.YteecfnfjlclhdaaGreat.V
open Go (IntKind BinOp UnOp)
theorem cyB_get (d : Des) (l : List Int) : ∀ (s : List Int) (k : Nat), cyB d l k s = true ↔ ∀ i (hi : i < s.length), memB (l.take (k + i)) s[i] = false ∧ mpI d s[i] (l.getD (prv l.length (k + i)) 0) = false
  | [], k => by simp [cyB]
  | a :: r, k => by
    have ih := cyB_get d l r (k + 1)
    rw [cyB]
    constructor
    · intro h i hi
      split at h
      · simp at h
      · split at h
        · simp at h
        · rename_i h1 h2
          cases i with
          | zero => exact ⟨by simpa using h1, by simpa using h2⟩
          | succ i => have := ih.1 h i (by simpa using hi); rw [show k + (i + 1) = k + 1 + i by omega]; exact this
    · intro h
      have h0 := h 0 (by simp)
      simp only [Nat.add_zero, List.getElem_cons_zero] at h0
      rw [if_neg (by simp [h0.1]), if_neg (by rw [h0.2]; simp)]
      exact ih.2 fun i hi => by have := h (i + 1) (by simpa using hi); rw [show k + 1 + i = k + (i + 1) by omega]; exact this
theorem Z2d {d : Des} {c : List Int} (h : isCyc d c = true) : 1 < c.length ∧ (∀ i j (hi : i < c.length) (hj : j < c.length), i < j → c[i] ≠ c[j]) ∧ ∀ i (hi : i < c.length), ∃ h2 : prv c.length i < c.length, prv c.length i ≠ i ∧ mpI d c[i] c[prv c.length i] = false := by
  simp only [isCyc, Bool.and_eq_true, decide_eq_true_eq] at h
  have hg := (cyB_get d c c 0).1 h.1
  refine ⟨h.2, fun i j hi hj hij he => ?_, fun i hi => ?_⟩
  · have := (hg j hj).1
    rw [Nat.zero_add, ← Bool.not_eq_true, Vc] at this
    exact this (List.mem_take_iff_getElem.2 ⟨i, by omega, he⟩)
  · have hp : prv c.length i < c.length := by unfold prv; split <;> omega
    refine ⟨hp, by unfold prv; have := h.2; split <;> omega, ?_⟩
    have := (hg i hi).2
    rw [Nat.zero_add] at this
    simpa [hp] using this
theorem no_order {d : Des} {c : List Int} (hc : isCyc d c = true) : ∀ u : List Int, (∀ i (hi : i < u.length), fstB d u[i] (u.drop i) = true) → (∀ x ∈ c, x ∈ u) → False
  | [], _, hs => by
    have := (Z2d hc).1
    exact absurd (hs _ (List.getElem_mem (show 0 < c.length by omega))) (by simp)
  | a :: r, hf, hs => by
    obtain ⟨h1, hnd, hp⟩ := Z2d hc
    by_cases ha : a ∈ c
    · obtain ⟨i, hi, he⟩ := List.mem_iff_getElem.1 ha
      obtain ⟨h2, h3, h4⟩ := hp i hi
      have hne : c[prv c.length i] ≠ a := by
        intro h5
        rw [← he] at h5
        rcases Nat.lt_or_gt_of_ne h3 with h6 | h6
        · exact hnd _ _ h2 hi h6 h5
        · exact hnd _ _ hi h2 h6 h5.symm
      have := fstB_iff.1 (show fstB d a (a :: r) = true from hf 0 (by simp)) _ (hs _ (List.getElem_mem h2)) hne
      rw [← he, h4] at this
      simp at this
    · refine no_order hc r (fun i hi => show fstB d r[i] (r.drop i) = true from hf (i + 1) (by simpa using hi)) fun x hx => ?_
      rcases List.mem_cons.1 (hs x hx) with h | h
      · exact absurd (h ▸ hx) ha
      · exact h
theorem ordG_no {d : Des} {c l acc : List Int} (hc : isCyc d c = true) (hs : ∀ x ∈ c, x ∈ l) : ordG d l.length l acc = none := by
  cases h : ordG d l.length l acc with
  | none => rfl
  | some o =>
    obtain ⟨t, rfl, hp⟩ := Z1f d _ _ _ _ rfl h
    exact (no_order hc t (ordG_first d _ _ _ _ rfl h) fun x hx => hp.mem_iff.2 (hs x hx)).elim
end Go.Proofs.YteecfnfjlclhdaaGreat.V

/- A path that the search finds is one. -/
namespace Go.Proofs.YteecfnfjlclhdaaGreat.V
open Go (IntKind BinOp UnOp)
structure PthOk (d : Des) (ns : List Int) (i : Int) (K p : List Int) : Prop where
  pos : 0 < p.length
  fst : p[0]? = some i
  tail : ∀ x ∈ p.drop 1, i < x ∧ x ∈ ns ∧ x ∈ K
  edge : ∀ k (h : k + 1 < p.length), mpI d p[k + 1] p[k] = false
  nodup : p.Nodup
theorem PthOk.mono {d : Des} {ns K K' p : List Int} {i : Int} (h : PthOk d ns i K p) (hs : ∀ x ∈ K, x ∈ K') : PthOk d ns i K' p :=
  { h with tail := fun x hx => ⟨(h.tail x hx).1, (h.tail x hx).2.1, hs x (h.tail x hx).2.2⟩ }
theorem PthOk.push {d : Des} {ns K p : List Int} {i n : Int} (h : PthOk d ns i K p) (hn : n ∈ ns) (ht : exT d i (lastI p) K n = true) : PthOk d ns i (K ++ [n]) (p ++ [n]) := by
  have hpos := h.pos
  simp only [exT, Bool.and_eq_true, decide_eq_true_eq, Bool.not_eq_true'] at ht
  obtain ⟨h1, h2, h3⟩ := ht
  have hnK : n ∉ K := by rw [← Vc, h2]; simp
  have hmem : ∀ x ∈ p, x = i ∨ (i < x ∧ x ∈ ns ∧ x ∈ K) := fun x hx => by
    cases p with
    | nil => simp at hx
    | cons a r =>
      have ha : a = i := by simpa using h.fst
      rcases List.mem_cons.1 hx with hx | hx
      · exact .inl (hx.trans ha)
      · exact .inr (h.tail x (by simpa using hx))
  exact {
    pos := by simp
    fst := by rw [List.getElem?_append_left hpos]; exact h.fst
    tail := fun x hx => by
      rw [List.drop_append_of_le_length (by omega)] at hx
      rcases List.mem_append.1 hx with hx | hx
      · have := h.tail x hx; exact ⟨this.1, this.2.1, by simp [this.2.2]⟩
      · rw [List.mem_singleton.1 hx]; exact ⟨h1, hn, by simp⟩
    edge := fun k hk => by
      by_cases hl : k + 1 < p.length
      · rw [List.getElem_append_left hl, List.getElem_append_left (by omega)]; exact h.edge k hl
      · have hk1 : k + 1 = p.length := by simp at hk; omega
        have he : (p ++ [n])[k + 1]'hk = n := by simp [List.getElem_append, hk1]
        have hlast : lastI p = p[k]'(by omega) := by unfold lastI; simp [show p.length - 1 = k by omega, show k < p.length by omega]
        rw [he, List.getElem_append_left (by omega), ← hlast]; exact h3
    nodup := by
      rw [List.nodup_append]
      refine ⟨h.nodup, by simp, fun x hx y hy he => ?_⟩
      rw [List.mem_singleton.1 hy] at he
      rcases hmem x hx with h4 | h4
      · omega
      · exact hnK (he ▸ h4.2.2) }
end Go.Proofs.YteecfnfjlclhdaaGreat.V

/- What the search finds is a cycle. -/
namespace Go.Proofs.YteecfnfjlclhdaaGreat.V
open Go (IntKind BinOp UnOp)
theorem exI_pth {d : Des} {ns : List Int} {i : Int} {p : List Int} : ∀ (l K : List Int) (q : List (List Int)), (∀ x ∈ l, x ∈ ns) → (∀ x ∈ q, PthOk d ns i K x) → PthOk d ns i K p → (∃ K0, (∀ x ∈ K0, x ∈ K) ∧ PthOk d ns i K0 p) →
    ∀ x ∈ (exI d i (lastI p) p K q l).2, PthOk d ns i (exI d i (lastI p) p K q l).1 x
  | [], K, q, _, hq, _, _ => by simpa [exI] using hq
  | n :: r, K, q, hl, hq, hp, hk => by
    have hl' : ∀ x ∈ r, x ∈ ns := fun x hx => hl x (by simp [hx])
    rw [exI]
    split
    · rename_i ht
      refine exI_pth r (K ++ [n]) (q ++ [p ++ [n]]) hl' (fun x hx => ?_) (hp.mono fun x hx => by simp [hx]) ⟨K, fun x hx => by simp [hx], hp⟩
      rcases List.mem_append.1 hx with hx | hx
      · exact (hq x hx).mono fun y hy => by simp [hy]
      · rw [List.mem_singleton.1 hx]; exact hp.push (hl n (by simp)) ht
    · exact exI_pth r K q hl' hq hp hk
theorem arB_some {d : Des} {ns : List Int} {i : Int} : ∀ (n : Nat) (K : List Int) (q : List (List Int)) (c : List Int), (∀ x ∈ q, PthOk d ns i K x) → arB d ns i n K q = some c → (∃ K', PthOk d ns i K' c) ∧ 1 < c.length ∧ mpI d i (lastI c) = false
  | 0, K, q, c, _, h => by simp [arB] at h
  | n + 1, K, [], c, _, h => by simp [arB] at h
  | n + 1, K, p :: q, c, hq, h => by
    rw [arB] at h
    split at h
    · rename_i hc
      simp only [Option.some.injEq] at h
      subst h
      simp only [Bool.and_eq_true, decide_eq_true_eq, Bool.not_eq_true'] at hc
      exact ⟨⟨K, hq p (by simp)⟩, hc.1, hc.2⟩
    · have hp := hq p (by simp)
      exact arB_some n _ _ c (fun x hx => exI_pth ns K (p :: q) (fun _ h => h) hq hp ⟨K, fun _ h => h, hp⟩ x (List.mem_of_mem_drop hx)) h
end Go.Proofs.YteecfnfjlclhdaaGreat.V

/- What the search finds is a cycle of those given. -/
namespace Go.Proofs.YteecfnfjlclhdaaGreat.V
open Go (IntKind BinOp UnOp)
theorem pth_cyc {d : Des} {ns K c : List Int} {i : Int} (h : PthOk d ns i K c) (h1 : 1 < c.length) (h2 : mpI d i (lastI c) = false) : isCyc d c = true := by
  simp only [isCyc, Bool.and_eq_true, decide_eq_true_eq]
  refine ⟨(cyB_get d c c 0).2 fun k hk => ⟨?_, ?_⟩, h1⟩
  · rw [Nat.zero_add, ← Bool.not_eq_true, Vc]
    intro hm
    obtain ⟨j, hj, he⟩ := List.mem_take_iff_getElem.1 hm
    exact List.pairwise_iff_getElem.1 h.nodup j k (by omega) hk (by omega) he
  · rw [Nat.zero_add]
    unfold prv
    by_cases hk0 : k = 0
    · subst hk0
      have hi : c[0] = i := by have := h.fst; rw [List.getElem?_eq_getElem hk] at this; simpa using this
      rw [if_pos rfl, hi]; exact h2
    · obtain ⟨k, rfl⟩ : ∃ m, k = m + 1 := ⟨k - 1, by omega⟩
      have := h.edge k hk
      simpa [show k < c.length by omega] using this
theorem arC_some {d : Des} {ns c : List Int} {i : Int} (hi : i ∈ ns) (h : arC d ns i = some c) : isCyc d c = true ∧ ∀ x ∈ c, x ∈ ns := by
  have h0 : ∀ x ∈ [[i]], PthOk d ns i [] x := fun x hx => by
    rw [List.mem_singleton.1 hx]
    exact { pos := by simp, fst := rfl, tail := fun x hx => by simp at hx, edge := fun k hk => by simp at hk, nodup := by simp }
  obtain ⟨⟨K, hp⟩, h1, h2⟩ := arB_some _ _ _ _ h0 h
  refine ⟨pth_cyc hp h1 h2, fun x hx => ?_⟩
  cases c with
  | nil => simp at hx
  | cons a r =>
    have ha : a = i := by simpa using hp.fst
    rcases List.mem_cons.1 hx with hx | hx
    · rw [hx, ha]; exact hi
    · exact (hp.tail x (by simpa using hx)).2.1
end Go.Proofs.YteecfnfjlclhdaaGreat.V

/- Rules without an error. -/
namespace Go.Proofs.YteecfnfjlclhdaaGreat.V
open Go (IntKind BinOp UnOp)
theorem eachE_idx {α : Type} {err : Nat → α → Int} : ∀ (s : List α) (k : Nat), (∀ i (hi : i < s.length), err (k + i) s[i] = 0) → eachE err k s = (0, 0)
  | [], _, _ => rfl
  | a :: r, k, h => by
    have h0 := h 0 (by simp)
    simp only [Nat.add_zero, List.getElem_cons_zero] at h0
    rw [eachE, if_pos h0]
    exact eachE_idx r (k + 1) fun i hi => by have := h (i + 1) (by simpa using hi); rw [show k + 1 + i = k + (i + 1) by omega]; simpa using this
theorem rulsE_zero {d : Des} {c : List Int} (hin : inR d c) (hn : c.Nodup) (hl : c.length ≤ d.rules.length) : rulsE d c = 0 := by
  have h : rlsE d c = (0, 0) := eachE_idx c 0 fun i hi => by
    have h1 := hin c[i] (List.getElem_mem hi)
    have h2 : Lj d c[i] = 0 := by
      unfold Lj
      rw [Li (by decide), Zy]
      omega
    have h3 : memB (c.take i) c[i] = false := by
      rw [← Bool.not_eq_true, Vc]
      intro hm
      obtain ⟨j, hj, he⟩ := List.mem_take_iff_getElem.1 hm
      exact List.pairwise_iff_getElem.1 hn j i (by omega) hi (by omega) he
    simp [Z8, h2, h3, unlE]
  unfold rulsE
  rw [if_neg (by omega), h]
end Go.Proofs.YteecfnfjlclhdaaGreat.V

/- Where each has one that must come before, there is a cycle. -/
namespace Go.Proofs.YteecfnfjlclhdaaGreat.V
open Go (IntKind BinOp UnOp)
theorem nodup_len : ∀ {w l : List Int}, w.Nodup → (∀ x ∈ w, x ∈ l) → w.length ≤ l.length
  | [], l, _, _ => by simp
  | a :: r, l, hn, hs => by
    have ha : a ∈ l := hs a (by simp)
    rw [List.nodup_cons] at hn
    have := nodup_len (w := r) (l := l.erase a) hn.2 fun x hx => by
      have hne : x ≠ a := fun e => hn.1 (e ▸ hx)
      exact (List.mem_erase_of_ne hne).2 (hs x (by simp [hx]))
    rw [List.length_erase_of_mem ha] at this
    have : 0 < l.length := List.length_pos_of_mem ha
    simp; omega
theorem cyc_ex {d : Des} {l : List Int} (hp : ∀ r ∈ l, ∃ o ∈ l, o ≠ r ∧ mpI d r o = false) : ∀ (n : Nat) (w : List Int), l.length - w.length ≤ n → 0 < w.length → w.Nodup → (∀ x ∈ w, x ∈ l) → (∀ k (h : k + 1 < w.length), mpI d w[k + 1] w[k] = false) →
    ∃ c, isCyc d c = true ∧ ∀ x ∈ c, x ∈ l
  | n, w, hn, h0, hnd, hs, he => by
    obtain ⟨p, hpl, hpn, hpe⟩ := hp w[0] (hs _ (List.getElem_mem h0))
    by_cases hw : p ∈ w
    · obtain ⟨j, hj, hje⟩ := List.mem_iff_getElem.1 hw
      have hj0 : j ≠ 0 := fun e => by subst e; exact hpn hje.symm
      have hlen : (w.take (j + 1)).length = j + 1 := by rw [List.length_take]; omega
      refine ⟨w.take (j + 1), ?_, fun x hx => hs x (List.mem_of_mem_take hx)⟩
      simp only [isCyc, Bool.and_eq_true, decide_eq_true_eq]
      refine ⟨(cyB_get d _ _ 0).2 fun k hk => ⟨?_, ?_⟩, by omega⟩
      · rw [Nat.zero_add, ← Bool.not_eq_true, Vc]
        intro hm
        obtain ⟨i, hi, hie⟩ := List.mem_take_iff_getElem.1 hm
        exact List.pairwise_iff_getElem.1 (hnd.sublist (List.take_sublist ..)) i k (by omega) hk (by omega) hie
      · rw [Nat.zero_add]
        unfold prv
        by_cases hk0 : k = 0
        · subst hk0
          simp [hlen, show j < w.length by omega, hje, hpe]
        · obtain ⟨k, rfl⟩ : ∃ m, k = m + 1 := ⟨k - 1, by omega⟩
          have := he k (by omega)
          simp [show k < j + 1 by omega, show k < w.length by omega, this]
    · have hnd' : (p :: w).Nodup := List.nodup_cons.2 ⟨hw, hnd⟩
      have hs' : ∀ x ∈ p :: w, x ∈ l := fun x hx => by
        rcases List.mem_cons.1 hx with hx | hx
        · exact hx ▸ hpl
        · exact hs x hx
      have hb := nodup_len hnd' hs'
      simp only [List.length_cons] at hb
      cases n with
      | zero => omega
      | succ n =>
        refine cyc_ex hp n (p :: w) (by simp; omega) (by simp) hnd' hs' fun k hk => ?_
        cases k with
        | zero => simpa using hpe
        | succ k => simpa using he k (by simpa using hk)
end Go.Proofs.YteecfnfjlclhdaaGreat.V

/- Where the search finds nothing, the rules that it reached are closed and none leads back. -/
namespace Go.Proofs.YteecfnfjlclhdaaGreat.V
open Go (IntKind BinOp UnOp)
theorem exI_cl {d : Des} {ns : List Int} {i last : Int} {p : List Int} : ∀ (l K : List Int) (q : List (List Int)), (∀ x ∈ l, x ∈ ns) →
    (∀ x ∈ K, x ∈ (exI d i last p K q l).1) ∧ (∃ t, (exI d i last p K q l).2 = q ++ t ∧ (∀ z ∈ t, z.length = p.length + 1) ∧ ∀ x ∈ (exI d i last p K q l).1, x ∈ K ∨ ∃ z ∈ t, lastI z = x) ∧
    (∀ n ∈ l, i < n → mpI d n last = false → n ∈ (exI d i last p K q l).1) ∧ (exI d i last p K q l).2.length + unk ns (exI d i last p K q l).1 ≤ q.length + unk ns K
  | [], K, q, _ => ⟨fun x hx => hx, ⟨[], by simp [exI], by simp, fun x hx => .inl hx⟩, by simp, Nat.le_refl _⟩
  | n :: r, K, q, hl => by
    have hl' : ∀ x ∈ r, x ∈ ns := fun x hx => hl x (by simp [hx])
    have hn := hl n (by simp)
    rw [exI]
    split
    · rename_i ht
      obtain ⟨h1, ⟨t, h2, h3, h4⟩, h5, h6⟩ := exI_cl (d := d) (i := i) (last := last) (p := p) r (K ++ [n]) (q ++ [p ++ [n]]) hl'
      have hk : memB K n = false := by simp [exT] at ht; exact ht.2.1
      have hu := unk_snoc hn hk
      refine ⟨fun x hx => h1 x (by simp [hx]), ⟨(p ++ [n]) :: t, by rw [h2]; simp, fun z hz => ?_, fun x hx => ?_⟩, fun m hm => ?_, ?_⟩
      · rcases List.mem_cons.1 hz with hz | hz
        · rw [hz]; simp
        · exact h3 z hz
      · rcases h4 x hx with h | ⟨z, hz, he⟩
        · rcases List.mem_append.1 h with h | h
          · exact .inl h
          · exact .inr ⟨p ++ [n], by simp, by rw [List.mem_singleton.1 h]; simp [lastI]⟩
        · exact .inr ⟨z, by simp [hz], he⟩
      · rcases List.mem_cons.1 hm with hm | hm
        · intro _ _; rw [hm]; exact h1 n (by simp)
        · exact h5 m hm
      · simp only [List.length_append, List.length_singleton] at h6; omega
    · rename_i ht
      obtain ⟨h1, h2, h5, h6⟩ := exI_cl (d := d) (i := i) (last := last) (p := p) r K q hl'
      refine ⟨h1, h2, fun m hm => ?_, h6⟩
      rcases List.mem_cons.1 hm with hm | hm
      · intro hi hp
        subst hm
        simp only [exT, hi, hp, decide_true, Bool.not_false, Bool.and_true, Bool.true_and, Bool.not_eq_true', Bool.not_eq_false] at ht
        exact h1 m (Vc.1 ht)
      · exact h5 m hm
structure ClS (d : Des) (ns : List Int) (i : Int) (S : List Int) : Prop where
  has : i ∈ S
  cl : ∀ u ∈ S, ∀ m ∈ ns, i < m → mpI d m u = false → m ∈ S
  no : ∀ u ∈ S, u ≠ i → mpI d i u = true
theorem arB_none {d : Des} {ns : List Int} {i : Int} : ∀ (n : Nat) (K : List Int) (q : List (List Int)) (P : List Int), q.length + unk ns K ≤ n → (∀ u ∈ P, ∀ m ∈ ns, i < m → mpI d m u = false → m ∈ K) →
    (∀ k ∈ K, k ∈ P ∨ ∃ z ∈ q, lastI z = k) → (∀ u ∈ P, u ≠ i → mpI d i u = true) → (i ∈ P ∨ ∃ z ∈ q, lastI z = i) → (∀ z ∈ q, 0 < z.length ∧ (z.length ≤ 1 → lastI z = i)) → arB d ns i n K q = none → ∃ S, ClS d ns i S
  | n, K, [], P, _, hA, hB, hC, hD, _, _ => ⟨P, {
      has := by simpa using hD
      cl := fun u hu m hm hi hp => by simpa using hB m (hA u hu m hm hi hp)
      no := hC }⟩
  | 0, K, p :: q, P, hn, _, _, _, _, _, _ => by simp at hn
  | n + 1, K, p :: q, P, hn, hA, hB, hC, hD, hE, h => by
    rw [arB] at h
    split at h
    · simp at h
    · rename_i hc
      obtain ⟨h1, ⟨t, h2, h3, h4⟩, h5, h6⟩ := exI_cl (d := d) (i := i) (last := lastI p) (p := p) ns K (p :: q) (fun _ h => h)
      rw [h2] at h h6
      generalize (exI d i (lastI p) p K (p :: q) ns).1 = K' at *
      simp only [List.cons_append, List.drop_one, List.tail_cons] at h
      refine arB_none n K' (q ++ t) (lastI p :: P) (by simp only [List.length_append, List.length_cons] at h6 hn ⊢; omega) (fun u hu m hm hi hp => ?_) (fun k hk => ?_) (fun u hu hui => ?_) ?_ (fun z hz => ?_) h
      · rcases List.mem_cons.1 hu with hu | hu
        · rw [hu] at hp; exact h5 m hm hi hp
        · exact h1 m (hA u hu m hm hi hp)
      · rcases h4 k hk with hk | ⟨z, hz, he⟩
        · rcases hB k hk with hk | ⟨z, hz, he⟩
          · exact .inl (by simp [hk])
          · rcases List.mem_cons.1 hz with hz | hz
            · exact .inl (by simp [← he, hz])
            · exact .inr ⟨z, by simp [hz], he⟩
        · exact .inr ⟨z, by simp [hz], he⟩
      · rcases List.mem_cons.1 hu with hu | hu
        · by_cases hp1 : 1 < p.length
          · rw [hu]
            cases hm : mpI d i (lastI p) with
            | true => rfl
            | false => simp [hp1, hm] at hc
          · exact absurd (hu.trans ((hE p (by simp)).2 (by omega))) hui
        · exact hC u hu hui
      · rcases hD with hD | ⟨z, hz, he⟩
        · exact .inl (by simp [hD])
        · rcases List.mem_cons.1 hz with hz | hz
          · exact .inl (by simp [← he, hz])
          · exact .inr ⟨z, by simp [hz], he⟩
      · rcases List.mem_append.1 hz with hz | hz
        · exact hE z (by simp [hz])
        · have := h3 z hz
          have := (hE p (by simp)).1
          exact ⟨by omega, fun _ => by omega⟩
theorem arC_none {d : Des} {ns : List Int} {i : Int} (h : arC d ns i = none) : ∃ S, ClS d ns i S :=
  arB_none (ns.length + 1) [] [[i]] [] (by have := unk_le ns []; simp; omega) (by simp) (by simp) (by simp) (.inr ⟨[i], by simp, rfl⟩) (fun z hz => by rw [List.mem_singleton.1 hz]; exact ⟨by simp, fun _ => rfl⟩) h
end Go.Proofs.YteecfnfjlclhdaaGreat.V

/- Where there is a cycle, the search finds one; where the greedy order fails, there is one. -/
namespace Go.Proofs.YteecfnfjlclhdaaGreat.V
open Go (IntKind BinOp UnOp)
theorem min_ex : ∀ (l : List Int), 0 < l.length → ∃ j, ∃ h : j < l.length, ∀ x ∈ l, l[j] ≤ x
  | [a], _ => ⟨0, by simp, by simp⟩
  | a :: b :: r, _ => by
    obtain ⟨j, hj, hm⟩ := min_ex (b :: r) (by simp)
    by_cases h : a ≤ (b :: r)[j]
    · refine ⟨0, by simp, fun x hx => ?_⟩
      rcases List.mem_cons.1 hx with hx | hx
      · simp [hx]
      · exact Int.le_trans h (hm x hx)
    · refine ⟨j + 1, by simpa using hj, fun x hx => ?_⟩
      rcases List.mem_cons.1 hx with hx | hx
      · rw [List.getElem_cons_succ, hx]; omega
      · simpa using hm x hx
theorem cyc_arC {d : Des} {ns c : List Int} (hc : isCyc d c = true) (hs : ∀ x ∈ c, x ∈ ns) : ∃ i ∈ c, arC d ns i ≠ none ∧ ∀ x ∈ c, i ≤ x := by
  obtain ⟨h1, hnd, hp⟩ := Z2d hc
  obtain ⟨j, hj, hm⟩ := min_ex c (by omega)
  refine ⟨c[j], List.getElem_mem hj, fun hn => ?_, hm⟩
  obtain ⟨S, hS⟩ := arC_none hn
  have hne : ∀ x (h : x < c.length), x ≠ j → c[x] ≠ c[j] := fun x h hx he => by
    rcases Nat.lt_or_gt_of_ne hx with h2 | h2
    · exact hnd x j h hj h2 he
    · exact hnd j x hj h h2 he.symm
  have step : ∀ y (hy : y < c.length) (x) (hx : x < c.length), prv c.length y = x → c[x] ∈ S → c[y] ∈ S := fun y hy x hx he hxS => by
    obtain ⟨h2, _, h3⟩ := hp y hy
    by_cases hyj : y = j
    · subst hyj; exact hS.has
    · have h4 := hm c[y] (List.getElem_mem hy)
      have h5 := hne y hy hyj
      subst he
      exact hS.cl _ hxS _ (hs _ (List.getElem_mem hy)) (by omega) h3
  have up : ∀ k (h : j + k < c.length), c[j + k] ∈ S := fun k => by
    induction k with
    | zero => intro h; exact hS.has
    | succ k ih => intro h; exact step (j + (k + 1)) h (j + k) (by omega) (by unfold prv; rw [if_neg (by omega)]; omega) (ih (by omega))
  have hlast : c[c.length - 1]'(by omega) ∈ S := by
    have := up (c.length - 1 - j) (by omega)
    simpa [show j + (c.length - 1 - j) = c.length - 1 by omega] using this
  have all : ∀ k (h : k < c.length), c[k] ∈ S := fun k => by
    induction k with
    | zero => intro h; exact step 0 h (c.length - 1) (by omega) (by unfold prv; rfl) hlast
    | succ k ih => intro h; exact step (k + 1) h k (by omega) (by unfold prv; simp) (ih (by omega))
  obtain ⟨h2, h3, h4⟩ := hp j hj
  have := hS.no _ (all _ h2) (hne _ h2 h3)
  rw [h4] at this
  simp at this
theorem cyF_fact {d : Des} {l c : List Int} : ∀ (s : List Int) (b : Option (List Int)), cyF d l b s = some c → b = some c ∨ ∃ i ∈ s, arC d l i = some c
  | [], b, h => .inl h
  | i :: r, b, h => by
    rw [cyF] at h
    rcases cyF_fact r _ h with h1 | ⟨k, hk, h1⟩
    · cases ha : arC d l i with
      | none => rw [ha] at h1; exact .inl (by simpa [betC] using h1)
      | some a =>
        rw [ha] at h1
        cases b with
        | none => exact .inr ⟨i, by simp, by rw [ha]; simpa [betC] using h1⟩
        | some b =>
          rw [betC] at h1
          split at h1
          · exact .inr ⟨i, by simp, by rw [ha]; exact h1⟩
          · exact .inl h1
    · exact .inr ⟨k, by simp [hk], h1⟩
theorem cyF_some {d : Des} {l : List Int} : ∀ (s : List Int) (b : Option (List Int)), (b ≠ none ∨ ∃ i ∈ s, arC d l i ≠ none) → cyF d l b s ≠ none
  | [], b, h => by simpa [cyF] using h
  | i :: r, b, h => by
    rw [cyF]
    refine cyF_some r _ ?_
    rcases h with h | ⟨k, hk, h⟩
    · left
      cases b with
      | none => simp at h
      | some b => cases arC d l i with
        | none => simp [betC]
        | some a => rw [betC]; split <;> simp
    · rcases List.mem_cons.1 hk with hk | hk
      · left
        rw [← hk]
        cases ha : arC d l k with
        | none => exact absurd ha h
        | some a => cases b with
          | none => simp [betC]
          | some b => rw [betC]; split <;> simp
      · exact .inr ⟨k, hk, h⟩
theorem idxOf_no {α : Type} {p : α → Bool} : ∀ (i : Nat) (l : List α), idxOf p i l = -1 → ∀ x ∈ l, p x = false
  | _, [], _ => by simp
  | i, y :: r, h => by
    rw [idxOf] at h
    split at h
    · omega
    · rename_i hy
      intro x hx
      rcases List.mem_cons.1 hx with hx | hx
      · rw [hx]; simpa using hy
      · exact idxOf_no (i + 1) r h x hx
theorem ordG_cyc {d : Des} : ∀ (n : Nat) (l acc : List Int), l.length = n → ordG d n l acc = none → ∃ c, isCyc d c = true ∧ ∀ x ∈ c, x ∈ l
  | 0, l, acc, hl, h => by simp [ordG] at h
  | n + 1, l, acc, hl, h => by
    have hb := Z2f (fun r => fstB d r l) 0 l
    have hno := idxOf_no (p := fun r => fstB d r l) 0 l
    simp only [ordG] at h
    generalize idxOf (fun r => fstB d r l) 0 l = i at *
    split at h
    · rename_i hi
      have hno := hno hi
      have h0 : 0 < l.length := by omega
      refine cyc_ex (d := d) (l := l) (fun r hr => ?_) l.length [l[0]] (by omega) (by simp) (by simp) (fun x hx => by rw [List.mem_singleton.1 hx]; exact List.getElem_mem h0) (fun k hk => by simp at hk)
      have := hno r hr
      simp only [fstB, Bool.not_eq_false', List.any_eq_true, Bool.and_eq_true, decide_eq_true_eq, Bool.not_eq_true'] at this
      exact this
    · obtain ⟨j, rfl⟩ : ∃ j : Nat, i = j := ⟨i.toNat, by omega⟩
      simp only [Int.toNat_natCast] at h
      obtain ⟨c, hc, hs⟩ := ordG_cyc n _ _ (by rw [delI_len (by omega) (by omega)]; omega) h
      refine ⟨c, hc, fun x hx => ?_⟩
      have := hs x hx
      unfold delI at this
      rcases List.mem_append.1 this with h | h
      · exact List.mem_of_mem_take h
      · exact List.mem_of_mem_drop h
theorem cyF_iff {d : Des} {l : List Int} : cyF d l none l = none ↔ ordG d l.length l [] ≠ none := by
  constructor
  · intro h h2
    obtain ⟨c, hc, hs⟩ := ordG_cyc _ _ _ rfl h2
    obtain ⟨i, hi, ha, _⟩ := cyc_arC hc hs
    exact cyF_some l none (.inr ⟨i, hs i hi, ha⟩) h
  · intro h
    cases hc : cyF d l none l with
    | none => rfl
    | some c =>
      rcases cyF_fact l none hc with h1 | ⟨i, hi, ha⟩
      · simp at h1
      · obtain ⟨h1, h2⟩ := arC_some hi ha
        exact absurd (ordG_no h1 h2) h
end Go.Proofs.YteecfnfjlclhdaaGreat.V

/- An order or a cycle: what the law asks of each. -/
namespace Go.Proofs.YteecfnfjlclhdaaGreat.V
open Go (IntKind BinOp UnOp)
theorem orE_des {d : Des} {rules : List Int} (h : orE d rules = 0) : (desE d).2 = 0 ∧ rulsE d rules = 0 := by
  unfold orE at h
  by_cases h0 : (desE d).2 = 0
  · rw [if_pos h0] at h; exact ⟨h0, h⟩
  · rw [if_neg h0] at h; exact absurd h h0
theorem orE_of {d : Des} {rules : List Int} (h : (desE d).2 = 0) (h2 : rulsE d rules = 0) : orE d rules = 0 := by
  unfold orE; rw [if_pos h, h2]
theorem inR_len {d : Des} {l : List Int} (hin : inR d l) (hn : l.Nodup) : l.length ≤ d.rules.length := by
  have := nodup_len (l := (List.range d.rules.length).map fun n : Nat => (n : Int)) hn fun x hx => by
    have := hin x hx
    exact List.mem_map.2 ⟨x.toNat, List.mem_range.2 (by omega), by omega⟩
  simpa using this
theorem sortI_lt {l : List Int} (h : l.Nodup) : (sortI l).Pairwise (· < ·) := by
  have h1 := Ky l
  have h2 : (sortI l).Nodup := (Yf l).nodup_iff.2 h
  exact (h1.and h2).imp fun h => by omega
theorem Z1a (l : List Int) : (sortI l).length = l.length := (Yf l).length_eq
structure NoOrd (d : Des) (rules : List Int) (c : List Int) : Prop where
  cyc : cyF d (sortI rules) none (sortI rules) = some c
  len : c.length ≤ rules.length
  err : rulsE d c = 0
  isC : isCyc d c = true
  inr : inR d c
  has : ∀ x ∈ c, memB rules x = true
  more : ∀ r : Int, 0 ≤ r → r < (d.rules.length : Int) → memB rules r = false → orE d (rules ++ [r]) = 0 ∧ ordG d (rules ++ [r]).length (sortI (rules ++ [r])) [] = none
theorem noOrd {d : Des} {rules : List Int} (h : orE d rules = 0) (hn : ordG d rules.length (sortI rules) [] = none) : ∃ c, NoOrd d rules c := by
  obtain ⟨hv, hl, hin, hnd⟩ := orE_val h
  obtain ⟨hd0, _⟩ := orE_des h
  cases hc : cyF d (sortI rules) none (sortI rules) with
  | none =>
    have := cyF_iff.1 hc
    rw [Z1a] at this
    exact absurd hn this
  | some c =>
    rcases cyF_fact _ _ hc with h1 | ⟨i, hi, ha⟩
    · simp at h1
    · obtain ⟨h1, h2⟩ := arC_some hi ha
      have h3 : ∀ x ∈ c, x ∈ rules := fun x hx => (Yf rules).mem_iff.1 (h2 x hx)
      have hcn : c.Nodup := List.pairwise_iff_getElem.2 fun i j hi hj hij => (Z2d h1).2.1 i j hi hj hij
      have hci : inR d c := fun x hx => hin x (h3 x hx)
      exact ⟨c, {
        cyc := hc
        len := nodup_len hcn h3
        err := rulsE_zero hci hcn (inR_len hci hcn)
        isC := h1
        inr := hci
        has := fun x hx => Vc.2 (h3 x hx)
        more := fun r h4 h5 h6 => by
          have h7 : inR d (rules ++ [r]) := fun x hx => by
            rcases List.mem_append.1 hx with hx | hx
            · exact hin x hx
            · rw [List.mem_singleton.1 hx]; exact ⟨h4, h5⟩
          have h8 : (rules ++ [r]).Nodup := by
            rw [List.nodup_append]
            refine ⟨hnd, by simp, fun x hx y hy he => ?_⟩
            rw [List.mem_singleton.1 hy] at he
            rw [← Bool.not_eq_true, Vc] at h6
            exact h6 (he ▸ hx)
          refine ⟨orE_of hd0 (rulsE_zero h7 h8 (inR_len h7 h8)), ?_⟩
          rw [← Z1a]
          exact ordG_no h1 fun x hx => (Yf _).mem_iff.2 (by simp [h3 x hx]) }⟩
structure YesOrd (d : Des) (rules : List Int) (o : List Int) : Prop where
  cyc : cyF d (sortI rules) none (sortI rules) = none
  len : o.length = rules.length
  err : rulsE d o = 0
  orr : orE d o = 0
  inr : inR d o
  has : ∀ x ∈ o, memB rules x = true
  desc : ∀ i (h : i + 1 < o.length), o[i + 1] < o[i] → mpI d o[i + 1] o[i] = false
  chk : eachE (ckE d o) 0 o = (0, 0)
theorem yesOrd {d : Des} {rules o : List Int} (h : orE d rules = 0) (ho : ordG d rules.length (sortI rules) [] = some o) : YesOrd d rules o := by
  obtain ⟨hv, hl, hin, hnd⟩ := orE_val h
  obtain ⟨hd0, _⟩ := orE_des h
  obtain ⟨t, ht, hp⟩ := Z1f d _ _ _ _ (Z1a rules) ho
  have ht : o = t := by simpa using ht
  subst ht
  have hp2 := hp.trans (Yf rules)
  have hn : o.Nodup := hp2.nodup_iff.2 hnd
  have hi : inR d o := fun x hx => hin x (hp2.mem_iff.1 hx)
  have he : rulsE d o = 0 := rulsE_zero hi hn (inR_len hi hn)
  exact {
    cyc := cyF_iff.2 (by rw [Z1a, ho]; simp)
    len := hp2.length_eq
    err := he
    orr := orE_of hd0 he
    inr := hi
    has := fun x hx => Vc.2 (hp2.mem_iff.1 hx)
    desc := ordG_desc d _ _ [] _ (Z1a rules) (sortI_lt hnd) ho
    chk := ckE_zero d o (ordG_first d _ _ [] _ (Z1a rules) ho) }
end Go.Proofs.YteecfnfjlclhdaaGreat.V

/- The law ConflictEither, in the evaluator. -/
namespace Go.Proofs.YteecfnfjlclhdaaGreat.V
open Go (IntKind BinOp UnOp)
variable {π κ : Id}
theorem ei_loop0 (d : Des) (rules c : List Int) (hl : rules.length ≤ 1000) (hc : c.length ≤ 1000) (hh : ∀ x ∈ c, memB rules x = true) :
    ∀ (suf pre : List Int) (x : Env × Sto), c = pre ++ suf → mask [1, 2, 7, 9] [] x = some ([(1, .p (Z3 rules)), (2, .ref (2 :: π) 0), (7, .p (pathP c)), (9, .p (I pre.length))], [Zt (2 :: π) d]) →
    kpO [1, 2] [4] [] (bkO 0 (iter (round EE iter π [] [1, 2, 7, 9] Vt) x)) = some (.nm, [(1, .p (Z3 rules)), (2, .ref (2 :: π) 0)], [Zt (2 :: π) d])
  | [], pre, x, h, hm => by
    rw [Z1 hm]
    have : pre = c := by simpa using h.symm
    subst this
    simp [Nq, Xw]
  | y :: suf, pre, x, h, hm => by
    rw [Z1 hm]
    have hlt := Z9 h
    have hltn : pre.length < c.length := by omega
    have hg : c[pre.length]? = some y := by rw [h]; simp
    have hge : c[pre.length] = y := by simpa [hltn] using hg
    have hws := Zc hltn (show c.length ≤ top63 by simp only [top63]; omega)
    have ih := fun x => ei_loop0 d rules c hl hc hh suf (pre ++ [y]) x (by simp [h])
    have hH := fun π => e_Has (π := π) rules hl y
    have hy := hh y (by rw [h]; simp)
    rw [← memB_dec, hy] at hH
    simp [Nq, Xw, hlt, hltn, hg, hge, hH]
    exact ih _ (by simp [hws])
theorem ei_loop1 (d : Des) (hd : DesOk d) (rules : List Int) (hl : rules.length ≤ d.rules.length)
    (hm0 : ∀ r : Int, 0 ≤ r → r < (d.rules.length : Int) → memB rules r = false → orE d (rules ++ [r]) = 0 ∧ ordG d (rules ++ [r]).length (sortI (rules ++ [r])) [] = none) :
    ∀ (m K : Nat) (x : Env × Sto), K + m = d.rules.length → mask [1, 2, 10] [] x = some ([(1, .p (Z3 rules)), (2, .ref (2 :: π) 0), (10, .p (I K))], [Zt (2 :: π) d]) →
    kpO [] [4] [] (bkO 2 (iter (round EE iter π [] [1, 2, 10] Vs) x)) = some (.nm, [], [])
  | 0, K, x, h, hm => by
    rw [Z1 hm]
    have : K = d.rules.length := by omega
    subst this
    simp [Ve, Yo, Yk]
  | m + 1, K, x, h, hm => by
    rw [Z1 hm]
    have hdr := hd.rules
    have hlt : (K : Int) < d.rules.length := by omega
    have hltn : K < d.rules.length := by omega
    have hws := Zc hltn (show d.rules.length ≤ top63 by simp only [top63]; omega)
    have ih := fun x => ei_loop1 d hd rules hl hm0 m (K + 1) x (by omega)
    have hH := fun π => e_Has (π := π) rules (by omega) (K : Int)
    rw [← memB_dec] at hH
    have hcp := fun π => e_CopyDesign (π := π) d hd
    have hci := fun π => Z1v (π := π) (ints rules) (by simp only [List.length_map, room]; omega)
    have hr1 : rules.length + 1 ≤ room := by simp only [room]; omega
    have hr0 : rules.length ≤ room := by simp only [room]; omega
    unfold Z6 at hcp
    cases hmb : memB rules (K : Int) with
    | true =>
      rw [hmb] at hH
      simp [Ve, Yo, Yk, hlt, hltn, hH]
      exact ih _ (by simp [hws, Yk])
    | false =>
      obtain ⟨h1, h2⟩ := hm0 K (by omega) hlt hmb
      have h3 := (orE_val h1).2.1
      have hO := fun π => e_OrderFor (π := π) d hd (rules ++ [(K : Int)]) (by omega)
      simp only [h1, h2, if_true] at hO
      unfold Z6 at hO
      simp only [Z3, ints, List.map_append, List.map_cons, List.map_nil] at hO
      have hfg : PV.fg.PV.fgL (ints rules ++ [I (K : Int)]) = List.map I rules ++ [I (K : Int)] := by
        rw [show ints rules ++ [I (K : Int)] = (rules ++ [(K : Int)]).map (PV.int .i64) by simp, fgL_ints]
      rw [hmb] at hH
      simp [Ve, Yo, Yk, hlt, hltn, hH, hcp, hci, hO, hr1, hr0, hfg, Y3, Z4, fgL_nodesC, fgL_rulsC, fgL_atbsC]
      refine ih _ ?_
      simp [hws, Yk]
theorem ei_loop2 (d : Des) (hd : DesOk d) (h0 : (desE d).2 = 0) (rules o : List Int) (hl : rules.length ≤ 1000) (hc : o.length ≤ 1000) (hin : inR d o) (hh : ∀ x ∈ o, memB rules x = true) (hds : ∀ i (h : i + 1 < o.length), o[i + 1] < o[i] → mpI d o[i + 1] o[i] = false) :
    ∀ (suf pre : List Int) (x : Env × Sto), o = pre ++ suf → mask [1, 2, 5, 13] [] x = some ([(1, .p (Z3 rules)), (2, .ref (2 :: π) 0), (5, .ap (1009 :: 37 :: π)), (13, .p (I pre.length))], [rowL (1009 :: 37 :: π) o, Zt (2 :: π) d]) →
    kpO [2, 5] [4] [] (bkO 4 (iter (round EE iter π [] [1, 2, 5, 13] Vr) x)) = some (.nm, [(2, .ref (2 :: π) 0), (5, .ap (1009 :: 37 :: π))], [rowL (1009 :: 37 :: π) o, Zt (2 :: π) d])
  | [], pre, x, h, hm => by
    rw [Z1 hm]
    have : pre = o := by simpa using h.symm
    subst this
    simp [Xq, Y4]
  | y :: suf, pre, x, h, hm => by
    rw [Z1 hm]
    have hlt := Z9 h
    have hltn : pre.length < o.length := by omega
    have hg : o[pre.length]? = some y := by rw [h]; simp
    have hge : o[pre.length] = y := by simpa [hltn] using hg
    have hws := Zc hltn (show o.length ≤ top63 by simp only [top63]; omega)
    have ih := fun x => ei_loop2 d hd h0 rules o hl hc hin hh hds suf (pre ++ [y]) x (by simp [h])
    have hH := fun π => e_Has (π := π) rules hl y
    have hy := hh y (by rw [h]; simp)
    rw [← memB_dec, hy] at hH
    have hyr := hin y (by rw [h]; simp)
    by_cases hp : pre.length = 0
    · have hpi : ¬ (0 : Int) < pre.length := by omega
      have hpn : ¬ 0 < pre.length := by omega
      simp [Xq, Y4, hlt, hltn, hg, hge, hH, hpi, hpn]
      exact ih _ (by simp [hws])
    · obtain ⟨k, hk⟩ : ∃ k, pre.length = k + 1 := ⟨pre.length - 1, by omega⟩
      have hpi : (0 : Int) < pre.length := by omega
      have hpn : 0 < pre.length := by omega
      have hkl : k < o.length := by omega
      have hgk : o[k]? = some o[k] := by simp [hkl]
      have hw : IntKind.i64.wrap ((pre.length : Int) - 1) = (k : Nat) := by
        rw [hk]
        have : (((k + 1 : Nat) : Int) - 1) = (k : Nat) := by omega
        rw [this]; exact wrap64 (by omega) (by omega)
      have hM := fun π => e_MayR (π := π) d hd h0 y o[k] hyr (hin _ (List.getElem_mem hkl))
      have hdk := hds k (by omega)
      simp only [← hk, hge] at hdk
      generalize hzz : o[k] = z at *
      by_cases hz : y < z
      · rw [hdk hz] at hM
        unfold Z6 at hM
        simp [Xq, Y4, Yk, hlt, hltn, hg, hge, hH, hpi, hpn, hw, hgk, hkl, hzz, hz, hM]
        exact ih _ (by simp [hws, Yk])
      · simp [Xq, Y4, hlt, hltn, hg, hge, hH, hpi, hpn, hw, hgk, hkl, hzz, hz]
        exact ih _ (by simp [hws])
end Go.Proofs.YteecfnfjlclhdaaGreat.V

/- The law ConflictEither, in the evaluator: all its ways. -/
namespace Go.Proofs.YteecfnfjlclhdaaGreat.V
open Go (IntKind BinOp UnOp)
theorem e_RulesErrL {π : Id} (d : Des) (rules : List Int) (h : d.rules.length < rules.length) : EE π Xj [.p (Z6 d), .p (Z3 rules)] [] = some (.p (I (rulsE d rules)), []) := by
  unfold rulsE
  simp [Fb, Z0, Qv, Z6, h]
theorem Fd {π : Id} (d : Des) (hd : DesOk d) (rules : List Int) : EE π Xj [.p (Z6 d), .p (Z3 rules)] [] = some (.p (I (rulsE d rules)), []) := by
  by_cases h : d.rules.length < rules.length
  · exact e_RulesErrL d rules h
  · exact e_RulesErr d hd rules (by have := hd.rules; omega)
theorem either_few (d : Des) (rules : List Int) (hw : Awake16 [16]) (hf : fewD d = false) : ∃ s, EE [] Zs [.p (Z6 d), .p (Z3 rules)] [] = some (.p (.bool true), s) := by
  have hfe := fun π => e_Few16 (π := π) d
  rw [hf] at hfe
  unfold Z6 at hfe
  refine ⟨[], ?_⟩
  simp [Xl, Z0, Y7, Z6, hw, hfe]
theorem either_err (d : Des) (hi : DesIn d) (rules : List Int) (hw : Awake16 [16]) (hf : fewD d = true) (h0 : ¬ orE d rules = 0) : ∃ s, EE [] Zs [.p (Z6 d), .p (Z3 rules)] [] = some (.p (.bool true), s) := by
  have hd := desOk_few hi hf
  have hfe := fun π => e_Few16 (π := π) d
  have hde := fun π => e_DesignErr (π := π) d hd
  have hre := fun π => Fd (π := π) d hd rules
  rw [hf] at hfe
  unfold Z6 at hfe hde hre
  unfold orE at h0
  refine ⟨[], ?_⟩
  by_cases h1 : (desE d).2 = 0
  · rw [if_pos h1] at h0
    simp [Xl, Z0, Y7, Z6, hw, hfe, hde, hre, h0, h1]
  · simp [Xl, Z0, Y7, Z6, hw, hfe, hde, h1]
theorem either_no (d : Des) (hi : DesIn d) (rules c : List Int) (hw : Awake16 [16]) (hf : fewD d = true) (h0 : orE d rules = 0) (hn : ordG d rules.length (sortI rules) [] = none) (hc : NoOrd d rules c) : ∃ s, EE [] Zs [.p (Z6 d), .p (Z3 rules)] [] = some (.p (.bool true), s) := by
  have hd := desOk_few hi hf
  obtain ⟨hv, hl, hin, hnd⟩ := orE_val h0
  obtain ⟨h1, h2⟩ := orE_des h0
  have hdr := hd.rules
  have hfe := fun π => e_Few16 (π := π) d
  have hde := fun π => e_DesignErr (π := π) d hd
  have hre := fun π => Fd (π := π) d hd rules
  have hrc := fun π => Fd (π := π) d hd c
  have hcp := fun π => e_CopyDesign (π := π) d hd
  have hci := fun π => Z1v (π := π) (ints rules) (by simp only [List.length_map, room]; omega)
  have hO := fun π => e_OrderFor (π := π) d hd rules (by omega)
  have hC := fun π => e_CycleIn (π := π) d hd rules (by omega)
  have hcl := hc.len
  have hcy := fun π => e_IsCycle (π := π) d hd h1 c (by omega) hc.inr
  have hlp0 := ei_loop0 (π := []) d rules c (by omega) (by omega) hc.has c []
  have hlp1 := fun x => ei_loop1 (π := []) d hd rules hl hc.more d.rules.length 0 x (by omega)
  have hcle : ¬ rules.length < c.length := by omega
  rw [hf] at hfe
  simp only [h0, hn, if_true] at hO
  simp only [h0, hc.cyc, if_true, cyE, optP] at hC
  simp only [hc.err] at hrc
  simp only [hc.isC] at hcy
  simp only [h2] at hre
  simp only [h1] at hde
  unfold Z6 at hfe hde hre hcp hO hC hrc hcy
  refine ⟨[], ?_⟩
  simp [Xl, Z0, Y7, Z6, hw, hfe, hde, hre, hcp, hci, hO, hC, hrc, hcy, hcle, Z4, fgL_nodesC, fgL_rulsC, fgL_atbsC]
  rw [hlp0 _ rfl (by simp [Yk])]
  simp [Yk]
  rw [hlp1 _ (by simp [Yk])]
  simp
theorem either_yes (d : Des) (hi : DesIn d) (rules o : List Int) (hw : Awake16 [16]) (hf : fewD d = true) (h0 : orE d rules = 0) (hn : ordG d rules.length (sortI rules) [] = some o) (hc : YesOrd d rules o) : ∃ s, EE [] Zs [.p (Z6 d), .p (Z3 rules)] [] = some (.p (.bool true), s) := by
  have hd := desOk_few hi hf
  obtain ⟨hv, hl, hin, hnd⟩ := orE_val h0
  obtain ⟨h1, h2⟩ := orE_des h0
  have hdr := hd.rules
  have hfe := fun π => e_Few16 (π := π) d
  have hde := fun π => e_DesignErr (π := π) d hd
  have hre := fun π => Fd (π := π) d hd rules
  have hrc := fun π => Fd (π := π) d hd o
  have hcp := fun π => e_CopyDesign (π := π) d hd
  have hci := fun π => Z1v (π := π) (ints rules) (by simp only [List.length_map, room]; omega)
  have hO := fun π => e_OrderFor (π := π) d hd rules (by omega)
  have hC := fun π => e_CycleIn (π := π) d hd rules (by omega)
  have hcl := hc.len
  have hck := fun π => e_CheckOrder (π := π) d hd o (by omega)
  have hlp2 := ei_loop2 (π := []) d hd h1 rules o (by omega) (by omega) hc.inr hc.has hc.desc o []
  rw [hf] at hfe
  simp only [h0, hn, if_true] at hO
  simp only [h0, hc.cyc, if_true, cyE, optP] at hC
  simp only [hc.orr, hc.chk, if_true] at hck
  simp only [hc.err] at hrc
  simp only [h2] at hre
  simp only [h1] at hde
  unfold Z6 at hfe hde hre hcp hO hC hrc hck
  refine ⟨[], ?_⟩
  simp [Xl, Z0, Y7, Z6, hw, hfe, hde, hre, hcp, hci, hO, hC, hrc, hck, hcl, Z4, fgL_nodesC, fgL_rulsC, fgL_atbsC]
  rw [hlp2 _ rfl (by simp [Yk])]
  simp [Yk, hcp, hck, Z4, fgL_nodesC, fgL_rulsC, fgL_atbsC]
end Go.Proofs.YteecfnfjlclhdaaGreat.V
