/- What all rules share, by the program. Which rule may precede which, and the relation of two rules, by the program. Which rule may precede which, and the relation of two rules, by the reference. RelationOf and MatrixOf. The matrix of relations, by program and reference. The matrix by the reference; s -/
import Derived.Test.YteecfnfjlclhdaaGreatS4

set_option linter.unusedSimpArgs false
set_option linter.unusedVariables false

/- What all rules share, by the program. -/
namespace Go.Proofs.YteecfnfjlclhdaaGreat.V
open Go (IntKind BinOp UnOp)
variable {π : Id}
abbrev rdP (d : Des) (r : Rul) : PV := .sl 1 (flagE (rdE d r)) (ints (rdE d r))
abbrev wrP (r : Rul) : PV := .sl 1 (flagE (r.writes.map fun w => w.el)) (ints (wrE r))
abbrev rowLL (id : Id) (l : List PV) : Id × Blk := (id, .row false t_L_int 1 (flagE l) l)
abbrev shCells (π : Id) (d : Des) : List AV := [.p (.str d.name), .p (encPrts d.inputs), .p (encElms d.elements), .p (encNodes d.nodes), .p (encRuls d.rules), .p (encOtps d.outputs), .p (encAtbs d.attrs), .p (encInts (dlv d)), .ap (900003 :: π), .ap (1000003 :: π)]
abbrev shZ : List AV := [.p (.str ⟨#[]⟩), .p (.sl 2 (some true) []), .p (.sl 5 (some true) []), .p (.sl 4 (some true) []), .p (.sl 3 (some true) []), .p (.sl 2 (some true) []), .p (.sl 2 (some true) []), .p (.sl 1 (some true) []), .p (.sl 1 (some true) []), .p (.sl 1 (some true) [])]
theorem shr_region (N : PV) (C1 C2 C3 : List AV) (h1 : C1.length = 8) (h1' : AV.mkAgg (seg 0 8 C1) = .p N) (h1i : AV.ids.AV.idsL C1 = []) (h2i : AV.ids.AV.idsL C2 = [])
    (h3 : C3.length = 10) (h38 : C3[8]'(by omega) = .ap (900003 :: π)) (h39 : C3[9]'(by omega) = .ap (1000003 :: π)) (h3i : AV.ids.AV.idsL C3 = [900003 :: π, 1000003 :: π])
    (K3 : List AV) (hk : ∀ p : Id → Bool, p (900003 :: π) = true → p (1000003 :: π) = true → C3.map (AV.killP p) = K3) (hk3 : K3.length = 10) (hki : AV.ids.AV.idsL K3 = [])
    (L3 : List AV) (hs1 : setCells K3 8 [AV.ap (900003 :: π)] = L3) (hl3 : L3.length = 10) (hs2 : setCells L3 9 [AV.ap (1000003 :: π)] = C3)
    (n : Int) (k : Nat) (R W : List PV) (fr fw fR fW : Option Bool) (r w : List Int) (hfr : fR = flagE R) (hfw : fW = flagE W) (hR : R.length + 1 ≤ room) (hW : W.length + 1 ≤ room)
    (hN : N.fg = N)
    (hrd : ∀ π, EE π n_cf_nw_reads [.p N, .p (I k)] [] = some (.ap (1004 :: 41 :: π), [(1004 :: 41 :: π, .row false t_int 1 fr (ints r))]))
    (hwr : ∀ π, EE π n_cf_nw_writes [.p N, .p (I k)] [] = some (.p (.sl 1 fw (ints w)), [])) (hlt : (k : Int) < n) (hws : IntKind.i64.wrap ((k : Int) + 1) = k + 1) :
    ∃ st, evC EE iter π [] c_cf_nw_shared_L0 [(1, .ref (1 :: π) 0), (2, .ref (2 :: π) 0), (3, .ref (3 :: π) 0), (10, .p (I n)), (11, .p (I k))] [(1000003 :: π, .row false t_L_int 1 fW W), (900003 :: π, .row false t_L_int 1 fR R), (3 :: π, .box false C3), (2 :: π, .box false C2), (1 :: π, .box false C1)] = some (.nm, st) ∧ mask [1, 2, 3, 10, 11] [] st = some ([(1, .ref (1 :: π) 0), (2, .ref (2 :: π) 0), (3, .ref (3 :: π) 0), (10, .p (I n)), (11, .p (I (k + 1 : Nat)))], [(1000003 :: π, .row false t_L_int 1 (some false) (W ++ [.sl 1 fw (ints w)])), (900003 :: π, .row false t_L_int 1 (some false) (R ++ [.sl 1 fr (ints r)])), (3 :: π, .box false C3), (2 :: π, .box false C2), (1 :: π, .box false C1)]) := by
  obtain ⟨q, hq⟩ : ∃ q, evC EE iter π [] c_cf_nw_shared_L0 [(1, .ref (1 :: π) 0), (2, .ref (2 :: π) 0), (3, .ref (3 :: π) 0), (10, .p (I n)), (11, .p (I k))] [(1000003 :: π, .row false t_L_int 1 fW W), (900003 :: π, .row false t_L_int 1 fR R), (3 :: π, .box false C3), (2 :: π, .box false C2), (1 :: π, .box false C1)] = q := ⟨_, rfl⟩
  have hq2 := hq
  simp [-seg, -AV.mkAgg, -setCells, u_cf_nw_shared_L0, b_cf_nw_shared_L0, hlt, hrd, hwr, evRO, freeze, hR, hW, h1, h1', h1i, h2i, h3, h38, h39, h3i, hk, hk3, hs1, hl3, hs2, hN, hws] at hq2
  subst hq2
  refine ⟨_, hq, ?_⟩
  simp [h1i, h2i, h3i]
theorem fgL_rd (d : Des) (l : List Rul) : PV.fg.PV.fgL (l.map (rdP d)) = l.map fun r => encInts (rdE d r) := fgL_map _ _ (fun x => by simp) l
theorem fgL_wr (l : List Rul) : PV.fg.PV.fgL (l.map wrP) = l.map fun r => encInts (wrE r) := fgL_map _ _ (fun x => by simp) l
theorem shr_loop (d : Des) (hd : DesOk d) (hv : DesVal d) : ∀ (suf pre : List Rul) (x : Env × Sto), d.rules = pre ++ suf →
    mask [1, 2, 3, 10, 11] [] x = some ([(1, .ref (1 :: π) 0), (2, .ref (2 :: π) 0), (3, .ref (3 :: π) 0), (10, .p (I d.rules.length)), (11, .p (I pre.length))], [rowLL (1000003 :: π) (pre.map wrP), rowLL (900003 :: π) (pre.map (rdP d)), (3 :: π, .box false (shCells π d)), (2 :: π, .box false shZ), netBox (1 :: π) d]) →
    kpO [2, 3] [2] [] (bkO 0 (iter (round EE iter π [] [1, 2, 3, 10, 11] c_cf_nw_shared_L0) x)) = some (.nm, [(2, .ref (2 :: π) 0), (3, .ref (3 :: π) 0)], [rowLL (1000003 :: π) (d.rules.map wrP), rowLL (900003 :: π) (d.rules.map (rdP d)), (3 :: π, .box false (shCells π d)), (2 :: π, .box false shZ)])
  | [], pre, x, h, hm => by
    rw [loop_eq hm]
    have : pre = d.rules := by simpa using h.symm
    subst this
    simp [u_cf_nw_shared_L0, b_cf_nw_shared_L0]
  | y :: suf, pre, x, h, hm => by
    rw [loop_eq hm]
    have hg : d.rules[pre.length]? = some y := by rw [h]; simp
    have hlt := lt_mid h
    have hr := hd.rules
    have hws := w_succ (show pre.length < d.rules.length by omega) (show d.rules.length ≤ top63 by simp only [top63]; omega)
    have hrd := fun π => e_readsC (π := π) d hd hv pre.length y (by simpa using hg) (by omega) hlt
    have hwr := fun π => e_writesC (π := π) d hd pre.length y (by simpa using hg) (by omega) hlt
    have hrm : pre.length + 1 ≤ room := by simp only [room]; omega
    obtain ⟨st, h1, h2⟩ := shr_region (π := π) (encNet d) ((netCells d).map .p) shZ (shCells π d) (by simp) (by simp) (by simp) (by simp) (by simp) (by simp) (by simp) (by simp)
      _ (fun p h1 h2 => by simp only [List.map_cons, List.map_nil, AV.killP, AV.ids, List.any_nil, List.any_cons, h1, h2, Bool.or_false, if_true, Bool.false_eq_true, if_false]; rfl) (by simp) (by simp) _ rfl (by simp) (by simp)
      d.rules.length pre.length (pre.map (rdP d)) (pre.map wrP) (flagE (rdE d y)) (flagE (y.writes.map fun w => w.el)) _ _ (rdE d y) (wrE y) rfl rfl (by simpa using hrm) (by simpa using hrm) (by simp) hrd hwr hlt hws
    rw [h1]
    simp only [nextO_nm]
    exact shr_loop d hd hv suf (pre ++ [y]) st (by simp [h]) (by rw [h2]; simp [flagE_snoc])
abbrev shA (π : Id) (d : Des) : AV := .agg [.p (.str d.name), .p (encPrts d.inputs), .p (encElms d.elements), .p (encNodes d.nodes), .p (encRuls d.rules), .p (encOtps d.outputs), .p (encAtbs d.attrs), .p (encInts (dlv d)), .ap (900003 :: π), .ap (1000003 :: π)]
abbrev shS (π : Id) (d : Des) : Sto := [rowLL (1000003 :: π) (d.rules.map wrP), rowLL (900003 :: π) (d.rules.map (rdP d))]
theorem e_shared (d : Des) (hd : DesOk d) (hv : DesVal d) : EE π n_cf_nw_shared [.p (encNet d)] [] = some (shA π d, shS π d) := by
  have hlp := shr_loop (π := π) d hd hv d.rules []
  simp [e_cf_nw_shared, run_eq, c_cf_nw_shared, thaw, thaw1]
  rw [hlp _ rfl (by simp [flagE])]
  simp
end Go.Proofs.YteecfnfjlclhdaaGreat.V

/- Which rule may precede which, and the relation of two rules, by the program. -/
namespace Go.Proofs.YteecfnfjlclhdaaGreat.V
open Go (IntKind BinOp UnOp)
variable {π : Id}
def kdOf (l : List Elm) (n : Int) : Int := (l.getD n.toNat elm0).kind
def commonB (els : List Elm) (a b : List Int) (k : Int) : Bool := a.any fun n => decide (kdOf els n = k) && memB b n
abbrev shLs (d : Des) : List PV := [.str d.name, encPrts d.inputs, encElms d.elements, encNodes d.nodes, encRuls d.rules, encOtps d.outputs, encAtbs d.attrs, encInts (dlv d), .sl 1 none (d.rules.map fun r => encInts (rdE d r)), .sl 1 none (d.rules.map fun r => encInts (wrE r))]
abbrev encShr (d : Des) : PV := .agg (shLs d)
@[simp] theorem fgL_rd' (d : Des) (l : List Rul) : PV.fg.PV.fgL (l.map fun r => encInts (rdE d r)) = l.map fun r => encInts (rdE d r) := fgL_map _ _ (fun x => by simp) l
@[simp] theorem fgL_wr' (l : List Rul) : PV.fg.PV.fgL (l.map fun r => encInts (wrE r)) = l.map fun r => encInts (wrE r) := fgL_map _ _ (fun x => by simp) l
theorem e_common1 (d : Des) (b : List Int) (hb : b.length ≤ 2000) (k n : Int) (h0 : 0 ≤ n) (hn : n < (d.elements.length : Int)) :
    EE π n_cf_sh_common_1 [.p (I n), .p (.ptr (shLs d)), .p (.ptr [I k]), .p (.ptr [encInts b])] [] = some (.p (.bool (decide (kdOf d.elements n = k) && memB b n)), []) := by
  have hlt : n.toNat < d.elements.length := by omega
  have hg : d.elements[n.toNat] = d.elements.getD n.toNat elm0 := by simp [hlt]
  have hk : kdOf d.elements n = (d.elements.getD n.toNat elm0).kind := rfl
  have hc := fun π => e_Contains (π := π) b (by simp only [top63]; omega) n
  rw [hk]
  generalize d.elements.getD n.toNat elm0 = x at *
  generalize memB b n = m at *
  by_cases hx : x.kind = k
  · simp [e_cf_sh_common_1, run_eq, c_cf_sh_common_1, h0, hn, hlt, hg, encElm, hx, hc, evRO, freeze]
  · simp [e_cf_sh_common_1, run_eq, c_cf_sh_common_1, h0, hn, hlt, hg, encElm, hx, evRO, freeze]
theorem e_common (d : Des) (a b : List Int) (ha : a.length ≤ 2000) (hb : b.length ≤ 2000) (k : Int) (hin : ∀ n ∈ a, 0 ≤ n ∧ n < (d.elements.length : Int)) :
    EE π n_cf_sh_common [.p (encShr d), .p (encInts a), .p (encInts b), .p (I k)] [] = some (.p (.bool (commonB d.elements a b k)), []) := by
  have hc := fun π => e_CoFI (π := π) a (by simp only [top63]; omega) (f := n_cf_sh_common_1) (caps := [.ptr (shLs d), .ptr [I k], .ptr [encInts b]]) (p := fun n => decide (kdOf d.elements n = k) && memB b n) (fun x hx => by
    have := e_common1 (π := 16 :: 7 :: π) d b hb k x (hin x hx).1 (hin x hx).2
    simpa using this)
  unfold commonB
  generalize (a.any fun n => decide (kdOf d.elements n = k) && memB b n) = r at *
  simp [e_cf_sh_common, run_eq, c_cf_sh_common, freeze, hc]
def mpR (d : Des) (ra rb : Rul) : Bool := !commonB d.elements (wrE ra) (rdE d rb) 0 && !commonB d.elements (rdE d ra) (wrE rb) 1
theorem usedE_in {ni : Nat} {m : Nat} {l : List Int} (hl : ∀ n ∈ l, 0 ≤ n ∧ n < ((ni + m : Nat) : Int)) : ∀ n ∈ usedE ni l, 0 ≤ n ∧ n < (m : Int) := fun n hn => by
  unfold usedE at hn
  obtain ⟨k, hk, rfl⟩ := List.mem_map.1 hn
  obtain ⟨h1, h2⟩ := List.mem_filter.1 hk
  have := hl k h1
  simp at h2
  omega
theorem rdE_in (d : Des) (r : Rul) : ∀ n ∈ rdE d r, 0 ≤ n ∧ n < (d.elements.length : Int) := usedE_in fun n hn => by
  have := lvN_mem hn
  simpa [dlv] using this
theorem wrE_in' {d : Des} (hv : DesVal d) {r : Rul} (hr : r ∈ d.rules) : ∀ n ∈ wrE r, 0 ≤ n ∧ n < (d.elements.length : Int) := fun n hn => by
  unfold wrE at hn
  rw [mem_cmpI, (sortI_perm _).mem_iff] at hn
  exact wrE_in hv hr n hn
theorem e_mayC (d : Des) (hd : DesOk d) (hv : DesVal d) (a b : Int) (ra rb : Rul) (ha : d.rules[a.toNat]? = some ra) (hb : d.rules[b.toNat]? = some rb) (ha0 : 0 ≤ a) (ha1 : a < (d.rules.length : Int)) (hb0 : 0 ≤ b) (hb1 : b < (d.rules.length : Int)) :
    EE π n_cf_sh_mayPrecede [.p (encShr d), .p (I a), .p (I b)] [] = some (.p (.bool (mpR d ra rb)), []) := by
  have hla : a.toNat < d.rules.length := by omega
  have hlb : b.toNat < d.rules.length := by omega
  have hra : d.rules[a.toNat] = ra := by simpa [hla] using ha
  have hrb : d.rules[b.toNat] = rb := by simpa [hlb] using hb
  have hma := List.mem_of_getElem? ha
  have hmb := List.mem_of_getElem? hb
  have hwa := wrE_len hd hv hma
  have hwb := wrE_len hd hv hmb
  have hc1 := fun π => e_common (π := π) d (wrE ra) (rdE d rb) (by omega) (rdE_len d hd rb) 0 (wrE_in' hv hma)
  have hc2 := fun π => e_common (π := π) d (rdE d ra) (wrE rb) (rdE_len d hd ra) (by omega) 1 (rdE_in d ra)
  unfold mpR
  generalize commonB d.elements (wrE ra) (rdE d rb) 0 = b1 at *
  generalize commonB d.elements (rdE d ra) (wrE rb) 1 = b2 at *
  cases b1
  · simp [e_cf_sh_mayPrecede, run_eq, c_cf_sh_mayPrecede, ha0, ha1, hb0, hb1, hla, hlb, hra, hrb, hc1, hc2, evRO, freeze]
  · simp [e_cf_sh_mayPrecede, run_eq, c_cf_sh_mayPrecede, ha0, ha1, hb0, hb1, hla, hlb, hra, hrb, hc1, evRO, freeze]
def bothB (ra rb : Rul) : Bool := (wrE ra).any fun n => memB (wrE rb) n
def relE (same there back both : Bool) : Int := if same || (!there && !back) then 4 else if there && !back then 2 else if !there then 3 else if both then 1 else 0
theorem e_rel1 (d : Des) (hd : DesOk d) (hv : DesVal d) (b n : Int) (rb : Rul) (hb : d.rules[b.toNat]? = some rb) (hb0 : 0 ≤ b) (hb1 : b < (d.rules.length : Int)) :
    EE π n_cf_sh_relation_1 [.p (I n), .p (.ptr (shLs d)), .p (.ptr [I b])] [] = some (.p (.bool (memB (wrE rb) n)), []) := by
  have hlb : b.toNat < d.rules.length := by omega
  have hrb : d.rules[b.toNat] = rb := by simpa [hlb] using hb
  have hwb := wrE_len hd hv (List.mem_of_getElem? hb)
  have hc := fun π => e_Contains (π := π) (wrE rb) (by simp only [top63]; omega) n
  generalize memB (wrE rb) n = m at *
  simp [e_cf_sh_relation_1, run_eq, c_cf_sh_relation_1, hb0, hb1, hlb, hrb, hc, freeze]
theorem e_relC (d : Des) (hd : DesOk d) (hv : DesVal d) (a b : Int) (ra rb : Rul) (ha : d.rules[a.toNat]? = some ra) (hb : d.rules[b.toNat]? = some rb) (ha0 : 0 ≤ a) (ha1 : a < (d.rules.length : Int)) (hb0 : 0 ≤ b) (hb1 : b < (d.rules.length : Int)) :
    EE π n_cf_sh_relation [.p (encShr d), .p (I a), .p (I b)] [] = some (.p (I (relE (decide (a = b)) (mpR d ra rb) (mpR d rb ra) (bothB ra rb))), []) := by
  have hla : a.toNat < d.rules.length := by omega
  have hra : d.rules[a.toNat] = ra := by simpa [hla] using ha
  have hwa := wrE_len hd hv (List.mem_of_getElem? ha)
  have hm1 := fun π => e_mayC (π := π) d hd hv a b ra rb ha hb ha0 ha1 hb0 hb1
  have hm2 := fun π => e_mayC (π := π) d hd hv b a rb ra hb ha hb0 hb1 ha0 ha1
  have hc := fun π => e_CoFI (π := π) (wrE ra) (by simp only [top63]; omega) (f := n_cf_sh_relation_1) (caps := [.ptr (shLs d), .ptr [I b]]) (p := fun n => memB (wrE rb) n) (fun x hx => by
    have := e_rel1 (π := 16 :: 7 :: π) d hd hv b x rb hb hb0 hb1
    simpa using this)
  change ∀ π, _ = some (AV.p (PV.bool (bothB ra rb)), _) at hc
  unfold relE
  by_cases hab : a = b
  · subst hab
    generalize mpR d ra rb = t at *
    generalize mpR d rb ra = k at *
    generalize bothB ra rb = o at *
    simp [e_cf_sh_relation, run_eq, c_cf_sh_relation, ha0, ha1, hla, hra, hm1, hc, evRO, freeze]
  · generalize mpR d ra rb = t at *
    generalize mpR d rb ra = k at *
    generalize bothB ra rb = o at *
    cases t <;> cases k <;> cases o <;> simp [e_cf_sh_relation, run_eq, c_cf_sh_relation, ha0, ha1, hla, hra, hm1, hm2, hc, evRO, freeze, hab]
end Go.Proofs.YteecfnfjlclhdaaGreat.V

/- Which rule may precede which, and the relation of two rules, by the reference. -/
namespace Go.Proofs.YteecfnfjlclhdaaGreat.V
open Go (IntKind BinOp UnOp)
variable {π : Id}
theorem desKind {d : Des} (h : (desE d).2 = 0) : ∀ x ∈ d.elements, x.kind = 0 ∨ x.kind = 1 := fun x hx => by
  unfold desE stagesE at h
  obtain ⟨_, h⟩ := firstP_z h
  obtain ⟨_, h⟩ := firstP_z h
  obtain ⟨_, h⟩ := firstP_z h
  obtain ⟨h4, h⟩ := firstP_z h
  obtain ⟨K, hK⟩ := eachK_all _ _ _ _ _ h4 x hx
  rw [elmE_eq] at hK
  cases hw : within x.kind 0 1 with
  | true => have := within_iff.1 hw; omega
  | false =>
    rw [hw] at hK
    repeat' split at hK
    all_goals first | contradiction | omega | skip
theorem rdE_len' (d : Des) (hv : DesVal d) (r : Rul) : (rdE d r).length ≤ 40 := by
  have h := trues_len2 (isLv (dlv d).length d.nodes (rdFrom r)) 0
  have hl : (isLv (dlv d).length d.nodes (rdFrom r)).length = (dlv d).length := by unfold isLv; rw [markAll_len]; simp
  have hk : (dlv d).length ≤ 40 := by have := hv.ll; simp [dlv]; omega
  have h2 : (rdE d r).length ≤ (lvD d (rdFrom r)).length := by unfold rdE usedE; rw [List.length_map]; exact List.length_filter_le _ _
  have h3 : (lvD d (rdFrom r)).length = (trues 0 (isLv (dlv d).length d.nodes (rdFrom r))).length := rfl
  omega
def mpK (d : Des) (ra rb : Rul) (k : Int) : Bool := if kdOf d.elements k = 1 then decide (k ∈ rdE d ra) && decide (k ∈ wrE rb) else decide (k ∈ wrE ra) && decide (k ∈ rdE d rb)
def anyUp (p : Int → Bool) : Nat → Nat → Bool
  | 0, _ => false
  | s + 1, i => p i || anyUp p s (i + 1)
theorem anyUp_iff (p : Int → Bool) : ∀ (s i : Nat), anyUp p s i = true ↔ ∃ k : Int, (i : Int) ≤ k ∧ k < ((i + s : Nat) : Int) ∧ p k = true
  | 0, i => by simp [anyUp]; omega
  | s + 1, i => by
    unfold anyUp
    rw [Bool.or_eq_true, anyUp_iff p s (i + 1)]
    constructor
    · rintro (h | ⟨k, h1, h2, h3⟩)
      · exact ⟨i, by omega, by omega, h⟩
      · exact ⟨k, by omega, by omega, h3⟩
    · rintro ⟨k, h1, h2, h3⟩
      by_cases e : k = i
      · subst e; exact .inl h3
      · exact .inr ⟨k, by omega, by omega, h3⟩
theorem may_loop (d : Des) (hd : DesOk d) (hv : DesVal d) (a b : Int) (ra rb : Rul) (ha : d.rules[a.toNat]? = some ra) (hb : d.rules[b.toNat]? = some rb) (ha0 : 0 ≤ a) (ha1 : a < (d.rules.length : Int)) (hb0 : 0 ≤ b) (hb1 : b < (d.rules.length : Int)) :
    ∀ (s i : Nat) (x : Env × Sto), i + s = d.elements.length → mask [1, 2, 3, 7] [] x = some ([(1, .p (I a)), (2, .p (I b)), (3, .ref (3 :: π) 0), (7, .p (I i))], [desBox (3 :: π) d]) →
    kpO [] [6] [] (bkO 0 (iter (round EE iter π [] [1, 2, 3, 7] c_rb_MayPrecede_L0) x)) = (if anyUp (mpK d ra rb) s i = true then some (.rt, [(6, .p (.bool false))], []) else some (.nm, [], []))
  | 0, i, x, h, hm => by
    rw [loop_eq hm]
    have : (i : Int) = d.elements.length := by omega
    simp [u_rb_MayPrecede_L0, b_rb_MayPrecede_L0, anyUp, this]
  | s + 1, i, x, h, hm => by
    rw [loop_eq hm]
    have he := hd.elements
    have hlt : (i : Int) < d.elements.length := by omega
    have hltn : i < d.elements.length := by omega
    have hg : d.elements[i]? = some (d.elements.getD i elm0) := by simp [hltn]
    have hk : kdOf d.elements (i : Int) = (d.elements.getD i elm0).kind := by simp [kdOf]
    have hws := w_succ hltn (show d.elements.length ≤ top63 by simp only [top63]; omega)
    have ih := fun x => may_loop d hd hv a b ra rb ha hb ha0 ha1 hb0 hb1 s (i + 1) x (by omega)
    have hma := List.mem_of_getElem? ha
    have hmb := List.mem_of_getElem? hb
    have hWa := fun π => e_Writes (π := π) d hd hv a ra ha ha0 ha1
    have hWb := fun π => e_Writes (π := π) d hd hv b rb hb hb0 hb1
    have hRa := fun π => e_Reads (π := π) d hd hv a ra ha ha0 ha1
    have hRb := fun π => e_Reads (π := π) d hd hv b rb hb hb0 hb1
    have hHWa := fun π => e_Has (π := π) (wrE ra) (wrE_len hd hv hma) i
    have hHWb := fun π => e_Has (π := π) (wrE rb) (wrE_len hd hv hmb) i
    have hHRa := fun π => e_Has (π := π) (rdE d ra) (by have := rdE_len' d hv ra; omega) i
    have hHRb := fun π => e_Has (π := π) (rdE d rb) (by have := rdE_len' d hv rb; omega) i
    unfold encDes at hWa hWb hRa hRb
    have hst : anyUp (mpK d ra rb) (s + 1) i = (mpK d ra rb i || anyUp (mpK d ra rb) s (i + 1)) := rfl
    rw [hst]
    unfold mpK
    rw [hk]
    change ∀ x, _ → _ = if anyUp (fun k => if kdOf d.elements k = 1 then decide (k ∈ rdE d ra) && decide (k ∈ wrE rb) else decide (k ∈ wrE ra) && decide (k ∈ rdE d rb)) s (i + 1) = true then _ else _ at ih
    generalize anyUp (fun k => if kdOf d.elements k = 1 then decide (k ∈ rdE d ra) && decide (k ∈ wrE rb) else decide (k ∈ wrE ra) && decide (k ∈ rdE d rb)) s (i + 1) = T at *
    generalize d.elements.getD i elm0 = y at *
    generalize decide ((i : Int) ∈ wrE ra) = m1 at *
    generalize decide ((i : Int) ∈ wrE rb) = m2 at *
    generalize decide ((i : Int) ∈ rdE d ra) = m3 at *
    generalize decide ((i : Int) ∈ rdE d rb) = m4 at *
    generalize wrE ra = W1 at *
    generalize wrE rb = W2 at *
    generalize rdE d ra = R1 at *
    generalize rdE d rb = R2 at *
    by_cases hw : y.kind = 1
    · cases m3
      · simp [u_rb_MayPrecede_L0, b_rb_MayPrecede_L0, hlt, hg, encElm, hw, hRa, hHRa]
        exact ih _ (by simp [hws])
      · cases m2
        · simp [u_rb_MayPrecede_L0, b_rb_MayPrecede_L0, hlt, hg, encElm, hw, hRa, hHRa, hWb, hHWb]
          exact ih _ (by simp [hws])
        · simp [u_rb_MayPrecede_L0, b_rb_MayPrecede_L0, hlt, hg, encElm, hw, hRa, hHRa, hWb, hHWb]
    · cases m1
      · simp [u_rb_MayPrecede_L0, b_rb_MayPrecede_L0, hlt, hg, encElm, hw, hWa, hHWa]
        exact ih _ (by simp [hws])
      · cases m4
        · simp [u_rb_MayPrecede_L0, b_rb_MayPrecede_L0, hlt, hg, encElm, hw, hRb, hHRb, hWa, hHWa]
          exact ih _ (by simp [hws])
        · simp [u_rb_MayPrecede_L0, b_rb_MayPrecede_L0, hlt, hg, encElm, hw, hRb, hHRb, hWa, hHWa]
theorem any_mpK {d : Des} (hk : ∀ x ∈ d.elements, x.kind = 0 ∨ x.kind = 1) (hv : DesVal d) {ra rb : Rul} (hma : ra ∈ d.rules) (hmb : rb ∈ d.rules) : anyUp (mpK d ra rb) d.elements.length 0 = !mpR d ra rb := by
  have kd : ∀ {k : Int}, 0 ≤ k → k < (d.elements.length : Int) → kdOf d.elements k = 0 ∨ kdOf d.elements k = 1 := fun {k} h0 h1 => by
    have hlt : k.toNat < d.elements.length := by omega
    have : d.elements.getD k.toNat elm0 = d.elements[k.toNat] := by simp [hlt]
    unfold kdOf
    rw [this]
    exact hk _ (List.getElem_mem hlt)
  rw [Bool.eq_iff_iff, anyUp_iff]
  unfold mpR commonB
  rw [Bool.not_eq_true', Bool.and_eq_false_iff, Bool.not_eq_false', Bool.not_eq_false', List.any_eq_true, List.any_eq_true]
  constructor
  · rintro ⟨k, h0, h1, h2⟩
    unfold mpK at h2
    have h0' : 0 ≤ k := by omega
    have h1' : k < (d.elements.length : Int) := by omega
    split at h2
    · rename_i hw
      simp only [Bool.and_eq_true, decide_eq_true_eq] at h2
      exact .inr ⟨k, h2.1, by simp [hw, memB_iff, h2.2]⟩
    · rename_i hw
      simp only [Bool.and_eq_true, decide_eq_true_eq] at h2
      have : kdOf d.elements k = 0 := (kd h0' h1').resolve_right hw
      exact .inl ⟨k, h2.1, by simp [this, memB_iff, h2.2]⟩
  · rintro (⟨k, h1, h2⟩ | ⟨k, h1, h2⟩)
    · have hi := wrE_in' hv hma k h1
      simp only [Bool.and_eq_true, decide_eq_true_eq, memB_iff] at h2
      exact ⟨k, by omega, by omega, by unfold mpK; rw [if_neg (by omega)]; simp [h1, h2.2]⟩
    · have hi := rdE_in d ra k h1
      simp only [Bool.and_eq_true, decide_eq_true_eq, memB_iff] at h2
      exact ⟨k, by omega, by omega, by unfold mpK; rw [if_pos h2.1]; simp [h1, h2.2]⟩
theorem e_May (d : Des) (hd : DesOk d) (h0 : (desE d).2 = 0) (a b : Int) (ra rb : Rul) (ha : d.rules[a.toNat]? = some ra) (hb : d.rules[b.toNat]? = some rb) (ha0 : 0 ≤ a) (ha1 : a < (d.rules.length : Int)) (hb0 : 0 ≤ b) (hb1 : b < (d.rules.length : Int)) :
    EE π n_rb_MayPrecede [.p (encDes d), .p (I a), .p (I b)] [] = some (.p (.bool (mpR d ra rb)), []) := by
  have hlp := may_loop (π := π) d hd (desVal h0) a b ra rb ha hb ha0 ha1 hb0 hb1 d.elements.length 0
  rw [any_mpK (desKind h0) (desVal h0) (List.mem_of_getElem? ha) (List.mem_of_getElem? hb)] at hlp
  generalize mpR d ra rb = r at *
  simp [e_rb_MayPrecede, run_eq, c_rb_MayPrecede, encDes]
  rw [hlp _ (by simp) (by simp)]
  cases r <;> simp
theorem rel_loop (d : Des) (hd : DesOk d) (hv : DesVal d) (a : Int) (ra : Rul) (ha : d.rules[a.toNat]? = some ra) (ha0 : 0 ≤ a) (ha1 : a < (d.rules.length : Int)) (l : List Int) (hl : l.length ≤ 1000) :
    ∀ (suf pre : List Int) (x : Env × Sto), l = pre ++ suf → mask [1, 3, 9, 10] [] x = some ([(1, .p (I a)), (3, .ref (3 :: π) 0), (9, .ap (1005 :: 25 :: π)), (10, .p (I pre.length))], [rowL (1005 :: 25 :: π) l, desBox (3 :: π) d]) →
    kpO [] [6] [] (bkO 0 (iter (round EE iter π [] [1, 3, 9, 10] c_rr16_Relation_L0) x)) = (if (suf.any fun n => memB (wrE ra) n) = true then some (.rt, [(6, .p (I 1))], []) else some (.nm, [], []))
  | [], pre, x, h, hm => by
    rw [loop_eq hm]
    have : pre = l := by simpa using h.symm
    subst this
    simp [u_rr16_Relation_L0, b_rr16_Relation_L0]
  | y :: suf, pre, x, h, hm => by
    rw [loop_eq hm]
    have hg : l[pre.length]? = some y := by rw [h]; simp
    have hlt := lt_mid h
    have hltn : pre.length < l.length := by omega
    have hge : l[pre.length] = y := by simpa [hltn] using hg
    have hws := w_succ hltn (show l.length ≤ top63 by simp only [top63]; omega)
    have ih := fun x => rel_loop d hd hv a ra ha ha0 ha1 l hl suf (pre ++ [y]) x
    have hW := fun π => e_Writes (π := π) d hd hv a ra ha ha0 ha1
    have hH := fun π => e_Has (π := π) (wrE ra) (wrE_len hd hv (List.mem_of_getElem? ha)) y
    have hmb : memB (wrE ra) y = decide (y ∈ wrE ra) := by rw [Bool.eq_iff_iff, memB_iff, decide_eq_true_iff]
    unfold encDes at hW
    have hst : (List.any (y :: suf) fun n => memB (wrE ra) n) = (memB (wrE ra) y || suf.any fun n => memB (wrE ra) n) := rfl
    rw [hst, hmb]
    generalize decide (y ∈ wrE ra) = m at *
    generalize (suf.any fun n => memB (wrE ra) n) = T at *
    generalize wrE ra = W at *
    cases m
    · simp [u_rr16_Relation_L0, b_rr16_Relation_L0, hlt, hltn, hg, hge, hW, hH, evRO]
      exact ih _ (by simp [h]) (by simp [hws])
    · simp [u_rr16_Relation_L0, b_rr16_Relation_L0, hlt, hltn, hg, hge, hW, hH, evRO]
def relR (there back both : Bool) : Int := if there && back then (if both then 1 else 0) else if there then 2 else if back then 3 else 4
theorem relR_eq (t b o : Bool) : relE false t b o = relR t b o := by cases t <;> cases b <;> cases o <;> rfl
theorem both_comm (ra rb : Rul) : bothB ra rb = (wrE rb).any fun n => memB (wrE ra) n := by
  unfold bothB
  rw [Bool.eq_iff_iff, List.any_eq_true, List.any_eq_true]
  constructor
  · rintro ⟨n, h1, h2⟩; exact ⟨n, memB_iff.1 h2, memB_iff.2 h1⟩
  · rintro ⟨n, h1, h2⟩; exact ⟨n, memB_iff.1 h2, memB_iff.2 h1⟩
theorem e_RelR (d : Des) (hd : DesOk d) (h0 : (desE d).2 = 0) (a b : Int) (ra rb : Rul) (ha : d.rules[a.toNat]? = some ra) (hb : d.rules[b.toNat]? = some rb) (ha0 : 0 ≤ a) (ha1 : a < (d.rules.length : Int)) (hb0 : 0 ≤ b) (hb1 : b < (d.rules.length : Int)) :
    EE π n_rr16_Relation [.p (encDes d), .p (I a), .p (I b)] [] = some (.p (I (relR (mpR d ra rb) (mpR d rb ra) (bothB ra rb))), []) := by
  have hv := desVal h0
  have hm1 := fun π => e_May (π := π) d hd h0 a b ra rb ha hb ha0 ha1 hb0 hb1
  have hm2 := fun π => e_May (π := π) d hd h0 b a rb ra hb ha hb0 hb1 ha0 ha1
  have hW := fun π => e_Writes (π := π) d hd hv b rb hb hb0 hb1
  have hlp := rel_loop (π := π) d hd hv a ra ha ha0 ha1 (wrE rb) (wrE_len hd hv (List.mem_of_getElem? hb)) (wrE rb) []
  rw [← both_comm] at hlp
  unfold encDes at hm1 hm2 hW
  unfold relR
  generalize mpR d ra rb = t at *
  generalize mpR d rb ra = k at *
  generalize bothB ra rb = o at *
  cases t
  · cases k <;> simp [e_rr16_Relation, run_eq, c_rr16_Relation, encDes, hm1, hm2, evRO, freeze]
  · cases k
    · simp [e_rr16_Relation, run_eq, c_rr16_Relation, encDes, hm1, hm2, evRO, freeze]
    · simp [e_rr16_Relation, run_eq, c_rr16_Relation, encDes, hm1, hm2, evRO, freeze, hW]
      rw [hlp _ rfl (by simp)]
      cases o <;> simp
def pairE (d : Des) (a b : Int) : Int := if rulErr d a ≠ 0 then rulErr d a else if rulErr d b ≠ 0 then rulErr d b else if a = b then 23 else 0
theorem e_PairErr (d : Des) (hd : d.rules.length ≤ 1000) (a b : Int) : EE π n_rr16_PairErr [.p (encDes d), .p (I a), .p (I b)] [] = some (.p (I (pairE d a b)), []) := by
  have h1 := fun π => e_RuleErr (π := π) d hd a
  have h2 := fun π => e_RuleErr (π := π) d hd b
  unfold encDes at h1 h2
  unfold pairE
  by_cases k1 : rulErr d a = 0
  · by_cases k2 : rulErr d b = 0
    · by_cases k3 : a = b
      · subst k3
        simp [e_rr16_PairErr, run_eq, c_rr16_PairErr, encDes, h1, k1]
      · simp [e_rr16_PairErr, run_eq, c_rr16_PairErr, encDes, h1, k1, h2, k2, k3]
    · simp [e_rr16_PairErr, run_eq, c_rr16_PairErr, encDes, h1, k1, h2, k2]
  · simp [e_rr16_PairErr, run_eq, c_rr16_PairErr, encDes, h1, k1]
end Go.Proofs.YteecfnfjlclhdaaGreat.V

/- RelationOf and MatrixOf. -/
namespace Go.Proofs.YteecfnfjlclhdaaGreat.V
open Go (IntKind BinOp UnOp)
variable {π : Id}
theorem first_loopC (l : List Int) (hl : l.length ≤ top63) : ∀ (suf pre : List Int) (x : Env × Sto), l = pre ++ suf → mask [5, 6, 7] [] x = some ([(5, .p (encInts l)), (6, .p (I l.length)), (7, .p (I pre.length))], []) →
    kpO [] [2] [] (bkO 0 (iter (round EE iter π [] [5, 6, 7] c_cf_first_L0) x)) = (if firstE suf = 0 then some (.nm, [], []) else some (.rt, [(2, .p (I (firstE suf)))], []))
  | [], pre, x, h, hm => by
    rw [loop_eq hm]
    subst h
    simp [u_cf_first_L0, b_cf_first_L0, firstE]
  | y :: suf, pre, x, h, hm => by
    rw [loop_eq hm]
    by_cases hy : y = 0
    · simp [u_cf_first_L0, b_cf_first_L0, lt_mid h, get_mid _ h, hy, firstE]
      exact first_loopC l hl suf (pre ++ [y]) _ (by simp [h]) (by simp [w_succ (show pre.length < l.length by have := lt_mid h; omega) hl])
    · simp [u_cf_first_L0, b_cf_first_L0, lt_mid h, get_mid _ h, hy, firstE]
theorem e_firstC (l : List Int) (hl : l.length ≤ top63) : EE π n_cf_first [.p (encInts l)] [] = some (.p (I (firstE l)), []) := by
  simp [e_cf_first, run_eq, c_cf_first]
  rw [first_loopC l hl l [] _ rfl (by simp)]
  by_cases hf : firstE l = 0 <;> simp [hf]
theorem e_first2C (a b : Int) : EE π n_cf_first [.p (.sl 1 none [I a, I b])] [] = some (.p (I (firstE [a, b])), []) := e_firstC [a, b] (by simp [top63])
abbrev netF (d : Des) : PV := .agg [.str d.name, encPrts d.inputs, encElms d.elements, encNodes d.nodes, encRuls d.rules, encOtps d.outputs, encAtbs d.attrs, .sl 1 (flagE (dlv d)) (ints (dlv d))]
def twoE (d : Des) (a b : Int) : Int := firstE [opE d [a, b], unlE (decide (a ≠ b)) 23]
theorem e_openTwo (d : Des) (hd : DesOk d) (a b : Int) : EE π n_cf_openTwo [.p (encDes d), .p (I a), .p (I b)] [] = some (.p (.tup [netF d, I (twoE d a b)]), []) := by
  have ho := fun π => e_openC (π := π) d hd [a, b] (by simp)
  unfold twoE
  unfold encDes at ho
  simp only [List.map_cons, List.map_nil, encInts, ints] at ho
  generalize opE d [a, b] = E at *
  simp [e_cf_openTwo, run_eq, c_cf_openTwo, encDes, ho, freeze, evRO, e_unlessC, e_first2C]
theorem opE2 (d : Des) (a b : Int) : opE d [a, b] = if (desE d).2 = 0 then (if rulErr d a ≠ 0 then rulErr d a else rulErr d b) else (desE d).2 := by
  unfold opE eachE eachE eachE
  by_cases h : rulErr d a = 0 <;> by_cases h2 : rulErr d b = 0 <;> simp [h, h2]
theorem twoE_eq (d : Des) (a b : Int) : twoE d a b = if (desE d).2 = 0 then pairE d a b else (desE d).2 := by
  unfold twoE pairE
  rw [opE2]
  by_cases h0 : (desE d).2 = 0
  · by_cases h1 : rulErr d a = 0
    · by_cases h2 : rulErr d b = 0
      · by_cases h3 : a = b <;> simp [h0, h1, h2, h3, firstE, unlE]
      · simp [h0, h1, h2, firstE, unlE]
    · simp [h0, h1, firstE, unlE]
  · simp [h0, firstE, unlE]
theorem pairE_z {d : Des} {a b : Int} (h : pairE d a b = 0) : within a 0 ((d.rules.length : Int) - 1) = true ∧ within b 0 ((d.rules.length : Int) - 1) = true ∧ a ≠ b := by
  unfold pairE at h
  split at h
  · contradiction
  · split at h
    · contradiction
    · split at h
      · contradiction
      · rename_i h1 h2 h3
        exact ⟨(unlE_z (by decide)).1 (Classical.not_not.1 h1), (unlE_z (by decide)).1 (Classical.not_not.1 h2), h3⟩
def rul0 : Rul := ⟨⟨#[]⟩, 0, []⟩
def rulAt (d : Des) (n : Int) : Rul := d.rules.getD n.toNat rul0
theorem rulAt_get {d : Des} {n : Int} (h0 : 0 ≤ n) (h1 : n < (d.rules.length : Int)) : d.rules[n.toNat]? = some (rulAt d n) := by
  have : n.toNat < d.rules.length := by omega
  simp [rulAt, this]
def relI (d : Des) (a b : Int) : Int := relE (decide (a = b)) (mpR d (rulAt d a) (rulAt d b)) (mpR d (rulAt d b) (rulAt d a)) (bothB (rulAt d a) (rulAt d b))
theorem e_relI (d : Des) (hd : DesOk d) (hv : DesVal d) (a b : Int) (ha0 : 0 ≤ a) (ha1 : a < (d.rules.length : Int)) (hb0 : 0 ≤ b) (hb1 : b < (d.rules.length : Int)) :
    EE π n_cf_sh_relation [.p (encShr d), .p (I a), .p (I b)] [] = some (.p (I (relI d a b)), []) :=
  e_relC d hd hv a b _ _ (rulAt_get ha0 ha1) (rulAt_get hb0 hb1) ha0 ha1 hb0 hb1
theorem e_RelationOf (d : Des) (hd : DesOk d) (a b : Int) :
    EE π n_cf_RelationOf [.p (encDes d), .p (I a), .p (I b)] [] = some (.p (.tup [I (if twoE d a b = 0 then relI d a b else 0), I (twoE d a b)]), []) := by
  have ho := fun π => e_openTwo (π := π) d hd a b
  unfold encDes at ho
  by_cases h : twoE d a b = 0
  · have h' := h
    rw [twoE_eq] at h'
    have h0 : (desE d).2 = 0 := by
      split at h'
      · assumption
      · contradiction
    rw [if_pos h0] at h'
    obtain ⟨ha, hb, _⟩ := pairE_z h'
    have ha := within_iff.1 ha
    have hb := within_iff.1 hb
    have hs := fun π => e_shared (π := π) d hd (desVal h0)
    have hr := fun π => e_relI (π := π) d hd (desVal h0) a b (by omega) (by omega) (by omega) (by omega)
    generalize relI d a b = R at *
    generalize twoE d a b = E at *
    simp [e_cf_RelationOf, run_eq, c_cf_RelationOf, encDes, ho, freeze, h, hs, hr, fgL_rd, fgL_wr]
  · generalize twoE d a b = E at *
    simp [e_cf_RelationOf, run_eq, c_cf_RelationOf, encDes, ho, freeze, h]
end Go.Proofs.YteecfnfjlclhdaaGreat.V

/- The matrix of relations, by program and reference. -/
namespace Go.Proofs.YteecfnfjlclhdaaGreat.V
open Go (IntKind BinOp UnOp)
variable {π : Id}
def rowD (d : Des) (a : Nat) (k : Nat) : List Int := (List.range k).map fun (b : Nat) => relI d a b
theorem rowD_succ (d : Des) (a k : Nat) : rowD d a (k + 1) = rowD d a k ++ [relI d a k] := by simp [rowD, List.range_succ]
theorem rowD_len (d : Des) (a k : Nat) : (rowD d a k).length = k := by simp [rowD]
abbrev rwL (l : List Int) : PV := .sl 1 (flagE l) (ints l)
def matD (d : Des) (k : Nat) : List (List Int) := (List.range k).map fun a => rowD d a d.rules.length
theorem matD_succ (d : Des) (k : Nat) : matD d (k + 1) = matD d k ++ [rowD d k d.rules.length] := by simp [matD, List.range_succ]
theorem matD_len (d : Des) (k : Nat) : (matD d k).length = k := by simp [matD]
abbrev mxBox (π : Id) (d : Des) : Id × Blk := (6 :: π, .box false [.p (.str d.name), .p (encPrts d.inputs), .p (encElms d.elements), .p (encNodes d.nodes), .p (encRuls d.rules), .p (encOtps d.outputs), .p (encAtbs d.attrs), .p (encInts (dlv d)), .ap (900003 :: 20 :: π), .ap (1000003 :: 20 :: π)])
abbrev mxRest (π : Id) (d : Des) : Sto := [mxBox π d, rowLL (1000003 :: 20 :: π) (d.rules.map wrP), rowLL (900003 :: 20 :: π) (d.rules.map (rdP d)), desBox (1 :: π) d]
theorem mat_loop1 (d : Des) (hd : DesOk d) (hv : DesVal d) (a : Nat) (ha : a < d.rules.length) (O : List PV) : ∀ (s i : Nat) (x : Env × Sto), i + s = d.rules.length →
    mask [1, 6, 7, 8, 9, 23, 24, 29, 30] [] x = some ([(1, .ref (1 :: π) 0), (6, .ref (6 :: π) 0), (7, .ap (1007 :: π)), (8, .p (I a)), (9, .ap (1009 :: π)), (23, .p (I d.rules.length)), (24, .p (I a)), (29, .p (I d.rules.length)), (30, .p (I i))],
      rowL (1009 :: π) (rowD d a i) :: rowLL (1007 :: π) O :: mxRest π d) →
    kpO [1, 6, 7, 9, 23, 24] [2, 3] [] (bkO 2 (iter (round EE iter π [] [1, 6, 7, 8, 9, 23, 24, 29, 30] c_cf_MatrixOf_L1) x)) = some (.nm, [(1, .ref (1 :: π) 0), (6, .ref (6 :: π) 0), (7, .ap (1007 :: π)), (9, .ap (1009 :: π)), (23, .p (I d.rules.length)), (24, .p (I a))], rowL (1009 :: π) (rowD d a d.rules.length) :: rowLL (1007 :: π) O :: mxRest π d)
  | 0, i, x, h, hm => by
    rw [loop_eq hm]
    have : i = d.rules.length := by omega
    subst this
    simp [u_cf_MatrixOf_L1, b_cf_MatrixOf_L1]
  | s + 1, i, x, h, hm => by
    rw [loop_eq hm]
    have hr := hd.rules
    have hlt : (i : Int) < d.rules.length := by omega
    have hws := w_succ (show i < d.rules.length by omega) (show d.rules.length ≤ top63 by simp only [top63]; omega)
    have hre := fun π => e_relI (π := π) d hd hv a i (by omega) (by omega) (by omega) (by omega)
    have hrm : (rowD d a i).length + 1 ≤ room := by rw [rowD_len]; simp only [room]; omega
    have ih := fun x => mat_loop1 d hd hv a ha O s (i + 1) x (by omega)
    rw [rowD_succ] at ih
    generalize relI d a i = R at *
    generalize rowD d a i = W at *
    simp [u_cf_MatrixOf_L1, b_cf_MatrixOf_L1, hlt, hre, fgL_rd, fgL_wr, hrm]
    exact ih _ (by simp [hws, flagE_snoc])
abbrev matP (d : Des) (k : Nat) : List PV := (matD d k).map rwL
theorem mat_loop0 (d : Des) (hd : DesOk d) (hv : DesVal d) : ∀ (s i : Nat) (x : Env × Sto), i + s = d.rules.length →
    mask [1, 6, 7, 23, 24] [] x = some ([(1, .ref (1 :: π) 0), (6, .ref (6 :: π) 0), (7, .ap (1007 :: π)), (23, .p (I d.rules.length)), (24, .p (I i))], rowLL (1007 :: π) (matP d i) :: mxRest π d) →
    kpO [7] [2, 3] [] (bkO 0 (iter (round EE iter π [] [1, 6, 7, 23, 24] c_cf_MatrixOf_L0) x)) = some (.nm, [(7, .ap (1007 :: π))], [rowLL (1007 :: π) (matP d d.rules.length)])
  | 0, i, x, h, hm => by
    rw [loop_eq hm]
    have : i = d.rules.length := by omega
    subst this
    simp [u_cf_MatrixOf_L0, b_cf_MatrixOf_L0]
  | s + 1, i, x, h, hm => by
    rw [loop_eq hm]
    have hr := hd.rules
    have hlt : (i : Int) < d.rules.length := by omega
    have hws := w_succ (show i < d.rules.length by omega) (show d.rules.length ≤ top63 by simp only [top63]; omega)
    have hl1 := mat_loop1 (π := π) d hd hv i (by omega) (matP d i) d.rules.length 0
    have ih := fun x => mat_loop0 d hd hv s (i + 1) x (by omega)
    have hml : (matP d i).length = i := by simp [matD_len]
    have hrm : (matP d i).length + 1 ≤ room := by rw [hml]; simp only [room]; omega
    have hms : matP d (i + 1) = matP d i ++ [rwL (rowD d i d.rules.length)] := by unfold matP; rw [matD_succ]; simp
    rw [hms] at ih
    generalize rowD d i d.rules.length = R at *
    generalize matP d i = W at *
    simp [u_cf_MatrixOf_L0, b_cf_MatrixOf_L0, hlt, thaw, thaw1]
    rw [hl1 _ (by simp) (by simp [rowD, flagE])]
    simp [freeze, hrm]
    exact ih _ (by simp [hws, flagE_snoc])
theorem e_MatrixOf (d : Des) (hd : DesOk d) :
    EE π n_cf_MatrixOf [.p (encDes d)] [] = if (desE d).2 = 0 then some (.tup [.ap (1007 :: π), .p (I 0)], [rowLL (1007 :: π) (matP d d.rules.length)]) else some (.p (.tup [.sl 1 (some true) [], I (desE d).2]), []) := by
  have ho := fun π => e_openC (π := π) d hd [] (by simp)
  have hE : opE d [] = (desE d).2 := by unfold opE eachE; split <;> simp_all
  rw [hE] at ho
  unfold encDes at ho
  simp only [List.map_nil, encInts, ints] at ho
  by_cases h : (desE d).2 = 0
  · have hs := fun π => e_shared (π := π) d hd (desVal h)
    have hl := mat_loop0 (π := π) d hd (desVal h) d.rules.length 0
    rw [h] at ho
    simp [e_cf_MatrixOf, run_eq, c_cf_MatrixOf, encDes, ho, freeze, h, hs, thaw, thaw1]
    rw [hl _ (by simp) (by simp [matP, matD, flagE])]
    simp
  · generalize (desE d).2 = E at *
    simp [e_cf_MatrixOf, run_eq, c_cf_MatrixOf, encDes, ho, freeze, h]
end Go.Proofs.YteecfnfjlclhdaaGreat.V

/- The matrix by the reference; strings of matrices. -/
namespace Go.Proofs.YteecfnfjlclhdaaGreat.V
open Go (IntKind BinOp UnOp)
variable {π : Id}
theorem relI_diff (d : Des) (a b : Int) (h : a ≠ b) : relI d a b = relR (mpR d (rulAt d a) (rulAt d b)) (mpR d (rulAt d b) (rulAt d a)) (bothB (rulAt d a) (rulAt d b)) := by
  unfold relI
  rw [decide_eq_false h, relR_eq]
theorem relI_same (d : Des) (a : Int) : relI d a a = 4 := by
  unfold relI relE
  simp
theorem e_RelRI (d : Des) (hd : DesOk d) (h0 : (desE d).2 = 0) (a b : Int) (h : a ≠ b) (ha0 : 0 ≤ a) (ha1 : a < (d.rules.length : Int)) (hb0 : 0 ≤ b) (hb1 : b < (d.rules.length : Int)) :
    EE π n_rr16_Relation [.p (encDes d), .p (I a), .p (I b)] [] = some (.p (I (relI d a b)), []) := by
  rw [relI_diff d a b h]
  exact e_RelR d hd h0 a b _ _ (rulAt_get ha0 ha1) (rulAt_get hb0 hb1) ha0 ha1 hb0 hb1
theorem rmat_loop1 (d : Des) (hd : DesOk d) (hv : (desE d).2 = 0) (a : Nat) (ha : a < d.rules.length) (O : List PV) : ∀ (s i : Nat) (x : Env × Sto), i + s = d.rules.length →
    mask [1, 3, 4, 5, 6] [] x = some ([(1, .ref (1 :: π) 0), (3, .ap (1003 :: π)), (4, .p (I a)), (5, .ap (1005 :: π)), (6, .p (I i))], [rowL (1005 :: π) (rowD d a i), rowLL (1003 :: π) O, desBox (1 :: π) d]) →
    kpO [1, 3, 4, 5] [2] [] (bkO 2 (iter (round EE iter π [] [1, 3, 4, 5, 6] c_rr16_Matrix_L1) x)) = some (.nm, [(1, .ref (1 :: π) 0), (3, .ap (1003 :: π)), (4, .p (I a)), (5, .ap (1005 :: π))], [rowL (1005 :: π) (rowD d a d.rules.length), rowLL (1003 :: π) O, desBox (1 :: π) d])
  | 0, i, x, h, hm => by
    rw [loop_eq hm]
    have : i = d.rules.length := by omega
    subst this
    simp [u_rr16_Matrix_L1, b_rr16_Matrix_L1]
  | s + 1, i, x, h, hm => by
    rw [loop_eq hm]
    have hr := hd.rules
    have hlt : (i : Int) < d.rules.length := by omega
    have hws := w_succ (show i < d.rules.length by omega) (show d.rules.length ≤ top63 by simp only [top63]; omega)
    have hrm : (rowD d a i).length + 1 ≤ room := by rw [rowD_len]; simp only [room]; omega
    have ih := fun x => rmat_loop1 d hd hv a ha O s (i + 1) x (by omega)
    rw [rowD_succ] at ih
    by_cases hab : a = i
    · subst hab
      rw [relI_same] at ih
      generalize rowD d a a = W at *
      simp [u_rr16_Matrix_L1, b_rr16_Matrix_L1, hlt, hrm]
      exact ih _ (by simp [hws, flagE_snoc])
    · have hab' : ¬ (a : Int) = i := by omega
      have hre := fun π => e_RelRI (π := π) d hd hv a i hab' (by omega) (by omega) (by omega) (by omega)
      unfold encDes at hre
      generalize relI d a i = R at *
      generalize rowD d a i = W at *
      simp [u_rr16_Matrix_L1, b_rr16_Matrix_L1, hlt, hre, hrm, hab, hab']
      exact ih _ (by simp [hws, flagE_snoc])
theorem rmat_loop0 (d : Des) (hd : DesOk d) (hv : (desE d).2 = 0) : ∀ (s i : Nat) (x : Env × Sto), i + s = d.rules.length →
    mask [1, 3, 4] [] x = some ([(1, .ref (1 :: π) 0), (3, .ap (1003 :: π)), (4, .p (I i))], [rowLL (1003 :: π) (matP d i), desBox (1 :: π) d]) →
    kpO [3] [2] [] (bkO 0 (iter (round EE iter π [] [1, 3, 4] c_rr16_Matrix_L0) x)) = some (.nm, [(3, .ap (1003 :: π))], [rowLL (1003 :: π) (matP d d.rules.length)])
  | 0, i, x, h, hm => by
    rw [loop_eq hm]
    have : i = d.rules.length := by omega
    subst this
    simp [u_rr16_Matrix_L0, b_rr16_Matrix_L0]
  | s + 1, i, x, h, hm => by
    rw [loop_eq hm]
    have hr := hd.rules
    have hlt : (i : Int) < d.rules.length := by omega
    have hws := w_succ (show i < d.rules.length by omega) (show d.rules.length ≤ top63 by simp only [top63]; omega)
    have hl1 := rmat_loop1 (π := π) d hd hv i (by omega) (matP d i) d.rules.length 0
    have ih := fun x => rmat_loop0 d hd hv s (i + 1) x (by omega)
    have hml : (matP d i).length = i := by simp [matD_len]
    have hrm : (matP d i).length + 1 ≤ room := by rw [hml]; simp only [room]; omega
    have hms : matP d (i + 1) = matP d i ++ [rwL (rowD d i d.rules.length)] := by unfold matP; rw [matD_succ]; simp
    rw [hms] at ih
    generalize rowD d i d.rules.length = R at *
    generalize matP d i = W at *
    simp [u_rr16_Matrix_L0, b_rr16_Matrix_L0, hlt, thaw, thaw1]
    rw [hl1 _ (by simp) (by simp [rowD, flagE])]
    simp [freeze, hrm]
    exact ih _ (by simp [hws, flagE_snoc])
theorem e_MatrixR (d : Des) (hd : DesOk d) (h : (desE d).2 = 0) :
    EE π n_rr16_Matrix [.p (encDes d)] [] = some (.ap (1003 :: π), [rowLL (1003 :: π) (matP d d.rules.length)]) := by
  have hl := rmat_loop0 (π := π) d hd h d.rules.length 0
  simp [e_rr16_Matrix, run_eq, c_rr16_Matrix, encDes, thaw, thaw1]
  rw [hl _ (by simp) (by simp [matP, matD, flagE])]
  simp
abbrev encLL (l : List (List Int)) : PV := .sl 1 none (l.map encInts)
theorem fgL_rwL (l : List (List Int)) : PV.fg.PV.fgL (l.map rwL) = l.map encInts := fgL_map _ _ (fun x => by simp) l
@[simp] theorem fgL_LL (l : List (List Int)) : PV.fg.PV.fgL (l.map encInts) = l.map encInts := fgL_map _ _ (fun x => by simp) l
theorem lists_loop (l : List (List Int)) (hl : l.length ≤ 1000) (hr : ∀ r ∈ l, r.length ≤ 1000) : ∀ (suf pre : List (List Int)) (x : Env × Sto), l = pre ++ suf → mask [0, 1, 5] [] x = some ([(0, .p (encLL l)), (1, .p (encLL l)), (5, .p (I pre.length))], []) →
    kpO [] [4] [] (bkO 0 (iter (round EE iter π [] [0, 1, 5] c_rb_Lists_L0) x)) = some (.nm, [], [])
  | [], pre, x, h, hm => by
    rw [loop_eq hm]
    have : pre = l := by simpa using h.symm
    subst this
    simp [u_rb_Lists_L0, b_rb_Lists_L0]
  | y :: suf, pre, x, h, hm => by
    rw [loop_eq hm]
    have hg : l[pre.length]? = some y := by rw [h]; simp
    have hlt := lt_mid h
    have hws := w_succ (show pre.length < l.length by omega) (show l.length ≤ top63 by simp only [top63]; omega)
    have ih := fun x => lists_loop l hl hr suf (pre ++ [y]) x
    have hI := fun π => e_Ints (π := π) y y (by have := hr y (by rw [h]; simp); simp only [top63]; omega)
    simp only [decide_true] at hI
    simp [u_rb_Lists_L0, b_rb_Lists_L0, hlt, hg, hI, evRO, freeze]
    exact ih _ (by simp [h]) (by simp [hws])
theorem e_ListsSame (l : List (List Int)) (hl : l.length ≤ 1000) (hr : ∀ r ∈ l, r.length ≤ 1000) : EE π n_rb_Lists [.p (encLL l), .p (encLL l)] [] = some (.p (.bool true), []) := by
  have hlp := lists_loop (π := π) l hl hr l []
  simp [e_rb_Lists, run_eq, c_rb_Lists]
  rw [hlp _ rfl (by simp)]
  simp
abbrev rowC (l : List Int) : PV := .sl 1 (some false) (ints l)
theorem fgL_rowC (l : List (List Int)) : PV.fg.PV.fgL (l.map rowC) = l.map encInts := fgL_map _ _ (fun x => by simp) l
theorem copyl_loop (l : List (List Int)) (hl : l.length ≤ 1000) (hr : ∀ r ∈ l, r.length ≤ 1000) : ∀ (suf pre : List (List Int)) (x : Env × Sto), l = pre ++ suf → mask [0, 3, 4] [] x = some ([(0, .p (encLL l)), (3, .ap (1003 :: π)), (4, .p (I pre.length))], [rowLL (1003 :: π) (pre.map rowC)]) →
    kpO [3] [2] [] (bkO 0 (iter (round EE iter π [] [0, 3, 4] c_rb_CopyLists_L0) x)) = some (.nm, [(3, .ap (1003 :: π))], [rowLL (1003 :: π) (l.map rowC)])
  | [], pre, x, h, hm => by
    rw [loop_eq hm]
    have : pre = l := by simpa using h.symm
    subst this
    simp [u_rb_CopyLists_L0, b_rb_CopyLists_L0]
  | y :: suf, pre, x, h, hm => by
    rw [loop_eq hm]
    have hg : l[pre.length]? = some y := by rw [h]; simp
    have hlt := lt_mid h
    have hws := w_succ (show pre.length < l.length by omega) (show l.length ≤ top63 by simp only [top63]; omega)
    have ih := fun x => copyl_loop l hl hr suf (pre ++ [y]) x
    have hci := fun π => e_CopyInts (π := π) (ints y) (by have := hr y (by rw [h]; simp); simp only [List.length_map, room]; omega)
    have hrm : pre.length + 1 ≤ room := by simp only [room]; omega
    simp [u_rb_CopyLists_L0, b_rb_CopyLists_L0, hlt, hg, hci, freeze, hrm]
    exact ih _ (by simp [h]) (by simp [hws, flagE_snoc])
theorem e_CopyLists (l : List (List Int)) (hl : l.length ≤ 1000) (hr : ∀ r ∈ l, r.length ≤ 1000) : EE π n_rb_CopyLists [.p (encLL l)] [] = some (.ap (1003 :: π), [rowLL (1003 :: π) (l.map rowC)]) := by
  have hlp := copyl_loop (π := π) l hl hr l []
  simp [e_rb_CopyLists, run_eq, c_rb_CopyLists, thaw, thaw1]
  rw [hlp _ rfl (by simp [flagE])]
  simp
end Go.Proofs.YteecfnfjlclhdaaGreat.V

/- Strings of matrices. -/
namespace Go.Proofs.YteecfnfjlclhdaaGreat.V
open Go (IntKind BinOp UnOp)
variable {π : Id}
abbrev mxLetters : ByteArray := k_102_101_98_97_99
def letC (n : Int) : ByteArray := if within n 0 4 = true then mxLetters.extract n.toNat (n.toNat + 1) else k_63
theorem letC_size (n : Int) : (letC n).size = 1 := by
  unfold letC
  split
  · rename_i h
    have := within_iff.1 h
    rw [ByteArray.size_extract]
    have : mxLetters.size = 5 := rfl
    omega
  · rfl
theorem bE : (⟨#[]⟩ : ByteArray) = ByteArray.empty := rfl
def rowS (l : List Int) : ByteArray := l.foldl (fun s n => s ++ letC n) ⟨#[]⟩
theorem rowS_snoc (l : List Int) (n : Int) : rowS (l ++ [n]) = rowS l ++ letC n := by simp [rowS]
theorem foldS_size (l : List Int) (s : ByteArray) : (l.foldl (fun s n => s ++ letC n) s).size = s.size + l.length := by
  induction l generalizing s with
  | nil => rfl
  | cons a r ih => simp only [List.foldl_cons, ih, ByteArray.size_append, letC_size, List.length_cons]; omega
theorem rowS_size (l : List Int) : (rowS l).size = l.length := by
  unfold rowS
  rw [foldS_size]; simp [bE]
theorem joinB_nil (sep : ByteArray) : joinB [] sep = ⟨#[]⟩ := rfl
theorem joinB_one (x sep : ByteArray) : joinB [x] sep = x := by
  unfold joinB
  simp only [List.map_cons, List.map_nil, Lib.join_one, Array.toArray_toList]
theorem joinB_snoc (xs : List ByteArray) (x sep : ByteArray) (h : xs ≠ []) : joinB (xs ++ [x]) sep = joinB xs sep ++ sep ++ x := by
  obtain ⟨a, r, rfl⟩ : ∃ a r, xs = a :: r := by cases xs with
    | nil => exact absurd rfl h
    | cons a r => exact ⟨a, r, rfl⟩
  unfold joinB
  simp only [List.cons_append, List.map_cons, List.map_append, List.map_nil, Lib.join_cons]
  unfold Lib.joinTail
  simp only [List.map_append, List.map_cons, List.map_nil, List.flatten_append, List.flatten_cons, List.flatten_nil, List.append_nil]
  apply ByteArray.ext
  simp [ByteArray.data_append]
theorem fm_loop1 (rows : PV) (n i : Int) (l : List Int) (hl : l.length ≤ 1000) (O : List PV) (fo : Option Bool) : ∀ (suf pre : List Int) (x : Env × Sto), l = pre ++ suf →
    mask [3, 6, 10, 11, 12, 16, 17, 18] [] x = some ([(3, .ap (1003 :: π)), (6, .p (.str (rowS pre))), (10, .p rows), (11, .p (I n)), (12, .p (I i)), (16, .p (encInts l)), (17, .p (I l.length)), (18, .p (I pre.length))], [(1003 :: π, .row false t_string 1 fo O)]) →
    kpO [3, 6, 10, 11, 12] [2] [] (bkO 2 (iter (round EE iter π [] [3, 6, 10, 11, 12, 16, 17, 18] c_cf_FormatMatrix_L1) x)) = some (.nm, [(3, .ap (1003 :: π)), (6, .p (.str (rowS l))), (10, .p rows), (11, .p (I n)), (12, .p (I i))], [(1003 :: π, .row false t_string 1 fo O)])
  | [], pre, x, h, hm => by
    rw [loop_eq hm]
    have : pre = l := by simpa using h.symm
    subst this
    simp [u_cf_FormatMatrix_L1, b_cf_FormatMatrix_L1]
  | y :: suf, pre, x, h, hm => by
    rw [loop_eq hm]
    have hg : l[pre.length]? = some y := by rw [h]; simp
    have hlt := lt_mid h
    have hws := w_succ (show pre.length < l.length by omega) (show l.length ≤ top63 by simp only [top63]; omega)
    have ih := fun x => fm_loop1 rows n i l hl O fo suf (pre ++ [y]) x
    have hsz := rowS_size pre
    have hls := letC_size y
    rw [rowS_snoc] at ih
    generalize rowS pre = S at *
    have hsum : (S.size : Int) + 1 ≤ 9223372036854775807 := by omega
    by_cases hw : within y 0 4 = true
    · have hy := within_iff.1 hw
      have hwy : IntKind.i64.wrap (y + 1) = y + 1 := w64 ⟨by omega, by omega⟩
      have hlc : mxLetters.extract y.toNat (y + 1).toNat = letC y := by unfold letC; rw [if_pos hw]; congr 1; omega
      have hn1 : y ≤ y + 1 := by omega
      have hn2 : (y + 1).toNat ≤ 5 := by omega
      have hn3 : 0 ≤ y + 1 := by omega
      have hn4 : y.toNat ≤ (y + 1).toNat := by omega
      have hms : mxLetters.size = 5 := rfl
      have hn5 : y + 1 ≤ 5 := by omega
      generalize letC y = C at *
      simp [u_cf_FormatMatrix_L1, b_cf_FormatMatrix_L1, hlt, hg, e_withinC, hw, hwy, hn1, hn2, hn3, hn4, hn5, hms, hlc, hy.1, hls, hsum]
      exact ih _ (by simp [h]) (by simp [hws])
    · have hlc : (k_63 : ByteArray) = letC y := by unfold letC; rw [if_neg hw]
      have hw : within y 0 4 = false := by simpa using hw
      have h1 : (k_63 : ByteArray).size = 1 := rfl
      simp [u_cf_FormatMatrix_L1, b_cf_FormatMatrix_L1, hlt, hg, e_withinC, hw, h1, hsum]
      rw [hlc]
      exact ih _ (by simp [h]) (by simp [hws])
abbrev strs (l : List ByteArray) : List PV := l.map PV.str
abbrev rowSt (id : Id) (l : List ByteArray) : Id × Blk := (id, .row false t_string 1 (flagE l) (strs l))
theorem fm_loop0 (l : List (List Int)) (hl : l.length ≤ 1000) (hr : ∀ r ∈ l, r.length ≤ 1000) : ∀ (suf pre : List (List Int)) (x : Env × Sto), l = pre ++ suf →
    mask [3, 10, 11, 12] [] x = some ([(3, .ap (1003 :: π)), (10, .p (encLL l)), (11, .p (I l.length)), (12, .p (I pre.length))], [rowSt (1003 :: π) (pre.map rowS)]) →
    kpO [3] [2] [] (bkO 0 (iter (round EE iter π [] [3, 10, 11, 12] c_cf_FormatMatrix_L0) x)) = some (.nm, [(3, .ap (1003 :: π))], [rowSt (1003 :: π) (l.map rowS)])
  | [], pre, x, h, hm => by
    rw [loop_eq hm]
    have : pre = l := by simpa using h.symm
    subst this
    simp [u_cf_FormatMatrix_L0, b_cf_FormatMatrix_L0]
  | y :: suf, pre, x, h, hm => by
    rw [loop_eq hm]
    have hg : l[pre.length]? = some y := by rw [h]; simp
    have hlt := lt_mid h
    have hws := w_succ (show pre.length < l.length by omega) (show l.length ≤ top63 by simp only [top63]; omega)
    have ih := fun x => fm_loop0 l hl hr suf (pre ++ [y]) x
    have hl1 := fm_loop1 (π := π) (encLL l) l.length pre.length y (hr y (by rw [h]; simp)) (strs (pre.map rowS)) (flagE (pre.map rowS)) y []
    have hrm : pre.length + 1 ≤ room := by simp only [room]; omega
    simp [u_cf_FormatMatrix_L0, b_cf_FormatMatrix_L0, hlt, hg]
    rw [hl1 _ rfl (by simp [rowS])]
    simp [hrm]
    exact ih _ (by simp [h]) (by simp [hws, flagE_snoc])
theorem strsOf_strs : ∀ l : List ByteArray, strsOf (strs l) = some l
  | [] => rfl
  | a :: r => by simp [strsOf, strsOf_strs r]
@[simp] theorem fgL_strs (l : List ByteArray) : PV.fg.PV.fgL (l.map PV.str) = l.map PV.str := fgL_map _ _ (fun x => rfl) l
def mxS (l : List (List Int)) : ByteArray := joinB (l.map rowS) k_47
theorem mxS_snoc (r : List (List Int)) (x : List Int) : mxS (r ++ [x]) = if r = [] then rowS x else mxS r ++ k_47 ++ rowS x := by
  unfold mxS
  rw [List.map_append, List.map_cons, List.map_nil]
  by_cases h : r = []
  · subst h
    simp [joinB_one]
  · rw [if_neg h]
    exact joinB_snoc _ _ _ (by simpa using h)
theorem mxS_size : ∀ (n : Nat) (l : List (List Int)), l.length = n → (∀ r ∈ l, r.length ≤ 1000) → (mxS l).size ≤ n * 1001
  | 0, l, h, _ => by
    have : l = [] := List.length_eq_zero_iff.1 h
    subst this
    simp [mxS, joinB_nil, bE]
  | n + 1, l, h, hr => by
    have hne : l ≠ [] := fun e => by subst e; simp at h
    have he := List.dropLast_concat_getLast hne
    generalize l.dropLast = r at *
    generalize l.getLast hne = x at *
    have hx := hr x (by rw [← he]; simp)
    have ih := mxS_size n r (by rw [← he] at h; simpa using h) fun z hz => hr z (by rw [← he]; simp [hz])
    rw [← he, mxS_snoc]
    have h1 : (k_47 : ByteArray).size = 1 := rfl
    split
    · rw [rowS_size]; omega
    · simp only [ByteArray.size_append, rowS_size, h1]; omega
theorem e_FormatMatrixC (l : List (List Int)) (hl : l.length ≤ 1000) (hr : ∀ r ∈ l, r.length ≤ 1000) : EE π n_cf_FormatMatrix [.p (encLL l)] [] = some (.p (.str (mxS l)), []) := by
  have hlp := fm_loop0 (π := π) l hl hr l []
  have hs := mxS_size l.length l rfl hr
  have hso := strsOf_strs (l.map rowS)
  have hln : l.length ≤ room := by simp only [room]; omega
  have hsz : (joinB (l.map rowS) k_47).size ≤ room := by
    change (mxS l).size ≤ room
    simp only [room]; omega
  unfold mxS
  simp [e_cf_FormatMatrix, run_eq, c_cf_FormatMatrix, thaw, thaw1]
  rw [hlp _ rfl (by simp [flagE])]
  have hln' : (l.map rowS).length ≤ room := by rw [List.length_map]; exact hln
  generalize l.map rowS = L at *
  simp [o_strings_Join, joinO, hso, hln', hsz]
def rfmL1 (C : ByteArray) : IR :=
 (.sq (.sq (.op 0 [om 16 5, om 17 0, om 18 4, oo 19 (.ia (.t 17) (.t 18) 1), oo 20 (.ld (.t 19) 1 false), oo 21 (.len false (.t 20)), oo 22 (.bin .lss (.t 16) (.t 21))] (some [0, 3, 4, 5, 22]))
 (.cd (.t 22)
 .sk
 (.ex 2)))
 (.sq (.bk 3 (.sq (.op 0 [om 25 0, om 26 4, oo 27 (.ia (.t 25) (.t 26) 1), oo 28 (.ld (.t 27) 1 false), om 29 5, oo 30 (.ia (.t 28) (.t 29) 1), oo 31 (.ld (.t 30) 1 false), oo 32 (cv n_rb_Within [(.t 31), (ki 0), (ki 4)])] (some [0, 3, 4, 5, 32]))
 (.cd (.t 32)
 (.op 16 [om 33 3, om 34 0, om 35 4, oo 36 (.ia (.t 34) (.t 35) 1), oo 37 (.ld (.t 36) 1 false), om 38 5, oo 39 (.ia (.t 37) (.t 38) 1), oo 40 (.ld (.t 39) 1 false), om 41 0, om 42 4, oo 43 (.ia (.t 41) (.t 42) 1), oo 44 (.ld (.t 43) 1 false), om 45 5, oo 46 (.ia (.t 44) (.t 45) 1), oo 47 (.ld (.t 46) 1 false), oo 48 (.bin .add (.t 47) (ki 1)), oo 49 (.slc true (.c (.str k_102_101_98_97_99)) (some (.t 40)) (some (.t 48)) 0), oo 50 (.bin .add (.t 33) (.t 49)), om 3 50] (some [0, 3, 4, 5]))
 (.op 0 [om 51 3, oo 52 (.bin .add (.t 51) (.c (.str C))), om 3 52] none))))
 (.op 0 [om 23 5, oo 24 (.bin .add (.t 23) (ki 1)), om 5 24] none)))
def rfmL0 (C : ByteArray) : IR :=
 (.sq (.sq (.op 0 [om 6 4, om 7 0, oo 8 (.len false (.t 7)), oo 9 (.bin .lss (.t 6) (.t 8))] (some [0, 3, 4, 9]))
 (.cd (.t 9)
 .sk
 (.ex 0)))
 (.sq (.bk 1 (.sq (.sq (.op 0 [om 12 4, oo 13 (.bin .gtr (.t 12) (ki 0))] none)
 (.cd (.t 13)
 (.op 0 [om 14 3, oo 15 (.bin .add (.t 14) (.c (.str C))), om 3 15] none)
 .sk))
 (.sq (.op 0 [oo 5 (.mv (ki 0))] none)
 (.kp [0, 3, 4] [2] (.bk 2 (.lp [] [0, 3, 4, 5] c_rr16_FormatMatrix_L1))))))
 (.op 0 [om 10 4, oo 11 (.bin .add (.t 10) (ki 1)), om 4 11] none)))
theorem rfmL1_eq : c_rr16_FormatMatrix_L1 = rfmL1 k_63 := rfl
theorem rfmL0_eq : c_rr16_FormatMatrix_L0 = rfmL0 k_47 := rfl
abbrev rfmE (M : List (List Int)) (Q : ByteArray) (i p : Int) : Env := [(0, .p (encLL M)), (3, .p (.str Q)), (4, .p (I i)), (5, .p (I p))]
theorem rfm_round (C : ByteArray) (h1 : C.size = 1) (M : List (List Int)) (i p : Nat) (l : List Int) (y : Int) (Q D : ByteArray) (hD : D = if within y 0 4 = true then letC y else C) (hM : M[i]? = some l) (hg : l[p]? = some y) (hl : l.length ≤ 1000) (hQ : (Q.size : Int) + 1 ≤ 9223372036854775807) :
    ∃ e, evC EE iter π [] (rfmL1 C) (rfmE M Q i p) [] = some (.nm, e, []) ∧ mask [0, 3, 4, 5] [] (e, []) = some (rfmE M (Q ++ D) i (p + 1 : Nat), []) := by
  have hi : (i : Int) < M.length := by have := (List.getElem?_eq_some_iff.1 hM).1; omega
  have hlt : (p : Int) < l.length := by have := (List.getElem?_eq_some_iff.1 hg).1; omega
  have hws := w_succ (show p < l.length by omega) (show l.length ≤ top63 by simp only [top63]; omega)
  have hls := letC_size y
  by_cases hw : within y 0 4 = true
  · rw [if_pos hw] at hD
    subst hD
    have hy := within_iff.1 hw
    have hwy : IntKind.i64.wrap (y + 1) = y + 1 := w64 ⟨by omega, by omega⟩
    have hlc : mxLetters.extract y.toNat (y + 1).toNat = letC y := by unfold letC; rw [if_pos hw]; congr 1; omega
    have hn1 : y ≤ y + 1 := by omega
    have hn2 : (y + 1).toNat ≤ 5 := by omega
    have hn3 : 0 ≤ y + 1 := by omega
    have hn4 : y.toNat ≤ (y + 1).toNat := by omega
    have hms : mxLetters.size = 5 := rfl
    have hn5 : y + 1 ≤ 5 := by omega
    generalize letC y = D at *
    obtain ⟨q, hq⟩ : ∃ q, evC EE iter π [] (rfmL1 C) (rfmE M Q i p) [] = q := ⟨_, rfl⟩
    have hq2 := hq
    simp [rfmL1, hM, hi, hlt, hg, e_Within, hw, hwy, hn1, hn2, hn3, hn4, hn5, hms, hlc, hy.1, hls, hQ, hws, evRO] at hq2
    subst hq2
    exact ⟨_, hq, by simp⟩
  · rw [if_neg hw] at hD
    subst hD
    have hw : within y 0 4 = false := by simpa using hw
    obtain ⟨q, hq⟩ : ∃ q, evC EE iter π [] (rfmL1 D) (rfmE M Q i p) [] = q := ⟨_, rfl⟩
    have hq2 := hq
    simp [rfmL1, hM, hi, hlt, hg, e_Within, hw, h1, hQ, hws] at hq2
    subst hq2
    exact ⟨_, hq, by simp⟩
theorem rfm_loop1 (M : List (List Int)) (i : Nat) (l : List Int) (hM : M[i]? = some l) (hl : l.length ≤ 1000) (S : ByteArray) (hS : S.size ≤ 10000000) : ∀ (suf pre : List Int) (x : Env × Sto), l = pre ++ suf →
    mask [0, 3, 4, 5] [] x = some (rfmE M (S ++ rowS pre) i pre.length, []) →
    kpO [0, 3, 4] [2] [] (bkO 2 (iter (round EE iter π [] [0, 3, 4, 5] c_rr16_FormatMatrix_L1) x)) = some (.nm, [(0, .p (encLL M)), (3, .p (.str (S ++ rowS l))), (4, .p (I i))], [])
  | [], pre, x, h, hm => by
    rw [loop_eq hm]
    have : pre = l := by simpa using h.symm
    subst this
    have hi : (i : Int) < M.length := by have := (List.getElem?_eq_some_iff.1 hM).1; omega
    rw [rfmL1_eq]
    generalize k_63 = C
    simp [rfmL1, hM, hi]
  | y :: suf, pre, x, h, hm => by
    rw [loop_eq hm]
    have hg : l[pre.length]? = some y := by rw [h]; simp
    have hlt := lt_mid h
    have ih := fun x => rfm_loop1 M i l hM hl S hS suf (pre ++ [y]) x
    have hsz : (S ++ rowS pre).size = S.size + pre.length := by rw [ByteArray.size_append, rowS_size]
    obtain ⟨e, h1, h2⟩ := rfm_round (π := π) k_63 rfl M i pre.length l y (S ++ rowS pre) (letC y) (by split; rfl; rename_i hh; unfold letC; rw [if_neg hh]) hM hg hl (by omega)
    rw [rowS_snoc, ← ByteArray.append_assoc] at ih
    rw [← rfmL1_eq] at h1
    rw [h1]
    simp only [nextO_nm]
    exact ih _ (by simp [h]) (by simpa using h2)
theorem rfm_first (C : ByteArray) (M : List (List Int)) (y : List Int) (h0 : 0 < M.length) (R : ByteArray)
    (hl1 : ∀ x, mask [0, 3, 4, 5] [] x = some (rfmE M ⟨#[]⟩ 0 0, []) → kpO [0, 3, 4] [2] [] (bkO 2 (iter (round EE iter π [] [0, 3, 4, 5] c_rr16_FormatMatrix_L1) x)) = some (.nm, [(0, .p (encLL M)), (3, .p (.str R)), (4, .p (I 0))], [])) :
    ∃ e, evC EE iter π [] (rfmL0 C) [(0, .p (encLL M)), (3, .p (.str ⟨#[]⟩)), (4, .p (I 0))] [] = some (.nm, e, []) ∧ mask [0, 3, 4] [] (e, []) = some ([(0, .p (encLL M)), (3, .p (.str R)), (4, .p (I 1))], []) := by
  have hne : M ≠ [] := fun e => by simp [e] at h0
  obtain ⟨q, hq⟩ : ∃ q, evC EE iter π [] (rfmL0 C) [(0, .p (encLL M)), (3, .p (.str ⟨#[]⟩)), (4, .p (I 0))] [] = q := ⟨_, rfl⟩
  have hq2 := hq
  simp [rfmL0, h0, hne] at hq2
  rw [hl1 _ (by simp)] at hq2
  simp [show IntKind.i64.wrap 1 = 1 from rfl] at hq2
  subst hq2
  exact ⟨_, hq, by simp⟩
theorem rfm_next (C : ByteArray) (h1 : C.size = 1) (M : List (List Int)) (i : Nat) (h0 : 0 < i) (hi : i < M.length) (hM : M.length ≤ 1000) (Q R : ByteArray) (hQ : (Q.size : Int) + 1 ≤ 9223372036854775807)
    (hl1 : ∀ x, mask [0, 3, 4, 5] [] x = some (rfmE M (Q ++ C) i 0, []) → kpO [0, 3, 4] [2] [] (bkO 2 (iter (round EE iter π [] [0, 3, 4, 5] c_rr16_FormatMatrix_L1) x)) = some (.nm, [(0, .p (encLL M)), (3, .p (.str R)), (4, .p (I i))], [])) :
    ∃ e, evC EE iter π [] (rfmL0 C) [(0, .p (encLL M)), (3, .p (.str Q)), (4, .p (I i))] [] = some (.nm, e, []) ∧ mask [0, 3, 4] [] (e, []) = some ([(0, .p (encLL M)), (3, .p (.str R)), (4, .p (I (i + 1 : Nat)))], []) := by
  have hi' : (i : Int) < M.length := by omega
  have h0' : (0 : Int) < i := by omega
  have hws := w_succ hi (show M.length ≤ top63 by simp only [top63]; omega)
  obtain ⟨q, hq⟩ : ∃ q, evC EE iter π [] (rfmL0 C) [(0, .p (encLL M)), (3, .p (.str Q)), (4, .p (I i))] [] = q := ⟨_, rfl⟩
  have hq2 := hq
  simp [rfmL0, hi', h0', h0, h1, hQ] at hq2
  rw [hl1 _ (by simp)] at hq2
  simp [hws] at hq2
  subst hq2
  exact ⟨_, hq, by simp⟩
theorem rfm_loop0 (M : List (List Int)) (hl : M.length ≤ 1000) (hr : ∀ r ∈ M, r.length ≤ 1000) : ∀ (suf pre : List (List Int)) (x : Env × Sto), M = pre ++ suf →
    mask [0, 3, 4] [] x = some ([(0, .p (encLL M)), (3, .p (.str (mxS pre))), (4, .p (I pre.length))], []) →
    kpO [3] [2] [] (bkO 0 (iter (round EE iter π [] [0, 3, 4] c_rr16_FormatMatrix_L0) x)) = some (.nm, [(3, .p (.str (mxS M)))], [])
  | [], pre, x, h, hm => by
    rw [loop_eq hm]
    have : pre = M := by simpa using h.symm
    subst this
    rw [rfmL0_eq]
    generalize mxS pre = Q
    generalize k_47 = C
    simp [rfmL0]
  | y :: suf, pre, x, h, hm => by
    rw [loop_eq hm]
    have hg : M[pre.length]? = some y := by rw [h]; simp
    have hlt : pre.length < M.length := by rw [h]; simp
    have ih := fun x => rfm_loop0 M hl hr suf (pre ++ [y]) x
    have hsz := mxS_size pre.length pre rfl fun r hr' => hr r (by rw [h]; simp [hr'])
    have hyl := hr y (by rw [h]; simp)
    rw [mxS_snoc] at ih
    by_cases hp : pre = []
    · subst hp
      have hl1 := rfm_loop1 (π := π) M 0 y (by simpa using hg) hyl ⟨#[]⟩ (by simp [bE]) y []
      simp only [if_true] at ih
      obtain ⟨e, h1, h2⟩ := rfm_first (π := π) k_47 M y (by simpa using hlt) (rowS y) (fun x hx => (hl1 x rfl (by rw [hx]; simp [rowS, bE])).trans (by simp [bE]))
      rw [← rfmL0_eq] at h1
      have h1' : evC EE iter π [] c_rr16_FormatMatrix_L0 [(0, .p (encLL M)), (3, .p (.str (mxS []))), (4, .p (I ([] : List (List Int)).length))] [] = some (.nm, e, []) := h1
      rw [h1']
      simp only [nextO_nm]
      exact ih _ (by simp [h]) (by simpa using h2)
    · rw [if_neg hp] at ih
      have hp1 : 0 < pre.length := List.length_pos_iff.2 hp
      have hss : (mxS pre ++ k_47).size = (mxS pre).size + 1 := by rw [ByteArray.size_append]; rfl
      have hl1 := rfm_loop1 (π := π) M pre.length y hg hyl (mxS pre ++ k_47) (by rw [hss]; omega) y []
      obtain ⟨e, h1, h2⟩ := rfm_next (π := π) k_47 rfl M pre.length hp1 hlt hl (mxS pre) (mxS pre ++ k_47 ++ rowS y) (by omega) (fun x hx => hl1 x rfl (by rw [hx]; simp [rowS, bE]))
      rw [← rfmL0_eq] at h1
      rw [h1]
      simp only [nextO_nm]
      exact ih _ (by simp [h]) (by simpa using h2)
theorem e_FormatMatrixR (l : List (List Int)) (hl : l.length ≤ 1000) (hr : ∀ r ∈ l, r.length ≤ 1000) : EE π n_rr16_FormatMatrix [.p (encLL l)] [] = some (.p (.str (mxS l)), []) := by
  have hlp := rfm_loop0 (π := π) l hl hr l []
  simp [e_rr16_FormatMatrix, run_eq, c_rr16_FormatMatrix]
  rw [hlp _ rfl (by simp [mxS, joinB_nil])]
  simp
end Go.Proofs.YteecfnfjlclhdaaGreat.V

/- The law ConflictRelates, in the evaluator. -/
namespace Go.Proofs.YteecfnfjlclhdaaGreat.V
open Go (IntKind BinOp UnOp)
theorem matD_rows (d : Des) (k : Nat) : ∀ r ∈ matD d k, r.length = d.rules.length := fun r hr => by
  unfold matD at hr
  obtain ⟨a, _, rfl⟩ := List.mem_map.1 hr
  exact rowD_len _ _ _
theorem relates_few (d : Des) (a b : Int) (hw : Awake16 [15]) (hf : fewD d = false) : ∃ s, EE [] n_rl16_ConflictRelates [.p (encDes d), .p (I a), .p (I b)] [] = some (.p (.bool true), s) := by
  have hfe := fun π => e_Few16 (π := π) d
  rw [hf] at hfe
  unfold encDes at hfe
  refine ⟨[], ?_⟩
  simp [e_rl16_ConflictRelates, run_eq, c_rl16_ConflictRelates, encDes, hw, hfe]
set_option maxHeartbeats 2000000 in
theorem relates_true (d : Des) (hi : DesIn d) (a b : Int) (hw : Awake16 [15]) (hf : fewD d = true) : ∃ s, EE [] n_rl16_ConflictRelates [.p (encDes d), .p (I a), .p (I b)] [] = some (.p (.bool true), s) := by
  have hd := desOk_few hi hf
  have hfe := fun π => e_Few16 (π := π) d
  have hcp := fun π => e_CopyDesign (π := π) d hd
  have hde := fun π => e_DesignErr (π := π) d hd
  have hpe := fun π => e_PairErr (π := π) d hd.rules a b
  have hr1 := fun π => e_RelationOf (π := π) d hd a b
  have hr2 := fun π => e_RelationOf (π := π) d hd b a
  have hmx := fun π => e_MatrixOf (π := π) d hd
  have hML : (matD d d.rules.length).length ≤ 1000 := by rw [matD_len]; exact hd.rules
  have hMR : ∀ r ∈ matD d d.rules.length, r.length ≤ 1000 := fun r hr => by rw [matD_rows d _ r hr]; exact hd.rules
  have hls := fun π => e_ListsSame (π := π) (matD d d.rules.length) hML hMR
  have hcl := fun π => e_CopyLists (π := π) (matD d d.rules.length) hML hMR
  have hfc := fun π => e_FormatMatrixC (π := π) (matD d d.rules.length) hML hMR
  have hfr := fun π => e_FormatMatrixR (π := π) (matD d d.rules.length) hML hMR
  have ht1 := twoE_eq d a b
  have ht2 := twoE_eq d b a
  rw [hf] at hfe
  by_cases h0 : (desE d).2 = 0
  · have hmr := fun π => e_MatrixR (π := π) d hd h0
    rw [if_pos h0] at ht1 ht2
    simp only [h0, if_true] at hmx hde
    by_cases h1 : pairE d a b = 0
    · obtain ⟨ha, hb, hab⟩ := pairE_z h1
      have h2 : pairE d b a = 0 := by
        unfold pairE rulErr
        rw [ha, hb]
        have hba : ¬ b = a := fun e => hab e.symm
        simp [unlE, hba]
      have ha := within_iff.1 ha
      have hb := within_iff.1 hb
      have hrr := fun π => e_RelRI (π := π) d hd h0 a b hab (by omega) (by omega) (by omega) (by omega)
      have hba : b ≠ a := fun e => hab e.symm
      have hv1 := relI_diff d a b hab
      have hv2 := relI_diff d b a hba
      have hbo : bothB (rulAt d b) (rulAt d a) = bothB (rulAt d a) (rulAt d b) := by rw [both_comm]; rfl
      rw [hbo] at hv2
      rw [ht1, h1] at hr1
      rw [ht2, h2] at hr2
      simp only [if_true] at hr1 hr2
      rw [hv1] at hr1 hrr
      rw [hv2] at hr2
      unfold encDes at hfe hcp hde hpe hr1 hr2 hmx hmr hrr
      have hmir : ∀ t k o : Bool, relR k t o = if relR t k o = 2 then 3 else if relR t k o = 3 then 2 else relR t k o := by decide
      rw [hmir] at hr2
      generalize relR (mpR d (rulAt d a) (rulAt d b)) (mpR d (rulAt d b) (rulAt d a)) (bothB (rulAt d a) (rulAt d b)) = r at *
      unfold matP at hmx hmr
      generalize matD d d.rules.length = M at *
      generalize mxS M = S at *
      clear ht1 ht2 hv1 hv2 hbo hmir ha hb
      refine ⟨[], ?_⟩
      by_cases k1 : r = 2
      · subst k1
        simp [e_rl16_ConflictRelates, run_eq, c_rl16_ConflictRelates, encDes, hw, hfe, hcp, hde, hpe, h1, hr1, hr2, hmx, hmr, hrr, hls, hcl, hfc, hfr, freeze, fgL_nodesC, fgL_rulsC, fgL_atbsC, fgL_rwL, fgL_rowC]
      · by_cases k2 : r = 3
        · subst k2
          simp [e_rl16_ConflictRelates, run_eq, c_rl16_ConflictRelates, encDes, hw, hfe, hcp, hde, hpe, h1, hr1, hr2, hmx, hmr, hrr, hls, hcl, hfc, hfr, freeze, fgL_nodesC, fgL_rulsC, fgL_atbsC, fgL_rwL, fgL_rowC]
        · simp only [k1, k2, if_false] at hr2
          simp [e_rl16_ConflictRelates, run_eq, c_rl16_ConflictRelates, encDes, hw, hfe, hcp, hde, hpe, h1, hr1, hr2, hmx, hmr, hrr, hls, hcl, hfc, hfr, freeze, fgL_nodesC, fgL_rulsC, fgL_atbsC, fgL_rwL, fgL_rowC, k1, k2]
    · rw [ht1] at hr1
      simp only [h1, if_false] at hr1
      unfold encDes at hfe hcp hde hpe hr1 hmx hmr
      unfold matP at hmx hmr
      generalize matD d d.rules.length = M at *
      generalize mxS M = S at *
      generalize pairE d a b = E at *
      refine ⟨[], ?_⟩
      simp [e_rl16_ConflictRelates, run_eq, c_rl16_ConflictRelates, encDes, hw, hfe, hcp, hde, hpe, h1, hr1, hmx, hmr, hls, hcl, hfc, hfr, freeze, fgL_nodesC, fgL_rulsC, fgL_atbsC, fgL_rwL, fgL_rowC]
  · rw [if_neg h0] at ht1
    rw [ht1] at hr1
    simp only [h0, if_false] at hr1 hmx
    unfold encDes at hfe hcp hde hr1 hmx
    generalize (desE d).2 = E at *
    refine ⟨[], ?_⟩
    simp [e_rl16_ConflictRelates, run_eq, c_rl16_ConflictRelates, encDes, hw, hfe, hcp, hde, h0, hr1, hmx, freeze, fgL_nodesC, fgL_rulsC, fgL_atbsC]
end Go.Proofs.YteecfnfjlclhdaaGreat.V
