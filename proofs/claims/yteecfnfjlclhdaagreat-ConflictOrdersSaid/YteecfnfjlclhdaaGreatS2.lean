/- Depths, what is below some nodes, and their leaves: in plain terms. Errors of values and of nodes that are named. What is below some nodes, in the program: a round. What is below some nodes, in the program. What is below some nodes, by the reference. Nodes below some nodes: their places, in the prog -/
import Derived.Test.YteecfnfjlclhdaaGreatS1

set_option linter.unusedSimpArgs false
set_option linter.unusedVariables false

/- Depths, what is below some nodes, and their leaves: in plain terms. -/
namespace Go.Proofs.YteecfnfjlclhdaaGreat.V
def Zhk (i : Nat) (o : List Int) (n : Int) : List Int := o.set i (if o.getD i 0 < o.getD n.toNat 0 + 1 then o.getD n.toNat 0 + 1 else o.getD i 0)
def depArgs (i : Nat) : List Int → List Int → List Int
 | [], o => o
 | n :: r, o => depArgs i r (Zhk i o n)
structure DepI (k : Nat) (o : List Int) : Prop where
 len : o.length = k
 ok : ∀ j : Nat, j < k → 0 ≤ o.getD j 0 ∧ o.getD j 0 ≤ j
theorem getD_set {α : Type} (o : List α) (i j : Nat) (v d : α) (hi : i < o.length) : (o.set i v).getD j d = if i = j then v else o.getD j d := by
 simp only [List.getD, List.getElem?_set]
 by_cases h : i = j
 ·subst h; simp [hi]
 ·simp [h]
theorem DepI.step {k : Nat} {o : List Int} (h : DepI k o) {i : Nat} {n : Int} (hi : i < k) (hn : 0 ≤ n ∧ n < i) : DepI k (Zhk i o n) := by
 have hl := h.len
 refine ⟨by unfold Zhk; simp [hl], fun j hj => ?_⟩
 unfold Zhk
 rw [getD_set _ _ _ _ _ (by omega)]
 have h1 := h.ok i hi
 have h2 := h.ok n.toNat (by omega)
 have h3 := h.ok j hj
 split
 ·subst j
  split <;> omega
 ·exact h3
theorem DepI.args {k : Nat} {i : Nat} (hi : i < k) : ∀ (l : List Int) {o : List Int}, DepI k o → (∀ n ∈ l, 0 ≤ n ∧ n < (i : Int)) → DepI k (depArgs i l o)
 | [], _, h, _ => h
 | n :: r, _, h, hn => DepI.args hi r (h.step hi (hn n (by simp))) fun m hm => hn m (by simp [hm])
theorem DepI.zero (k : Nat) : DepI k (List.replicate k 0) := ⟨by simp, fun j hj => by simp [List.getD, hj]⟩
def Zh : List Int → List Bool → List Bool
 | [], o => o
 | n :: r, o => Zh r (o.set n.toNat true)
theorem Xz : ∀ (l : List Int) (o : List Bool), (Zh l o).length = o.length
 | [], _ => rfl
 | n :: r, o => by rw [Zh, Xz r]; simp
theorem Z7m : ∀ (l : List Int) (o : List Bool) (j : Nat), j < o.length → (Zh l o).getD j false = (o.getD j false || l.any fun n => n.toNat = j)
 | [], o, j, h => by simp [Zh]
 | n :: r, o, j, h => by
  rw [Zh, Z7m r _ j (by simpa using h)]
  by_cases hn : n.toNat = j
  ·rw [getD_set _ _ _ _ _ (by omega)]; simp [hn]
  ·have : (o.set n.toNat true).getD j false = o.getD j false := by simp only [List.getD, List.getElem?_set]; simp [hn]
   rw [this]; simp [hn]
def Lv (nodes : List Nod) : Nat → List Bool → List Bool
 | 0, o => o
 | k + 1, o => Lv nodes k (match nodes[k]? with | some x => if o.getD k false then Zh x.args o else o | none => o)
theorem Ze5 (nodes : List Nod) : ∀ (k : Nat) (o : List Bool), (Lv nodes k o).length = o.length
 | 0, _ => rfl
 | k + 1, o => by
  rw [Lv, Ze5 nodes k]
  split
  ·split
   ·exact Xz _ _
   ·rfl
  ·rfl
def belN (nodes : List Nod) (from_ : List Int) : List Bool := Lv nodes nodes.length (Zh from_ (List.replicate nodes.length false))
theorem belN_len (nodes : List Nod) (from_ : List Int) : (belN nodes from_).length = nodes.length := by
 unfold belN; rw [Ze5, Xz]; simp
def trues : Nat → List Bool → List Int
 | _, [] => []
 | i, b :: r => if b then (i : Int) :: trues (i + 1) r else trues (i + 1) r
theorem Z95 : ∀ (l : List Bool) (i : Nat) (n : Int), n ∈ trues i l ↔ ∃ j, j < l.length ∧ n = ((i + j : Nat) : Int) ∧ l.getD j false = true
 | [], i, n => by simp [trues]
 | b :: r, i, n => by
  have ih := Z95 r (i + 1) n
  have h : n ∈ trues i (b :: r) ↔ (b = true ∧ n = (i : Int)) ∨ n ∈ trues (i + 1) r := by
   rw [trues]; split <;> simp [*]
  rw [h, ih]
  constructor
  ·rintro (⟨hb, hn⟩ | ⟨j, hj, hn, hv⟩)
   ·exact ⟨0, by simp, by simpa using hn, by simpa [List.getD] using hb⟩
   ·exact ⟨j + 1, by simpa using hj, by rw [hn]; omega, by simpa [List.getD] using hv⟩
  ·rintro ⟨j, hj, hn, hv⟩
   cases j with
   | zero => exact .inl ⟨by simpa [List.getD] using hv, by simpa using hn⟩
   | succ j => exact .inr ⟨j, by simpa using hj, by rw [hn]; omega, by simpa [List.getD] using hv⟩
theorem Zbd : ∀ (l : List Bool) (i : Nat), (trues i l).Pairwise (· < ·)
 | [], _ => by simp [trues]
 | b :: r, i => by
  have ih := Zbd r (i + 1)
  rw [trues]
  split
  ·refine List.pairwise_cons.2 ⟨fun n hn => ?_, ih⟩
   obtain ⟨j, _, hn, _⟩ := (Z95 r (i + 1) n).1 hn
   omega
  ·exact ih
def lvOf : List Bool → List Nod → List Int
 | b :: bs, x :: r => if b = true ∧ x.op = 1 then x.value :: lvOf bs r else lvOf bs r
 | _, _ => []
theorem Zgm : ∀ (B : List Bool) (l : List Nod) (n : Int), n ∈ lvOf B l → ∃ x ∈ l, x.op = 1 ∧ x.value = n
 | b :: bs, x :: r, n, h => by
  rw [lvOf] at h
  split at h
  ·rename_i hb
   rcases List.mem_cons.1 h with h | h
   ·exact ⟨x, by simp, hb.2, h.symm⟩
   ·obtain ⟨y, hy, e⟩ := Zgm bs r n h
    exact ⟨y, by simp [hy], e⟩
  ·obtain ⟨y, hy, e⟩ := Zgm bs r n h
   exact ⟨y, by simp [hy], e⟩
 | [], _, n, h => by simp [lvOf] at h
 | _ :: _, [], n, h => by simp [lvOf] at h
theorem lvOf_len : ∀ (B : List Bool) (l : List Nod), (lvOf B l).length ≤ l.length
 | b :: bs, x :: r => by
  have := lvOf_len bs r
  rw [lvOf]; split <;> simp <;> omega
 | [], _ => by simp [lvOf]
 | _ :: _, [] => by simp [lvOf]
theorem Z96 : ∀ (l : List Int) (n : Int), n ∈ cmpI l ↔ n ∈ l
 | [], n => by simp [cmpI]
 | [x], n => by simp [cmpI]
 | x :: y :: r, n => by
  have ih := Z96 (y :: r) n
  rw [cmpI]
  split
  ·rename_i h; rw [ih]; subst h; simp
  ·rw [List.mem_cons, ih, List.mem_cons (a := n) (b := x)]
theorem Z7x : ∀ (l : List Int), l.Pairwise (· ≤ ·) → (cmpI l).Pairwise (· < ·)
 | [], _ => by simp [cmpI]
 | [x], _ => by simp [cmpI]
 | x :: y :: r, h => by
  have h' := List.pairwise_cons.1 h
  have ih := Z7x (y :: r) h'.2
  rw [cmpI]
  split
  ·exact ih
  ·rename_i hne
   refine List.pairwise_cons.2 ⟨fun n hn => ?_, ih⟩
   have hn := (Z96 (y :: r) n).1 hn
   have h1 := h'.1 y (by simp)
   rcases List.mem_cons.1 hn with rfl | hr
   ·omega
   ·have := (List.pairwise_cons.1 h'.2).1 n hr
    omega
theorem Zcg : ∀ {a b : List Int}, a.Pairwise (· < ·) → b.Pairwise (· < ·) → (∀ n, n ∈ a ↔ n ∈ b) → a = b
 | [], [], _, _, _ => rfl
 | [], y :: b, _, _, h => by have := (h y).2 (by simp); simp at this
 | x :: a, [], _, _, h => by have := (h x).1 (by simp); simp at this
 | x :: a, y :: b, ha, hb, h => by
  have ha' := List.pairwise_cons.1 ha
  have hb' := List.pairwise_cons.1 hb
  have hxy : x = y := by
   have h1 := (h x).1 (by simp)
   have h2 := (h y).2 (by simp)
   rcases List.mem_cons.1 h1 with h1 | h1
   ·exact h1
   ·rcases List.mem_cons.1 h2 with h2 | h2
    ·exact h2.symm
    ·have := ha'.1 y h2
     have := hb'.1 x h1
     omega
  subst hxy
  rw [Zcg ha'.2 hb'.2 fun n => ?_]
  constructor
  ·intro hn
   have h1 := ha'.1 n hn
   rcases List.mem_cons.1 ((h n).1 (by simp [hn])) with h | h
   ·omega
   ·exact h
  ·intro hn
   have h1 := hb'.1 n hn
   rcases List.mem_cons.1 ((h n).2 (by simp [hn])) with h | h
   ·omega
   ·exact h
theorem cmp_sort_eq (l : List Int) (k : Nat) (hl : ∀ n ∈ l, 0 ≤ n ∧ n < k) : cmpI (sortI l) = trues 0 (Zh l (List.replicate k false)) := by
 refine Zcg (Z7x _ (Ht l)) (Zbd _ _) fun n => ?_
 rw [Z96, (Yn l).mem_iff, Z95, Xz, List.length_replicate]
 constructor
 ·intro hn
  have := hl n hn
  refine ⟨n.toNat, by omega, by omega, ?_⟩
  rw [Z7m _ _ _ (by simp; omega)]
  simp only [Bool.or_eq_true, List.any_eq_true, decide_eq_true_eq]
  exact .inr ⟨n, hn, rfl⟩
 ·rintro ⟨j, hj, hn, hv⟩
  rw [Z7m _ _ _ (by simpa using hj)] at hv
  simp only [Bool.or_eq_true, List.any_eq_true, decide_eq_true_eq] at hv
  rcases hv with hv | ⟨m, hm, e⟩
  ·simp [List.getD, hj] at hv
  ·have := hl m hm
   have : n = m := by omega
   rw [this]; exact hm
open Go (IntKind BinOp UnOp)
variable {π : Id}
def fromE (nodes : List Nod) (fr : List Int) : Int := unlE (Qi nodes.length fr) 6
def Z5e (leaves : List Int) (nodes : List Nod) (fr : List Int) : Int := if (Xw leaves nodes).2 ≠ 0 then (Xw leaves nodes).2 else fromE nodes fr
theorem e_namedErr1 (nodes : List Nod) (hnl : nodes.length ≤ 100000) (n : Int) : EE π Qv [.p (I n), .p (.ptr [Z8 nodes])] [] = some (.p (.bool (!Z6 n 0 ((nodes.length : Int) - 1))), []) := by
 have hw : IntKind.i64.wrap ((nodes.length : Int) - 1) = nodes.length - 1 := w64 ⟨by omega, by omega⟩
 simp [Zdk, Z1, Z0v, hw, Z0f]
theorem e_namedErr (leaves : List Int) (nodes : List Nod) (fr : List Int) (hnl : nodes.length ≤ 100000) (hfl : fr.length ≤ 1000) (hal : ∀ x ∈ nodes, x.args.length ≤ 1000) :
  EE π F9 [.p (Z2 leaves), .p (Z8 nodes), .p (Z2 fr)] [] = some (.p (I (Z5e leaves nodes fr)), []) := by
 have hge := fun π => e_graphErr (π := π) leaves nodes hal
 have hcf := fun π => e_CoFI (π := π) fr (by simp only [top63]; omega) (f := Qv) (caps := [.ptr [Z8 nodes]]) (p := fun n => !Z6 n 0 ((nodes.length : Int) - 1)) (fun n _ => by simpa using e_namedErr1 nodes hnl n)
 have hany : (fr.any fun n => !Z6 n 0 ((nodes.length : Int) - 1)) = !Qi nodes.length fr := by unfold Qi; rw [List.any_eq_not_all_not]; simp
 rw [hany] at hcf
 unfold Z5e fromE
 generalize (Xw leaves nodes).2 = c at *
 generalize Qi nodes.length fr = b at *
 by_cases hc : c = 0 <;> simp [Zh3, Z1, Z4h, hge, hcf, Wk, Z0g, Z9, hc, evRO, Z4]
 exact fun h => h.symm
variable {π κ : Id}
abbrev bools (l : List Bool) : List PV := l.map PV.bool
abbrev rowB (i : Id) (nl : Option Bool) (L : List Bool) : Id × Blk := (i, .row false Zev 1 nl (bools L))
abbrev frB (π : Id) (st : FSt) : Id × Blk := (2000000 :: π, .frm π 51 [(5, .ref (5 :: π) 0)] [27, 28] Z2d Z2c st)
abbrev k0W (π : Id) : List Id := [2000000 :: π, 1 :: 26 :: π, 5 :: π, 14 :: π]
abbrev k0V (π : Id) : List Id := [2000000 :: π, 5 :: π, 14 :: π]
abbrev stBr (π : Id) (o : List Bool) : Sto := [(5 :: π, .box false [.ap (14 :: π)]), rowB (14 :: π) (some false) o]
abbrev stBl (π : Id) (nodes : List Nod) (o : List Bool) : Sto := [(1 :: 26 :: π, .box false [.p (Z8 nodes)]), (5 :: π, .box false [.ap (14 :: π)]), rowB (14 :: π) (some false) o]
theorem set_same {α : Type} (l : List α) (i : Nat) (h : i < l.length) : l.set i l[i] = l := List.set_getElem_self h
theorem bel_loop1 (i : Nat) (b : Bool) (args : List Int) (hal : args.length ≤ 1000) (hin : ∀ n ∈ args, 0 ≤ n ∧ n < (i : Int)) :
  ∀ (suf pre : List Int) (o : List Bool) (y : Env × Sto), args = pre ++ suf → o[i]? = some b →
  mask [5, 8, 30, 31, 32] (k0V π) y = some ([(5, .ref (5 :: π) 0), (8, .p (I i)), (30, .p (Z2 args)), (31, .p (I args.length)), (32, .p (I pre.length))], frB π .busy :: stBr π o) →
  kpO [] [] (k0V π) (bkO 4 (iter (round EE iter π (k0V π) [5, 8, 30, 31, 32] Z4n) y)) = some (.nm, [], frB π .busy :: stBr π (if b = true then Zh suf o else o))
 | [], pre, o, y, h, hb, hm => by
  rw [Z0 hm]
  have : args = pre := by simpa using h
  have hr : (if b = true then Zh [] o else o) = o := by cases b <;> rfl
  rw [hr]
  simp [Mp, Uf, ← this]
 | z :: suf, pre, o, y, h, hb, hm => by
  rw [Z0 hm]
  have hlen : pre.length < args.length := by rw [h]; simp
  have hz := hin z (by rw [h]; simp)
  have hws := Zb hlen (show args.length ≤ top63 by simp only [top63]; omega)
  have hi := (List.getElem?_eq_some_iff.1 hb).1
  have hbi := (List.getElem?_eq_some_iff.1 hb).2
  have hzl : z.toNat < o.length := by omega
  have hnext := bel_loop1 i b args hal hin suf (pre ++ [z])
  rw [show (pre ++ [z]).length = pre.length + 1 by simp] at hnext
  cases b with
  | true =>
   have hn := hnext (o.set z.toNat true)
   rw [if_pos rfl] at hn ⊢
   rw [Zh]
   generalize Zh suf (o.set z.toNat true) = R at *
   have hb' : (o.set z.toNat true)[i]? = some true := by rw [List.getElem?_set_ne (by omega)]; exact hb
   by_cases hv : o[z.toNat] = true
   ·simp [Mp, Uf, Z7 h, Zt _ h, hz.1, hi, hbi, hzl, hv, evRO]
    refine hn _ (by simp [h]) hb' ?_
    simp [hws]
    rfl
   ·simp [Mp, Uf, Z7 h, Zt _ h, hz.1, hi, hbi, hzl, hv, evRO]
    refine hn _ (by simp [h]) hb' ?_
    simp [hws]
    rfl
  | false =>
   have hn := hnext o
   rw [if_neg (by decide)] at hn ⊢
   have hs : (bools o).set z.toNat (PV.bool o[z.toNat]) = bools o := by rw [← List.map_set, set_same o z.toNat hzl]
   by_cases hv : o[z.toNat] = true
   ·simp [Mp, Uf, Z7 h, Zt _ h, hz.1, hi, hbi, hzl, hv, evRO]
    refine hn _ (by simp [h]) hb ?_
    simp [hws]
    rw [hv] at hs
    exact hs
   ·simp [Mp, Uf, Z7 h, Zt _ h, hz.1, hi, hbi, hzl, hv, evRO]
    refine hn _ (by simp [h]) hb ?_
    simp [hws]
    rw [show o[z.toNat] = false by simpa using hv] at hs
    exact hs
theorem e_yldB {args : List AV} {s : Sto} : EE κ Z3 args s = runY EE iter args s := E_yld
theorem e_roundB (i : Nat) (x : Nod) (b : Bool) (o : List Bool) (hal : x.args.length ≤ 1000) (hin : ∀ n ∈ x.args, 0 ≤ n ∧ n < (i : Int)) (hb : o[i]? = some b) :
  EE κ Z3 [.p (I i), .p (Ks x), .yld (2000000 :: π)] (frB π .ready :: stBr π o) = some (.p (.bool true), frB π .ready :: stBr π (if b = true then Zh x.args o else o)) := by
 have hl := bel_loop1 (π := π) i b x.args hal hin x.args [] o
 rw [e_yldB]
 generalize (if b = true then Zh x.args o else o) = R at *
 simp [runY, Zee, Z2o, Zed, Z2n]
 rw [hl _ rfl hb (by simp)]
 simp
theorem evC_rf {C : Call} {L : Loop} {k0 : List Id} {e : Env} {s : Sto} (g : Opd) (nt site : Nat) (live ps : List Nat) (a b : IR) : evC C L π k0 (.rf g nt site live ps a b) e s =
  if s.has ((2000000 + site) :: π) then none else match fnOf (g.get e) (.yld ((2000000 + site) :: π)) with
  | some (k, args) => if k = Z3 then none else match C ((3000000 + site) :: π) k args (((2000000 + site) :: π, .frm π nt (e.keep live) ps a b .ready) :: s) with
   | some (_, s1) => rfO k0 ((2000000 + site) :: π) ((Z7b s).foldl Env.kill e) s1
   | none => none
  | none => none := by
 rw [evC] <;> rfl
theorem Zg5 (nodes : List Nod) (hnl : nodes.length ≤ 100000) (hal : ∀ x ∈ nodes, x.args.length ≤ 1000) (hin : ∀ (i : Nat) (x : Nod), nodes[i]? = some x → ∀ n ∈ x.args, 0 ≤ n ∧ n < (i : Int)) : ∀ (k : Nat) (o : List Bool) (x : Env × Sto), k ≤ nodes.length → o.length = nodes.length →
  mask [0, 1, 3] (k0W π) x = some ([(0, .yld (2000000 :: π)), (1, .ref (1 :: 26 :: π) 0), (3, .p (I ((k : Int) - 1)))], frB π .ready :: stBl π nodes o) →
  kpO [] [] (k0W π) (bkO 0 (iter (round EE iter κ (k0W π) [0, 1, 3] Yj) x)) = some (.nm, [], frB π .ready :: stBl π nodes (Lv nodes k o))
 | 0, o, x, hk, ho, hm => by
  rw [Z0 hm]
  simp [W8, Zw, Lv]
 | k + 1, o, x, hk, ho, hm => by
  rw [Z0 hm]
  have hkl : k < nodes.length := by omega
  have hpk : nodes[k]? = some nodes[k] := List.getElem?_eq_getElem hkl
  generalize hp : nodes[k] = p at hpk
  have hmem : p ∈ nodes := List.mem_of_getElem? hpk
  have hko : k < o.length := by omega
  have hb : o[k]? = some (o.getD k false) := by simp [List.getD, hko]
  have hc := fun κ => e_roundB (κ := κ) (π := π) k p (o.getD k false) o (hal p hmem) (hin k p hpk) hb
  have hw : IntKind.i64.wrap ((k : Int) - 1) = (k : Int) - 1 := w64 ⟨by omega, by omega⟩
  have hnext := Zg5 nodes hnl hal hin k (if o.getD k false = true then Zh p.args o else o)
  have hlen : (if o.getD k false = true then Zh p.args o else o).length = nodes.length := by
   split
   ·rw [Xz]; exact ho
   ·exact ho
  rw [Lv, hpk]
  simp only
  generalize (if o.getD k false = true then Zh p.args o else o) = R at *
  have e1 : ((k + 1 : Nat) : Int) - 1 = k := by omega
  rw [e1] at *
  simp [W8, Zw, hkl, hp, hc]
  refine hnext _ (by omega) hlen ?_
  simp [hw]
theorem e_backB (nodes : List Nod) (hnl : nodes.length ≤ 100000) (hal : ∀ x ∈ nodes, x.args.length ≤ 1000) (hin : ∀ (i : Nat) (x : Nod), nodes[i]? = some x → ∀ n ∈ x.args, 0 ≤ n ∧ n < (i : Int)) (o : List Bool) (ho : o.length = nodes.length) :
  EE κ Y4 [.yld (2000000 :: π), .ref (1 :: 26 :: π) 0] (frB π .ready :: stBl π nodes o) = some (.p (.tup []), frB π .ready :: stBl π nodes (Lv nodes nodes.length o)) := by
 have hlp := Zg5 (κ := κ) (π := π) nodes hnl hal hin nodes.length o
 have hw : IntKind.i64.wrap ((nodes.length : Int) - 1) = (nodes.length : Int) - 1 := w64 ⟨by omega, by omega⟩
 generalize Lv nodes nodes.length o = R' at *
 simp [La, Z1, Yy, hw]
 rw [hlp _ (by omega) ho (by simp)]
 simp
theorem mark_loop (nodes : List Nod) (fr : List Int) (hfl : fr.length ≤ 1000) (hin : ∀ n ∈ fr, 0 ≤ n ∧ n < (nodes.length : Int)) :
  ∀ (suf pre : List Int) (o : List Bool) (y : Env × Sto), fr = pre ++ suf → o.length = nodes.length →
  mask [0, 4, 5, 15, 16, 17] [] y = some ([(0, .p (Z8 nodes)), (4, .p (.sl 1 (some true) [])), (5, .ref (5 :: π) 0), (15, .p (Z2 fr)), (16, .p (I fr.length)), (17, .p (I pre.length))], [(5 :: π, .box false [.ap (14 :: π)]), rowB (14 :: π) (some false) o]) →
  kpO [0, 4, 5] [4] [] (bkO 0 (iter (round EE iter π [] [0, 4, 5, 15, 16, 17] Z4o) y)) = some (.nm, [(0, .p (Z8 nodes)), (4, .p (.sl 1 (some true) [])), (5, .ref (5 :: π) 0)], [(5 :: π, .box false [.ap (14 :: π)]), rowB (14 :: π) (some false) (Zh suf o)])
 | [], pre, o, y, h, ho, hm => by
  rw [Z0 hm]
  have : fr = pre := by simpa using h
  simp [Z8q, Fk, Zh, ← this]
 | z :: suf, pre, o, y, h, ho, hm => by
  rw [Z0 hm]
  have hlen : pre.length < fr.length := by rw [h]; simp
  have hz := hin z (by rw [h]; simp)
  have hws := Zb hlen (show fr.length ≤ top63 by simp only [top63]; omega)
  have hzl : z.toNat < o.length := by omega
  have hnext := mark_loop nodes fr hfl hin suf (pre ++ [z]) (o.set z.toNat true)
  rw [show (pre ++ [z]).length = pre.length + 1 by simp] at hnext
  rw [Zh]
  generalize Zh suf (o.set z.toNat true) = R at *
  simp [Z8q, Fk, Z7 h, Zt _ h, hz.1, hzl]
  refine hnext _ (by simp [h]) (by simpa using ho) ?_
  simp [hws]
  rfl
theorem e_below (nodes : List Nod) (hnl : nodes.length ≤ 100000) (hal : ∀ x ∈ nodes, x.args.length ≤ 1000) (hin : ∀ (i : Nat) (x : Nod), nodes[i]? = some x → ∀ n ∈ x.args, 0 ≤ n ∧ n < (i : Int)) (fr : List Int) (hfl : fr.length ≤ 1000) (hfin : ∀ n ∈ fr, 0 ≤ n ∧ n < (nodes.length : Int)) :
  EE π Z6l [.p (Z8 nodes), .p (Z2 fr)] [] = some (.ap (14 :: π), [rowB (14 :: π) (some false) (belN nodes fr)]) := by
 have hml := mark_loop (π := π) nodes fr hfl hfin fr [] (List.replicate nodes.length false)
 have hlen : (Zh fr (List.replicate nodes.length false)).length = nodes.length := by rw [Xz]; simp
 have hbk := fun κ => e_backB (κ := κ) (π := π) nodes hnl hal hin (Zh fr (List.replicate nodes.length false)) hlen
 have hro : nodes.length ≤ room := by simp only [room]; omega
 have hrl : (List.replicate nodes.length false).length = nodes.length := by simp
 have hrep : List.replicate nodes.length (PV.bool false) = bools (List.replicate nodes.length false) := by simp
 unfold belN
 generalize List.replicate nodes.length false = o at *
 generalize Zh fr o = o1 at *
 generalize Lv nodes nodes.length o1 = R at *
 simp [e_gr_below, Z1, Zau, hro, hrep]
 rw [hml _ rfl hrl (by simp)]
 simp [Kt, Xe, Z1, evC_rf, fnOf]
 rw [hbk]
 simp
theorem Zf0 (nodes : List Nod) (fr : List Int) (hfl : fr.length ≤ 1000) (hin : ∀ n ∈ fr, 0 ≤ n ∧ n < (nodes.length : Int)) :
  ∀ (suf pre : List Int) (o : List Bool) (y : Env × Sto), fr = pre ++ suf → o.length = nodes.length →
  mask [0, 1, 5, 6] [] y = some ([(0, .p (Z8 nodes)), (1, .p (Z2 fr)), (5, .ap (11 :: π)), (6, .p (I pre.length))], [rowB (11 :: π) (some false) o]) →
  kpO [0, 5] [4] [] (bkO 0 (iter (round EE iter π [] [0, 1, 5, 6] Z4f) y)) = some (.nm, [(0, .p (Z8 nodes)), (5, .ap (11 :: π))], [rowB (11 :: π) (some false) (Zh suf o)])
 | [], pre, o, y, h, ho, hm => by
  rw [Z0 hm]
  have : fr = pre := by simpa using h
  simp [Z8p, Fj, Zh, ← this]
 | z :: suf, pre, o, y, h, ho, hm => by
  rw [Z0 hm]
  have hlen : pre.length < fr.length := by rw [h]; simp
  have hz := hin z (by rw [h]; simp)
  have hws := Zb hlen (show fr.length ≤ top63 by simp only [top63]; omega)
  have hzl : z.toNat < o.length := by omega
  have hnext := Zf0 nodes fr hfl hin suf (pre ++ [z]) (o.set z.toNat true)
  rw [show (pre ++ [z]).length = pre.length + 1 by simp] at hnext
  rw [Zh]
  generalize Zh suf (o.set z.toNat true) = R at *
  simp [Z8p, Fj, Z7 h, Zt _ h, hz.1, hzl]
  refine hnext _ (by simp [h]) (by simpa using ho) ?_
  simp [hws]
  rfl
theorem Zf3 (nodes : List Nod) (i : Nat) (x : Nod) (hx : nodes[i]? = some x) (hal : x.args.length ≤ 1000) (hin : ∀ n ∈ x.args, 0 ≤ n ∧ n < (i : Int)) :
  ∀ (suf pre : List Int) (o : List Bool) (y : Env × Sto), x.args = pre ++ suf → o.length = nodes.length → o[i]? = some true →
  mask [0, 5, 7, 8] [] y = some ([(0, .p (Z8 nodes)), (5, .ap (11 :: π)), (7, .p (I i)), (8, .p (I pre.length))], [rowB (11 :: π) (some false) o]) →
  kpO [0, 5, 7] [4] [] (bkO 4 (iter (round EE iter π [] [0, 5, 7, 8] Ff) y)) = some (.nm, [(0, .p (Z8 nodes)), (5, .ap (11 :: π)), (7, .p (I i))], [rowB (11 :: π) (some false) (Zh suf o)])
 | [], pre, o, y, h, ho, hb, hm => by
  rw [Z0 hm]
  have : x.args = pre := by simpa using h
  have hi := (List.getElem?_eq_some_iff.1 hx).1
  have hx2 := (List.getElem?_eq_some_iff.1 hx).2
  have hio := (List.getElem?_eq_some_iff.1 hb).1
  have hbi := (List.getElem?_eq_some_iff.1 hb).2
  simp [Z3n, K5, Zh, hi, hx2, hio, hbi, ← this]
 | z :: suf, pre, o, y, h, ho, hb, hm => by
  rw [Z0 hm]
  have hi := (List.getElem?_eq_some_iff.1 hx).1
  have hx2 := (List.getElem?_eq_some_iff.1 hx).2
  have hio := (List.getElem?_eq_some_iff.1 hb).1
  have hbi := (List.getElem?_eq_some_iff.1 hb).2
  have hlen : pre.length < x.args.length := by rw [h]; simp
  have hz := hin z (by rw [h]; simp)
  have hws := Zb hlen (show x.args.length ≤ top63 by simp only [top63]; omega)
  have hzl : z.toNat < o.length := by omega
  have hnext := Zf3 nodes i x hx hal hin suf (pre ++ [z]) (o.set z.toNat true)
  rw [show (pre ++ [z]).length = pre.length + 1 by simp] at hnext
  have hb' : (o.set z.toNat true)[i]? = some true := by rw [List.getElem?_set_ne (by omega)]; exact hb
  rw [Zh]
  generalize Zh suf (o.set z.toNat true) = R at *
  simp [Z3n, K5, Z7 h, Zt _ h, hi, hx2, hio, hbi, hz.1, hzl]
  refine hnext _ (by simp [h]) (by simpa using ho) hb' ?_
  simp [hws]
  rfl
theorem rbel_loop2f (nodes : List Nod) (i : Nat) (o : List Bool) (y : Env × Sto) (hb : o[i]? = some false)
  (hm : mask [0, 5, 7, 8] [] y = some ([(0, .p (Z8 nodes)), (5, .ap (11 :: π)), (7, .p (I i)), (8, .p (I 0))], [rowB (11 :: π) (some false) o])) :
  kpO [0, 5, 7] [4] [] (bkO 4 (iter (round EE iter π [] [0, 5, 7, 8] Ff) y)) = some (.nm, [(0, .p (Z8 nodes)), (5, .ap (11 :: π)), (7, .p (I i))], [rowB (11 :: π) (some false) o]) := by
 rw [Z0 hm]
 have hio := (List.getElem?_eq_some_iff.1 hb).1
 have hbi := (List.getElem?_eq_some_iff.1 hb).2
 simp [Z3n, K5, hio, hbi]
theorem Zf4 (nodes : List Nod) (hnl : nodes.length ≤ 100000) (hal : ∀ x ∈ nodes, x.args.length ≤ 1000) (hin : ∀ (i : Nat) (x : Nod), nodes[i]? = some x → ∀ n ∈ x.args, 0 ≤ n ∧ n < (i : Int)) : ∀ (k : Nat) (o : List Bool) (y : Env × Sto), k ≤ nodes.length → o.length = nodes.length →
  mask [0, 5, 7] [] y = some ([(0, .p (Z8 nodes)), (5, .ap (11 :: π)), (7, .p (I ((k : Int) - 1)))], [rowB (11 :: π) (some false) o]) →
  kpO [5] [4] [] (bkO 2 (iter (round EE iter π [] [0, 5, 7] Z4e) y)) = some (.nm, [(5, .ap (11 :: π))], [rowB (11 :: π) (some false) (Lv nodes k o)])
 | 0, o, y, hk, ho, hm => by
  rw [Z0 hm]
  simp [Z3o, K6, Lv]
 | k + 1, o, y, hk, ho, hm => by
  rw [Z0 hm]
  have hkl : k < nodes.length := by omega
  have hpk : nodes[k]? = some nodes[k] := List.getElem?_eq_getElem hkl
  generalize hp : nodes[k] = p at hpk
  have hmem : p ∈ nodes := List.mem_of_getElem? hpk
  have hko : k < o.length := by omega
  have hb : o[k]? = some (o.getD k false) := by simp [List.getD, hko]
  have hw : IntKind.i64.wrap ((k : Int) - 1) = (k : Int) - 1 := w64 ⟨by omega, by omega⟩
  have hnext := Zf4 nodes hnl hal hin k (if o.getD k false = true then Zh p.args o else o)
  have hlen : (if o.getD k false = true then Zh p.args o else o).length = nodes.length := by
   split
   ·rw [Xz]; exact ho
   ·exact ho
  rw [Lv, hpk]
  simp only
  have e1 : ((k + 1 : Nat) : Int) - 1 = k := by omega
  rw [e1] at *
  generalize o.getD k false = b at *
  cases b with
  | true =>
   rw [if_pos rfl] at *
   have hl2 := Zf3 (π := π) nodes k p hpk (hal p hmem) (hin k p hpk) p.args [] o
   generalize Zh p.args o = R at *
   simp [Z3o, K6]
   rw [hl2 _ rfl ho hb (by simp)]
   simp
   refine hnext _ (by omega) hlen ?_
   simp [hw]
  | false =>
   rw [if_neg (by decide)] at *
   simp [Z3o, K6]
   rw [rbel_loop2f (π := π) nodes k o _ hb (by simp)]
   simp
   refine hnext _ (by omega) hlen ?_
   simp [hw]
theorem e_BelowB (nodes : List Nod) (hnl : nodes.length ≤ 100000) (hal : ∀ x ∈ nodes, x.args.length ≤ 1000) (hin : ∀ (i : Nat) (x : Nod), nodes[i]? = some x → ∀ n ∈ x.args, 0 ≤ n ∧ n < (i : Int)) (fr : List Int) (hfl : fr.length ≤ 1000) (hfin : ∀ n ∈ fr, 0 ≤ n ∧ n < (nodes.length : Int)) :
  EE π Z6k [.p (Z8 nodes), .p (Z2 fr)] [] = some (.ap (11 :: π), [rowB (11 :: π) (some false) (belN nodes fr)]) := by
 have hml := Zf0 (π := π) nodes fr hfl hfin fr [] (List.replicate nodes.length false)
 have hlen : (Zh fr (List.replicate nodes.length false)).length = nodes.length := by rw [Xz]; simp
 have hl1 := Zf4 (π := π) nodes hnl hal hin nodes.length (Zh fr (List.replicate nodes.length false))
 have hro : nodes.length ≤ room := by simp only [room]; omega
 have hrl : (List.replicate nodes.length false).length = nodes.length := by simp
 have hrep : List.replicate nodes.length (PV.bool false) = bools (List.replicate nodes.length false) := by simp
 have hw : IntKind.i64.wrap ((nodes.length : Int) - 1) = nodes.length - 1 := w64 ⟨by omega, by omega⟩
 unfold belN
 generalize List.replicate nodes.length false = o at *
 generalize Zh fr o = o1 at *
 generalize Lv nodes nodes.length o1 = R at *
 simp [e_rb_Below, Z1, Zap, hro, hrep]
 rw [hml _ rfl hrl (by simp)]
 simp [hw]
 rw [hl1 _ (Nat.le_refl _) hlen (by simp)]
 simp
theorem Zg6 {k : Nat} {l : List Int} : Qi k l = true ↔ ∀ n ∈ l, 0 ≤ n ∧ n < (k : Int) := by
 unfold Qi
 rw [List.all_eq_true]
 constructor
 ·intro h n hn; have := Y7.1 (h n hn); omega
 ·intro h n hn; have := h n hn; exact Y7.2 (by omega)
theorem fromE_z {nodes : List Nod} {fr : List Int} (h : fromE nodes fr = 0) : ∀ n ∈ fr, 0 ≤ n ∧ n < (nodes.length : Int) := Zg6.1 ((Hs (by decide)).1 h)
@[simp] theorem intsOf_ints : ∀ l : List Int, Z5k (ints l) = some l
 | [] => rfl
 | x :: r => by
  have := intsOf_ints r
  simp only [List.map_cons] at this ⊢
  rw [Z5k, this]; rfl
theorem lb_loop (nodes : List Nod) (B : List Bool) (hbl : B.length = nodes.length) (hnl : nodes.length ≤ 1000) :
  ∀ (suf pre : List Nod) (sb pb : List Bool) (R : List Int) (y : Env × Sto), nodes = pre ++ suf → B = pb ++ sb → pb.length = pre.length → R.length ≤ pre.length →
  mask [5, 6, 12, 13, 14] [] y = some ([(5, .ap (1005 :: π)), (6, .ap (14 :: 11 :: π)), (12, .p (Z8 nodes)), (13, .p (I nodes.length)), (14, .p (I pre.length))], [rowI (1005 :: π) (flagE R) R, rowB (14 :: 11 :: π) (some false) B]) →
  kpO [5] [4] [] (bkO 0 (iter (round EE iter π [] [5, 6, 12, 13, 14] M5) y)) = some (.nm, [(5, .ap (1005 :: π))], [rowI (1005 :: π) (flagE (R ++ lvOf sb suf)) (R ++ lvOf sb suf)])
 | [], pre, sb, pb, R, y, h, hB, hpl, hR, hm => by
  rw [Z0 hm]
  have : nodes = pre := by simpa using h
  have hsb : lvOf sb [] = [] := by cases sb <;> rfl
  simp [U8, Xg, hsb, ← this]
 | z :: suf, pre, [], pb, R, y, h, hB, hpl, hR, hm => by
  have h1 := congrArg List.length h
  have h2 := congrArg List.length hB
  simp at h1 h2
  omega
 | z :: suf, pre, b :: sb, pb, R, y, h, hB, hpl, hR, hm => by
  rw [Z0 hm]
  have hlen : pre.length < nodes.length := by rw [h]; simp
  have hlenB : pre.length < B.length := by omega
  have hz : B[pre.length] = b := by simp [hB, ← hpl]
  have hws := Zb hlen (show nodes.length ≤ top63 by simp only [top63]; omega)
  have hroom : R.length + 1 ≤ room := by simp only [room]; omega
  have hBn : B = (pb ++ [b]) ++ sb := by simp [hB]
  by_cases hc : b = true ∧ z.op = 1
  ·obtain ⟨hb, ho⟩ := hc
   subst hb
   have hnext := lb_loop nodes B hbl hnl suf (pre ++ [z]) sb (pb ++ [true]) (R ++ [z.value])
   rw [show (pre ++ [z]).length = pre.length + 1 by simp, Zc] at hnext
   rw [show lvOf (true :: sb) (z :: suf) = [z.value] ++ lvOf sb suf by simp [lvOf, ho], ← List.append_assoc]
   generalize R ++ [z.value] ++ lvOf sb suf = RR at *
   simp [U8, Xg, Z7 h, Zt _ h, hlenB, hz, ho, hroom]
   refine hnext _ (by simp [h]) hBn (by simp [hpl]) (by simp; omega) ?_
   simp [hws]
  ·have hnext := lb_loop nodes B hbl hnl suf (pre ++ [z]) sb (pb ++ [b]) R
   rw [show (pre ++ [z]).length = pre.length + 1 by simp] at hnext
   rw [show lvOf (b :: sb) (z :: suf) = lvOf sb suf by rw [lvOf, if_neg hc]]
   generalize R ++ lvOf sb suf = RR at *
   cases b with
   | true =>
    have ho : ¬ z.op = 1 := fun h => hc ⟨rfl, h⟩
    simp [U8, Xg, Z7 h, Zt _ h, hlenB, hz, ho]
    refine hnext _ (by simp [h]) hBn (by simp [hpl]) (by omega) ?_
    simp [hws]
   | false =>
    simp [U8, Xg, Z7 h, Zt _ h, hlenB, hz]
    refine hnext _ (by simp [h]) hBn (by simp [hpl]) (by omega) ?_
    simp [hws]
theorem Zh1 (nodes : List Nod) (hnl : nodes.length ≤ 1000) (hal : ∀ x ∈ nodes, x.args.length ≤ 1000) (hin : ∀ (i : Nat) (x : Nod), nodes[i]? = some x → ∀ n ∈ x.args, 0 ≤ n ∧ n < (i : Int)) (fr : List Int) (hfl : fr.length ≤ 1000) (hfin : ∀ n ∈ fr, 0 ≤ n ∧ n < (nodes.length : Int)) :
  EE π Nk [.p (Z8 nodes), .p (Z2 fr)] [] = some (.p (.sl 1 (flagE (lvOf (belN nodes fr) nodes)) (ints (cmpI (sortI (lvOf (belN nodes fr) nodes))))), []) := by
 have hbe := fun π => e_below (π := π) nodes (by omega) hal hin fr hfl hfin
 have hbl := belN_len nodes fr
 have hlp := lb_loop (π := π) nodes (belN nodes fr) hbl hnl nodes [] (belN nodes fr) [] []
 have hlv := lvOf_len (belN nodes fr) nodes
 simp only [List.nil_append, List.length_nil] at hlp
 generalize belN nodes fr = B at *
 generalize lvOf B nodes = R at *
 have hro : R.length ≤ room := by simp only [room]; omega
 have hro2 : (sortI R).length ≤ room := by rw [(Yn R).length_eq]; exact hro
 simp [Zbu, Z1, Gu, hbe, thaw, thaw1]
 rw [hlp _ trivial trivial trivial (Nat.le_refl _) (by simp [flagE])]
 simp [Kj, F4, sortO, Z46, hro, hro2]
def isLv (leaves : Nat) (nodes : List Nod) (fr : List Int) : List Bool := Zh (lvOf (belN nodes fr) nodes) (List.replicate leaves false)
def lvN (leaves : Nat) (nodes : List Nod) (fr : List Int) : List Int := trues 0 (isLv leaves nodes fr)
theorem leaf_in {leaves : List Int} {nodes : List Nod} (hc : (Xw leaves nodes).2 = 0) {i : Nat} {x : Nod} (hx : nodes[i]? = some x) (h1 : x.op = 1) : 0 ≤ x.value ∧ x.value < (leaves.length : Int) := by
 obtain ⟨ho, hw, hl, ha, hv, hf⟩ := nodeE_iff (Zbn hc i x hx)
 unfold valE at hv
 rw [if_neg (by omega), if_pos h1] at hv
 split at hv
 ·rename_i hin
  have := Y7.1 hin
  omega
 ·exact absurd hv (by decide)
theorem lvOf_in {leaves : List Int} {nodes : List Nod} (hc : (Xw leaves nodes).2 = 0) (B : List Bool) : ∀ n ∈ lvOf B nodes, 0 ≤ n ∧ n < (leaves.length : Int) := fun n hn => by
 obtain ⟨x, hx, h1, rfl⟩ := Zgm _ _ n hn
 obtain ⟨i, hi⟩ := List.getElem?_of_mem hx
 exact leaf_in hc hi h1
theorem lvN_eq {leaves : List Int} {nodes : List Nod} (hc : (Xw leaves nodes).2 = 0) (fr : List Int) : cmpI (sortI (lvOf (belN nodes fr) nodes)) = lvN leaves.length nodes fr := cmp_sort_eq _ _ (lvOf_in hc _)
theorem namedE_z {leaves : List Int} {nodes : List Nod} {fr : List Int} (hc : Z5e leaves nodes fr = 0) : (Xw leaves nodes).2 = 0 ∧ fromE nodes fr = 0 := by
 have hc1 : (Xw leaves nodes).2 = 0 := by
  unfold Z5e at hc
  split at hc
  ·exact hc
  ·rename_i h; simpa using h
 exact ⟨hc1, by unfold Z5e at hc; rwa [if_neg (by simp [hc1])] at hc⟩
theorem e_LeavesOf (leaves : List Int) (nodes : List Nod) (fr : List Int) (hnl : nodes.length ≤ 1000) (hfl : fr.length ≤ 1000) (hal : ∀ x ∈ nodes, x.args.length ≤ 1000) :
  EE π Fa [.p (Z2 leaves), .p (Z8 nodes), .p (Z2 fr)] [] =
   (if Z5e leaves nodes fr ≠ 0 then some (.p (.tup [.sl 1 (some true) [], I (Z5e leaves nodes fr)]), []) else some (.p (.tup [.sl 1 (flagE (lvOf (belN nodes fr) nodes)) (ints (lvN leaves.length nodes fr)), I 0]), [])) := by
 have hne := fun π => e_namedErr (π := π) leaves nodes fr (by omega) hfl hal
 by_cases hc : Z5e leaves nodes fr = 0
 ·rw [hc] at hne
  obtain ⟨hc1, hc2⟩ := namedE_z hc
  have hle := fun π => Zh1 (π := π) nodes hnl hal (fun i x hx => args_in hc1 hx) fr hfl (fromE_z hc2)
  rw [lvN_eq hc1] at hle
  generalize lvN leaves.length nodes fr = R at *
  generalize flagE (lvOf (belN nodes fr) nodes) = fl at *
  simp [Z9r, Z1, Fg, hne, hc, hle]
 ·generalize Z5e leaves nodes fr = c at *
  simp [Z9r, Z1, Fg, hne, hc]
theorem Zge (nodes : List Nod) (n : Nat) (B : List Bool) (hbl : B.length = nodes.length) (hnl : nodes.length ≤ 1000) (hin : ∀ x ∈ nodes, x.op = 1 → 0 ≤ x.value ∧ x.value < (n : Int)) :
  ∀ (suf pre : List Nod) (sb pb : List Bool) (o : List Bool) (y : Env × Sto), nodes = pre ++ suf → B = pb ++ sb → pb.length = pre.length → o.length = n →
  mask [0, 2, 7, 8, 9] [] y = some ([(0, .p (Z8 nodes)), (2, .p (I n)), (7, .ap (11 :: 14 :: π)), (8, .ap (16 :: π)), (9, .p (I pre.length))], [rowB (16 :: π) (some false) o, rowB (11 :: 14 :: π) (some false) B]) →
  kpO [2, 8] [6] [] (bkO 0 (iter (round EE iter π [] [0, 2, 7, 8, 9] M1) y)) = some (.nm, [(2, .p (I n)), (8, .ap (16 :: π))], [rowB (16 :: π) (some false) (Zh (lvOf sb suf) o)])
 | [], pre, sb, pb, o, y, h, hB, hpl, ho, hm => by
  rw [Z0 hm]
  have : nodes = pre := by simpa using h
  have hsb : lvOf sb [] = [] := by cases sb <;> rfl
  simp [U7, Xf, hsb, Zh, ← this]
 | z :: suf, pre, [], pb, o, y, h, hB, hpl, ho, hm => by
  have h1 := congrArg List.length h
  have h2 := congrArg List.length hB
  simp at h1 h2
  omega
 | z :: suf, pre, b :: sb, pb, o, y, h, hB, hpl, ho, hm => by
  rw [Z0 hm]
  have hlen : pre.length < nodes.length := by rw [h]; simp
  have hlenB : pre.length < B.length := by omega
  have hz : B[pre.length] = b := by simp [hB, ← hpl]
  have hws := Zb hlen (show nodes.length ≤ top63 by simp only [top63]; omega)
  have hBn : B = (pb ++ [b]) ++ sb := by simp [hB]
  by_cases hc : b = true ∧ z.op = 1
  ·obtain ⟨hb, h1⟩ := hc
   subst hb
   have hv := hin z (by rw [h]; simp) h1
   have hvl : z.value.toNat < o.length := by omega
   have hnext := Zge nodes n B hbl hnl hin suf (pre ++ [z]) sb (pb ++ [true]) (o.set z.value.toNat true)
   rw [show (pre ++ [z]).length = pre.length + 1 by simp] at hnext
   rw [show lvOf (true :: sb) (z :: suf) = z.value :: lvOf sb suf by simp [lvOf, h1], Zh]
   generalize Zh (lvOf sb suf) (o.set z.value.toNat true) = RR at *
   simp [U7, Xf, Z7 h, Zt _ h, hlenB, hz, h1, hv.1, hvl]
   refine hnext _ (by simp [h]) hBn (by simp [hpl]) (by simpa using ho) ?_
   simp [hws]
   rfl
  ·have hnext := Zge nodes n B hbl hnl hin suf (pre ++ [z]) sb (pb ++ [b]) o
   rw [show (pre ++ [z]).length = pre.length + 1 by simp] at hnext
   rw [show lvOf (b :: sb) (z :: suf) = lvOf sb suf by rw [lvOf, if_neg hc]]
   generalize Zh (lvOf sb suf) o = RR at *
   cases b with
   | true =>
    have h1 : ¬ z.op = 1 := fun h => hc ⟨rfl, h⟩
    simp [U7, Xf, Z7 h, Zt _ h, hlenB, hz, h1]
    refine hnext _ (by simp [h]) hBn (by simp [hpl]) ho ?_
    simp [hws]
   | false =>
    simp [U7, Xf, Z7 h, Zt _ h, hlenB, hz]
    refine hnext _ (by simp [h]) hBn (by simp [hpl]) ho ?_
    simp [hws]
theorem Zgd (B : List Bool) (hbl : B.length ≤ 1000) :
  ∀ (suf pre : List Bool) (R : List Int) (y : Env × Sto), B = pre ++ suf → R.length ≤ pre.length →
  mask [2, 8, 10, 11] [] y = some ([(2, .p (I B.length)), (8, .ap (16 :: π)), (10, .ap (1010 :: π)), (11, .p (I pre.length))], [rowI (1010 :: π) (flagE R) R, rowB (16 :: π) (some false) B]) →
  kpO [10] [6] [] (bkO 2 (iter (round EE iter π [] [2, 8, 10, 11] M0) y)) = some (.nm, [(10, .ap (1010 :: π))], [rowI (1010 :: π) (flagE (R ++ trues pre.length suf)) (R ++ trues pre.length suf)])
 | [], pre, R, y, h, hR, hm => by
  rw [Z0 hm]
  have : B = pre := by simpa using h
  simp [Nu, Wn, trues, ← this]
 | z :: suf, pre, R, y, h, hR, hm => by
  rw [Z0 hm]
  have hlen : pre.length < B.length := by rw [h]; simp
  have hz : B[pre.length] = z := by simp [h]
  have hws := Zb hlen (show B.length ≤ top63 by simp only [top63]; omega)
  have hroom : R.length + 1 ≤ room := by simp only [room]; omega
  cases z with
  | true =>
   have hnext := Zgd B hbl suf (pre ++ [true]) (R ++ [(pre.length : Int)])
   rw [show (pre ++ [true]).length = pre.length + 1 by simp, Zc] at hnext
   rw [show trues pre.length (true :: suf) = [(pre.length : Int)] ++ trues (pre.length + 1) suf by simp [trues], ← List.append_assoc]
   generalize R ++ [(pre.length : Int)] ++ trues (pre.length + 1) suf = RR at *
   simp [Nu, Wn, Z7 h, hlen, hz, hroom]
   refine hnext _ (by simp [h]) (by simp; omega) ?_
   simp [hws]
  | false =>
   have hnext := Zgd B hbl suf (pre ++ [false]) R
   rw [show (pre ++ [false]).length = pre.length + 1 by simp] at hnext
   rw [show trues pre.length (false :: suf) = trues (pre.length + 1) suf by simp [trues]]
   generalize R ++ trues (pre.length + 1) suf = RR at *
   simp [Nu, Wn, Z7 h, hlen, hz]
   refine hnext _ (by simp [h]) (by omega) ?_
   simp [hws]
theorem Zhe (leaves : List Int) (nodes : List Nod) (hll : leaves.length ≤ 1000) (hnl : nodes.length ≤ 1000) (hal : ∀ x ∈ nodes, x.args.length ≤ 1000) (hc : (Xw leaves nodes).2 = 0) (fr : List Int) (hfl : fr.length ≤ 1000) (hfin : ∀ n ∈ fr, 0 ≤ n ∧ n < (nodes.length : Int)) :
  EE π Nh [.p (Z8 nodes), .p (Z2 fr), .p (I leaves.length)] [] = some (.ap (1010 :: π), [rowI (1010 :: π) (flagE (lvN leaves.length nodes fr)) (lvN leaves.length nodes fr)]) := by
 have hbe := fun π => e_BelowB (π := π) nodes (by omega) hal (fun i x hx => args_in hc hx) fr hfl hfin
 have hbl := belN_len nodes fr
 have hl0 := Zge (π := π) nodes leaves.length (belN nodes fr) hbl hnl (fun x hx h1 => by
  obtain ⟨i, hi⟩ := List.getElem?_of_mem hx
  exact leaf_in hc hi h1) nodes [] (belN nodes fr) [] (List.replicate leaves.length false)
 unfold lvN isLv
 have hml : (Zh (lvOf (belN nodes fr) nodes) (List.replicate leaves.length false)).length = leaves.length := by rw [Xz]; simp
 have hl1 := Zgd (π := π) (Zh (lvOf (belN nodes fr) nodes) (List.replicate leaves.length false)) (by omega) (Zh (lvOf (belN nodes fr) nodes) (List.replicate leaves.length false)) [] []
 have hro : leaves.length ≤ room := by simp only [room]; omega
 have hrl : (List.replicate leaves.length false).length = leaves.length := by simp
 have hrep : List.replicate leaves.length (PV.bool false) = bools (List.replicate leaves.length false) := by simp
 simp only [List.nil_append, List.length_nil] at hl0 hl1
 rw [hml] at hl1
 generalize List.replicate leaves.length false = o at *
 generalize belN nodes fr = B at *
 generalize lvOf B nodes = R at *
 generalize Zh R o = o1 at *
 generalize trues 0 o1 = R1 at *
 simp [Zbt, Z1, Gt, hbe, hro, hrep]
 rw [hl0 _ trivial trivial trivial hrl (by simp)]
 simp [thaw, thaw1]
 rw [hl1 _ trivial (Nat.le_refl _) (by simp [flagE])]
 simp
structure Prt where
 name : ByteArray
 width : Int
structure Elm where
 name : ByteArray
 kind : Int
 width : Int
 init : Int
 clock : Int
structure Wrt where
 el : Int
 whn : Int
 val : Int
structure Rul where
 name : ByteArray
 guard : Int
 writes : List Wrt
structure Otp where
 name : ByteArray
 node : Int
structure Atb where
 kind : Int
 rules : List Int
structure Des where
 name : ByteArray
 inputs : List Prt
 elements : List Elm
 nodes : List Nod
 rules : List Rul
 outputs : List Otp
 attrs : List Atb
def Wy (p : Prt) : PV := .agg [.str p.name, I p.width]
def Zr (p : Elm) : PV := .agg [.str p.name, I p.kind, I p.width, I p.init, I p.clock]
def Ww (p : Wrt) : PV := .agg [I p.el, I p.whn, I p.val]
abbrev Z21 (l : List Wrt) : PV := .sl 3 none (l.map Ww)
def Wx (p : Rul) : PV := .agg [.str p.name, I p.guard, Z21 p.writes]
def Un (p : Otp) : PV := .agg [.str p.name, I p.node]
def Px (p : Atb) : PV := .agg [I p.kind, Z2 p.rules]
abbrev X7 (l : List Prt) : PV := .sl 2 none (l.map Wy)
abbrev Xd (l : List Elm) : PV := .sl 5 none (l.map Zr)
abbrev Uz (l : List Rul) : PV := .sl 3 none (l.map Wx)
abbrev Vh (l : List Otp) : PV := .sl 2 none (l.map Un)
abbrev Q0 (l : List Atb) : PV := .sl 2 none (l.map Px)
def Z5 (d : Des) : PV := .agg [.str d.name, X7 d.inputs, Xd d.elements, Z8 d.nodes, Uz d.rules, Vh d.outputs, Q0 d.attrs]
theorem Wj (a b c : Int) : EE π Yh [.p (I a), .p (I b), .p (I c)] [] = some (.p (.bool (Z6 a b c)), []) := by
 by_cases h : b ≤ a <;> simp [e_ds_within, Z1, Z89, Z6, h]
theorem e_withinC (a b c : Int) : EE π Z09 [.p (I a), .p (I b), .p (I c)] [] = some (.p (.bool (Z6 a b c)), []) := by
 by_cases h : b ≤ a <;> simp [e_cf_within, Z1, Z8h, Z6, h]
theorem W3 (a : Bool) (c : Int) : EE π Zf [.p (.bool a), .p (I c)] [] = some (.p (I (unlE a c)), []) := by
 cases a <;> simp [e_ds_unless, Z1, Z8a, unlE]
theorem L9 (a : Bool) (c : Int) : EE π Ve [.p (.bool a), .p (I c)] [] = some (.p (I (unlE a c)), []) := by
 cases a <;> simp [e_cf_unless, Z1, Z8i, unlE]
theorem Zd4 (l : List Int) (hl : l.length ≤ top63) : ∀ (suf pre : List Int) (x : Env × Sto), l = pre ++ suf → mask [5, 6, 7] [] x = some ([(5, .p (Z2 l)), (6, .p (I l.length)), (7, .p (I pre.length))], []) →
  kpO [] [2] [] (bkO 0 (iter (round EE iter π [] [5, 6, 7] Z4q) x)) = (if Z9 suf = 0 then some (.nm, [], []) else some (.rt, [(2, .p (I (Z9 suf)))], []))
 | [], pre, x, h, hm => by
  rw [Z0 hm]
  subst h
  simp [Z3q, K8, Z9]
 | y :: suf, pre, x, h, hm => by
  rw [Z0 hm]
  by_cases hy : y = 0
  ·simp [Z3q, K8, Z7 h, Zt _ h, hy, Z9]
   exact Zd4 l hl suf (pre ++ [y]) _ (by simp [h]) (by simp [Zb (show pre.length < l.length by have := Z7 h; omega) hl])
  ·simp [Z3q, K8, Z7 h, Zt _ h, hy, Z9]
theorem e_firstD (l : List Int) (hl : l.length ≤ top63) : EE π Xa [.p (Z2 l)] [] = some (.p (I (Z9 l)), []) := by
 simp [e_ds_first, Z1, Zav]
 rw [Zd4 l hl l [] _ rfl (by simp)]
 by_cases hf : Z9 l = 0 <;> simp [hf]
theorem Ga (a b : Int) : EE π Xa [.p (.sl 1 none [I a, I b])] [] = some (.p (I (Z9 [a, b])), []) := e_firstD [a, b] (by simp [top63])
theorem Z5t (a b c : Int) : EE π Xa [.p (.sl 1 none [I a, I b, I c])] [] = some (.p (I (Z9 [a, b, c])), []) := e_firstD [a, b, c] (by simp [top63])
theorem Zag (n : Int) : EE π G7 [.p (I n)] [] = some (.p (.bool (Z6 n 1 16)), []) := by
 simp [e_ds_isWidth, Z1, Z6a, Wj]
def letB (c : Int) : Bool := Z6 c 97 122 || Z6 c 65 90
def chB (s : ByteArray) (i : Nat) : Bool := letB ((s[i]?.getD 0).toNat : Int) || (decide (i ≠ 0) && (decide (((s[i]?.getD 0).toNat : Int) = 95) || Z6 ((s[i]?.getD 0).toNat : Int) 48 57))
def Kc (s : ByteArray) : Nat → Nat → Bool
 | 0, _ => true
 | d + 1, i => chB s i && Kc s d (i + 1)
def nameB (s : ByteArray) : Bool := Kc s s.size 0 && Z6 s.size 1 16
theorem Zfb (s : ByteArray) (hs : s.size ≤ top63) : ∀ (d i : Nat) (x : Env × Sto), i + d = s.size → mask [0, 7, 8] [] x = some ([(0, .p (.str s)), (7, .p (I s.size)), (8, .p (I i))], []) →
  kpO [0] [2] [] (bkO 0 (iter (round EE iter π [] [0, 7, 8] Z2h) x)) = (if Kc s d i = true then some (.nm, [(0, .p (.str s))], []) else some (.rt, [(2, .p (.bool false))], []))
 | 0, i, x, h, hm => by
  rw [Z0 hm]
  have : ¬ (i : Int) < s.size := by omega
  simp [Vc, Xn, this, Kc]
 | d + 1, i, x, h, hm => by
  rw [Z0 hm]
  have hi : i < s.size := by omega
  have hi' : (i : Int) < s.size := by omega
  have hws := Zb hi hs
  have hg : s[i]? = some s[i] := by simp [hi]
  generalize s[i] = b at hg
  have hb : (b.toNat : Int) < 256 := by have := b.toNat_lt; omega
  have hw : IntKind.i64.wrap (b.toNat : Int) = b.toNat := w64 ⟨by omega, by omega⟩
  have hok : Kc s (d + 1) i = ((letB b.toNat || (decide (i ≠ 0) && (decide ((b.toNat : Int) = 95) || Z6 b.toNat 48 57))) && Kc s d (i + 1)) := by
   simp only [Kc, chB, hg, Option.getD_some]
  have ih := fun y => Zfb s hs d (i + 1) y (by omega)
  rw [hok]
  generalize Kc s d (i + 1) = R at *
  unfold letB
  by_cases h1 : Z6 b.toNat 97 122 = true
  ·simp [Vc, Xn, hi', hg, hw, Wj, h1]
   exact ih _ (by simp [hws])
  ·have h1' : Z6 b.toNat 97 122 = false := by simpa using h1
   by_cases h2 : Z6 b.toNat 65 90 = true
   ·simp [Vc, Xn, hi', hg, hw, Wj, h1', h2]
    exact ih _ (by simp [hws])
   ·have h2' : Z6 b.toNat 65 90 = false := by simpa using h2
    by_cases h3 : i = 0
    ·subst h3
     have hgb : s[0] = b := by simpa [hi] using hg
     simp [hi, hgb, Vc, Xn, hw, Wj, h1', h2']
    ·by_cases h4 : (b.toNat : Int) = 95
     ·rw [h4] at h1' h2' hw
      simp [Vc, Xn, hi', hg, hw, Wj, h1', h2', h3, h4]
      exact ih _ (by simp [hws])
     ·by_cases h5 : Z6 b.toNat 48 57 = true
      ·simp [Vc, Xn, hi', hg, hw, Wj, h1', h2', h3, h4, h5]
       exact ih _ (by simp [hws])
      ·have h5' : Z6 b.toNat 48 57 = false := by simpa using h5
       simp [Vc, Xn, hi', hg, hw, Wj, h1', h2', h3, h4, h5']
theorem e_isNameD (s : ByteArray) (hs : s.size ≤ top63) : EE π Z06 [.p (.str s)] [] = some (.p (.bool (nameB s)), []) := by
 unfold nameB
 simp [e_ds_isName, Z1, Z8d]
 rw [Zfb s hs s.size 0 _ (by omega) (by simp)]
 by_cases hf : Kc s s.size 0 = true
 ·simp [hf, Wj]
 ·have : Kc s s.size 0 = false := by simpa using hf
  simp [this]
def entN (K : List ByteArray) : List (PV × PV) := K.map fun s => (.str s, .bool true)
abbrev mpN (id : Id) (K : List ByteArray) : Id × Blk := (id, .mpb (entN K))
def hasN (s : ByteArray) (K : List ByteArray) : Bool := K.any fun a => decide (a = s)
theorem hasN_iff {s : ByteArray} {K : List ByteArray} : hasN s K = true ↔ s ∈ K := by
 simp [hasN]
def putN (K : List ByteArray) (s : ByteArray) : List ByteArray := if hasN s K = true then K else K ++ [s]
def okS (s : ByteArray) : Prop := s.size ≤ top63
theorem okS_max {s : ByteArray} (h : okS s) : s.size ≤ Go.maxLen := by simpa [okS, Go.maxLen] using h
def posN (s : ByteArray) : List ByteArray → Nat
 | [] => 0
 | a :: r => if a = s then 0 else posN s r + 1
theorem Zcl {K : List ByteArray} {s : ByteArray} (hK : ∀ x ∈ K, okS x) (hs : okS s) : ∀ x ∈ putN K s, okS x := by
 intro x hx
 unfold putN at hx
 split at hx
 ·exact hK x hx
 ·rcases List.mem_append.1 hx with h | h
  ·exact hK x h
  ·simp at h; subst h; exact hs
theorem like_str {s : ByteArray} (h : okS s) (z : ByteArray) : likeV (.string z) (.string s) = true := by
 simp [likeV, Z0b, Mn, Zz, okS_max h]
theorem Zgq {s : ByteArray} (h : okS s) : keyV (.str s) = some (.string s) := by simp [keyV, Zg2, okS_max h]
theorem keysLikeN : ∀ {K : List ByteArray}, (∀ s ∈ K, okS s) → Hk (.string ⟨#[]⟩) (entN K) = true
 | [], _ => rfl
 | a :: r, h => by
  have h1 := keysLikeN (K := r) fun z hz => h z (by simp [hz])
  have h2 := like_str (h a (by simp)) ⟨#[]⟩
  have h3 := Zgq (h a (by simp))
  unfold Hk at h1 ⊢
  simp only [entN, List.map_cons, List.all_cons, Bool.and_eq_true]
  refine ⟨?_, h1⟩
  rw [h3]
  exact h2
theorem lookN (s : ByteArray) : ∀ (i : Nat) {K : List ByteArray}, (∀ x ∈ K, okS x) → lookE (.string s) i (entN K) = some (if hasN s K = true then some (i + posN s K, .bool true) else none)
 | i, [], _ => by simp [lookE, entN, hasN]
 | i, a :: r, hK => by
  have ih := lookN s (i + 1) (K := r) fun z hz => hK z (by simp [hz])
  have h3 := Zgq (hK a (by simp))
  unfold entN at ih ⊢
  simp only [List.map_cons, lookE, h3]
  by_cases h : a = s
  ·subst h
   simp [sameV, Mn, sameB, posN, hasN]
  ·have hn : sameV (.string a) (.string s) = false := by simp [sameV, Mn, sameB, h]
   rw [hn]
   simp only [Bool.false_eq_true, if_false]
   rw [ih]
   have hh : hasN s (a :: r) = hasN s r := by simp [hasN, h]
   rw [hh]
   by_cases hm : hasN s r = true
   ·simp [hm, posN, h]; omega
   ·simp [hm]
theorem set_posN (s : ByteArray) : ∀ {K : List ByteArray}, s ∈ K → (entN K).set (posN s K) (.str s, .bool true) = entN K
 | [], h => by simp at h
 | a :: r, h => by
  unfold entN posN
  by_cases ha : a = s
  ·subst ha; simp
  ·have hm : s ∈ r := by
    rcases List.mem_cons.1 h with h | h
    ·exact absurd h.symm ha
    ·exact h
   have ih := set_posN s hm
   unfold entN at ih
   simp [ha, ih]
theorem put_entN (s : ByteArray) (K : List ByteArray) : putE (.str s) (.bool true) (entN K) (if hasN s K = true then some (0 + posN s K, .bool true) else none) = entN (putN K s) := by
 unfold putN
 by_cases h : hasN s K = true
 ·simp only [h, if_true, putE, Nat.zero_add]; exact set_posN s (hasN_iff.1 h)
 ·simp [h, putE, entN]
def nmE (K : List ByteArray) (s : ByteArray) : Int := Z9 [unlE (nameB s) 4, unlE (!hasN s K) 5]
theorem Z6r (id : Id) (K : List ByteArray) (s : ByteArray) (hK : ∀ x ∈ K, okS x) (hs : okS s) :
  EE π Xl [.mp id, .p (.str s)] [mpN id K] = some (.p (I (nmE K s)), [mpN id (putN K s)]) := by
 have h1 := Zgq hs
 have h2 := like_str hs ⟨#[]⟩
 have h3 := keysLikeN hK
 have h4 := lookN s 0 hK
 have h5 := put_entN s K
 have h6 : keyV (.str ⟨#[]⟩) = some (.string ⟨#[]⟩) := rfl
 have hn := fun π => e_isNameD (π := π) s hs
 unfold nmE
 show EE π Xl [.mp id, .p (.str s)] [(id, .mpb (entN K))] = some (_, [(id, .mpb (entN (putN K s)))])
 generalize entN K = M at *
 generalize entN (putN K s) = M' at *
 generalize hr : (if hasN s K = true then some (0 + posN s K, PV.bool true) else none) = r at *
 have hr2 : (r.elim (PV.bool false) fun x => x.2) = .bool (hasN s K) := by
  rw [← hr]; by_cases h : hasN s K = true <;> simp [h]
 generalize hasN s K = b at *
 simp [Zel, Z1, Z2e, hn, W3, h1, h2, h3, h4, h5, h6, hr2, Ga]
@[simp] theorem cons3_beq_self (a b c : Nat) (l : Id) : (a :: b :: c :: l == l) = false := by
 rw [beq_eq_false_iff_ne]; intro h; have := congrArg List.length h; simp only [List.length_cons] at this; omega
@[simp] theorem self_beq_cons3 (a b c : Nat) (l : Id) : (l == a :: b :: c :: l) = false := by
 rw [beq_eq_false_iff_ne]; intro h; have := congrArg List.length h; simp only [List.length_cons] at this; omega
@[simp] theorem far1 {a : Nat} : (a :: π) ≠ π := fun h => by have := congrArg List.length h; simp only [List.length_cons] at this; omega
@[simp] theorem far2 {a b : Nat} : (a :: b :: π) ≠ π := fun h => by have := congrArg List.length h; simp only [List.length_cons] at this; omega
@[simp] theorem far3 {a b c : Nat} : (a :: b :: c :: π) ≠ π := fun h => by have := congrArg List.length h; simp only [List.length_cons] at this; omega
@[simp] theorem far1' {a : Nat} : ¬ π = a :: π := fun h => far1 h.symm
@[simp] theorem far2' {a b : Nat} : ¬ π = a :: b :: π := fun h => far2 h.symm
@[simp] theorem far3' {a b c : Nat} : ¬ π = a :: b :: c :: π := fun h => far3 h.symm
@[simp] theorem fgL_prts (l : List Prt) : PV.fg.PV.fgL (l.map Wy) = l.map Wy := L6 _ _ (fun x => by simp [Wy]) l
@[simp] theorem fgL_elms (l : List Elm) : PV.fg.PV.fgL (l.map Zr) = l.map Zr := L6 _ _ (fun x => by simp [Zr]) l
@[simp] theorem fgL_wrts (l : List Wrt) : PV.fg.PV.fgL (l.map Ww) = l.map Ww := L6 _ _ (fun x => by simp [Ww]) l
@[simp] theorem fgL_ruls (l : List Rul) : PV.fg.PV.fgL (l.map Wx) = l.map Wx := L6 _ _ (fun x => by simp [Wx]) l
@[simp] theorem fgL_otps (l : List Otp) : PV.fg.PV.fgL (l.map Un) = l.map Un := L6 _ _ (fun x => by simp [Un]) l
@[simp] theorem fgL_atbs (l : List Atb) : PV.fg.PV.fgL (l.map Px) = l.map Px := L6 _ _ (fun x => by simp [Px]) l
theorem fg_des (d : Des) : (Z5 d).fg = Z5 d := by simp [Z5]
def eachK {α : Type} (er : List ByteArray → α → Int) (nm : α → ByteArray) : List ByteArray → Nat → List α → Int × Int
 | _, _, [] => (0, 0)
 | K, i, x :: r => if er K x = 0 then eachK er nm (K ++ [nm x]) (i + 1) r else (i, er K x)
def endK {α : Type} (er : List ByteArray → α → Int) (nm : α → ByteArray) : List ByteArray → List α → List ByteArray
 | K, [] => K
 | K, x :: r => if er K x = 0 then endK er nm (K ++ [nm x]) r else putN K (nm x)
theorem Z5m {α : Type} (er : List ByteArray → α → Int) (nm : α → ByteArray) : ∀ (K : List ByteArray) (i : Nat) (l : List α), (eachK er nm K i l).2 = 0 → (eachK er nm K i l).1 = 0
 | _, _, [], _ => rfl
 | K, i, x :: r, h => by
  simp only [eachK] at h ⊢
  split
  ·rename_i hx; rw [if_pos hx] at h; exact Z5m er nm _ (i + 1) r h
  ·rename_i hx; rw [if_neg hx] at h; exact absurd h hx
theorem endK_ok {α : Type} (er : List ByteArray → α → Int) (nm : α → ByteArray) : ∀ (K : List ByteArray) (l : List α), (∀ x ∈ K, okS x) → (∀ x ∈ l, okS (nm x)) → ∀ x ∈ endK er nm K l, okS x
 | K, [], hK, _ => hK
 | K, y :: r, hK, hl => by
  unfold endK
  split
  ·refine endK_ok er nm _ r ?_ fun x hx => hl x (by simp [hx])
   intro x hx
   rcases List.mem_append.1 hx with h | h
   ·exact hK x h
   ·simp at h; subst h; exact hl y (by simp)
  ·exact Zcl hK (hl y (by simp))
theorem endK_z {α : Type} (er : List ByteArray → α → Int) (nm : α → ByteArray) : ∀ (K : List ByteArray) (i : Nat) (l : List α), (eachK er nm K i l).2 = 0 → endK er nm K l = K ++ l.map nm
 | _, _, [], _ => by simp [endK]
 | K, i, x :: r, h => by
  simp only [eachK, endK] at h ⊢
  split
  ·rename_i hx; rw [if_pos hx] at h; rw [endK_z er nm _ (i + 1) r h]; simp
  ·rename_i hx; rw [if_neg hx] at h; exact absurd h hx
theorem nmE_z {K : List ByteArray} {s : ByteArray} (h : nmE K s = 0) : putN K s = K ++ [s] := by
 unfold nmE at h
 rw [Zn, Zn] at h
 have := (Hs (c := 5) (by decide)).1 h.2.1
 unfold putN
 simp at this
 simp [this]
abbrev stK2 (π : Id) (K : List ByteArray) : Sto := [(5 :: π, .box false [.mp (14 :: π)]), (14 :: π, .mpb (entN K)), (4 :: π, .box false [.mp (13 :: π)]), (13 :: π, .mpb (entN K))]
def prtE (K : List ByteArray) (p : Prt) : Int := Z9 [nmE K p.name, nmE K p.name, unlE (Z6 p.width 1 16) 2]
theorem e_cd2_1 {κ : Id} (hκ : κ ≠ π) (i : Int) (p : Prt) (hp : okS p.name) (K : List ByteArray) (hK : ∀ x ∈ K, okS x) :
  EE κ Mk [.p (I i), .p (Wy p), .ref (4 :: π) 0, .ref (5 :: π) 0] (stK2 π K) = some (.p (I (prtE K p)), [(14 :: π, .mpb (entN (putN K p.name))), (13 :: π, .mpb (entN (putN K p.name))), (5 :: π, .box false [.mp (14 :: π)]), (4 :: π, .box false [.mp (13 :: π)])]) := by
 have hne := fun (id : Id) (ρ : Id) => Z6r (π := ρ) id K p.name hK hp
 have hκ' : ¬ π = κ := fun h => hκ h.symm
 have hb : (κ == π) = false := beq_eq_false_iff_ne.2 hκ
 have hb' : (π == κ) = false := beq_eq_false_iff_ne.2 hκ'
 unfold Wy prtE stK2
 unfold mpN at hne
 generalize entN K = M at *
 generalize entN (putN K p.name) = M' at *
 generalize nmE K p.name = q at *
 simp [e_ds_CkD_2_1, Z1, Z6d, evRO, hidA, evRH, Xj, hne, hκ, hκ', hb, hb', Zag, W3, Z5t]
theorem prtE_z {K : List ByteArray} {p : Prt} (h : prtE K p = 0) : putN K p.name = K ++ [p.name] := by
 unfold prtE at h
 rw [Zn] at h
 exact nmE_z h.1
theorem Zfl (l : List Prt) (hl : l.length ≤ top63) (hp : ∀ p ∈ l, okS p.name) :
  ∀ (suf pre : List Prt) (K : List ByteArray) (x : Env × Sto), (∀ x ∈ K, okS x) → l = pre ++ suf → mask [1, 9, 10, 11] [5 :: π, 14 :: π, 4 :: π, 13 :: π] x = some ([(1, .fn Mk [.ref (4 :: π) 0, .ref (5 :: π) 0]), (9, .p (X7 l)), (10, .p (I l.length)), (11, .p (I pre.length))], stK2 π K) →
  kpO [] [4, 5] [5 :: π, 14 :: π, 4 :: π, 13 :: π] (bkO 0 (iter (round EE iter (8 :: 35 :: π) [5 :: π, 14 :: π, 4 :: π, 13 :: π] [1, 9, 10, 11] P8) x)) = (if (eachK prtE (fun p => p.name) K pre.length suf).2 = 0 then some (.nm, [], stK2 π (endK prtE (fun p => p.name) K suf)) else some (.rt, [(4, .p (I (eachK prtE (fun p => p.name) K pre.length suf).1)), (5, .p (I (eachK prtE (fun p => p.name) K pre.length suf).2))], stK2 π (endK prtE (fun p => p.name) K suf)))
 | [], pre, K, x, hK, h, hm => by
  rw [Z0 hm]
  subst h
  simp [Qn, Xt, eachK, endK]
 | y :: suf, pre, K, x, hK, h, hm => by
  rw [Z0 hm]
  have hyn : okS y.name := hp y (by rw [h]; simp)
  have hy := e_cd2_1 (π := π) (κ := 19 :: 8 :: 35 :: π) far3 pre.length y hyn K hK
  have hg : l[pre.length]? = some y := by rw [h]; simp
  have hlt := Z7 h
  have hws := Zb (show pre.length < l.length by omega) hl
  unfold stK2 at hy ⊢
  by_cases hpy : prtE K y = 0
  ·have hz := prtE_z hpy
   have ih := fun x => Zfl l hl hp suf (pre ++ [y]) (K ++ [y.name]) x
   rw [hz] at hy
   simp only [eachK, endK, hpy, if_true]
   have hKK : ∀ x ∈ K ++ [y.name], okS x := by rw [← hz]; exact Zcl hK hyn
   unfold stK2 at ih
   generalize entN (K ++ [y.name]) = M' at *
   generalize entN K = M at *
   unfold Wy at hy
   simp [Qn, Xt, hlt, hg, hy, hpy, Wy]
   rw [show pre.length + 1 = (pre ++ [y]).length by simp]
   exact ih _ hKK (by simp [h]) (by simp [hws])
  ·simp only [eachK, endK, hpy, if_false]
   generalize entN (putN K y.name) = M' at *
   generalize entN K = M at *
   unfold Wy at hy
   simp [Qn, Xt, hlt, hg, hy, hpy, Wy]
theorem e_fitsD (n w : Int) (h : w ≤ 16) : EE π Z92 [.p (I n), .p (I w)] [] = some (.p (.bool (fitsB n w)), []) := by
 unfold fitsB
 by_cases h0 : 0 ≤ w
 ·have hneg : ¬ w < 0 := by omega
  have hm : min w.toNat 64 = w.toNat := by omega
  have hp : (2 : Int) ^ w.toNat = pw w := rfl
  have hp1 := pw_pos w
  have hp2 := pw_le h
  have hw : IntKind.i64.wrap (pw w) = pw w := w64 ⟨by omega, by omega⟩
  have hw2 : IntKind.i64.wrap (pw w - 1) = pw w - 1 := w64 ⟨by omega, by omega⟩
  have hwi := fun π => Wj (π := π) n 0 (pw w - 1)
  generalize pw w = P at *
  simp [e_ds_fits, Z1, Z9y, h0, hneg, hm, hp, hw, hw2, hwi, IntKind.bits, Z4]
 ·have hneg : w < 0 := by omega
  simp [e_ds_fits, Z1, Z9y, h0, hneg, Z4]
def elmE (K : List ByteArray) (p : Elm) : Int :=
 if Z9 [nmE K p.name, unlE (Z6 p.kind 0 1) 15, unlE (Z6 p.width 1 16) 2] ≠ 0 then Z9 [nmE K p.name, unlE (Z6 p.kind 0 1) 15, unlE (Z6 p.width 1 16) 2]
 else unlE (fitsB p.init p.width && Z6 p.clock 0 3) 2
abbrev stK1 (π : Id) (K : List ByteArray) : Sto := [(4 :: π, .box false [.mp (13 :: π)]), (13 :: π, .mpb (entN K))]
theorem e_cd4_1 {κ : Id} (hκ : κ ≠ π) (i : Int) (p : Elm) (hp : okS p.name) (K : List ByteArray) (hK : ∀ x ∈ K, okS x) :
  EE κ Mj [.p (I i), .p (Zr p), .ref (4 :: π) 0] (stK1 π K) = some (.p (I (elmE K p)), [(13 :: π, .mpb (entN (putN K p.name))), (4 :: π, .box false [.mp (13 :: π)])]) := by
 have hne := fun (id : Id) (ρ : Id) => Z6r (π := ρ) id K p.name hK hp
 have hκ' : ¬ π = κ := fun h => hκ h.symm
 have hb : (κ == π) = false := beq_eq_false_iff_ne.2 hκ
 have hb' : (π == κ) = false := beq_eq_false_iff_ne.2 hκ'
 have hw : Z9 [nmE K p.name, unlE (Z6 p.kind 0 1) 15, unlE (Z6 p.width 1 16) 2] = 0 → p.width ≤ 16 := fun h => by
  rw [Zn, Zn, Zn] at h
  exact (Y7.1 ((Hs (by decide)).1 h.2.2.1)).2
 have hfi := fun (h : p.width ≤ 16) (π : Id) => e_fitsD (π := π) p.init p.width h
 unfold Zr elmE stK1
 unfold mpN at hne
 generalize entN K = M at *
 generalize entN (putN K p.name) = M' at *
 generalize nmE K p.name = q at *
 by_cases h0 : Z9 [q, unlE (Z6 p.kind 0 1) 15, unlE (Z6 p.width 1 16) 2] = 0
 ·have hfi := hfi (hw h0)
  generalize fitsB p.init p.width = fb at *
  cases fb <;> simp [Zbj, Z1, Z1s, evRO, hidA, evRH, Xj, hne, hκ, hκ', hb, hb', Zag, W3, Z5t, Wj, h0, hfi]
 ·simp [Zbj, Z1, Z1s, evRO, hidA, evRH, Xj, hne, hκ, hκ', hb, hb', Zag, W3, Z5t, Wj, h0]
theorem elmE_z {K : List ByteArray} {p : Elm} (h : elmE K p = 0) : putN K p.name = K ++ [p.name] := by
 unfold elmE at h
 split at h
 ·contradiction
 ·rename_i h1
  rw [Classical.not_not, Zn] at h1
  exact nmE_z h1.1
theorem Zfp (l : List Elm) (hl : l.length ≤ top63) (hp : ∀ p ∈ l, okS p.name) :
  ∀ (suf pre : List Elm) (K : List ByteArray) (x : Env × Sto), (∀ x ∈ K, okS x) → l = pre ++ suf → mask [1, 9, 10, 11] [4 :: π, 13 :: π] x = some ([(1, .fn Mj [.ref (4 :: π) 0]), (9, .p (Xd l)), (10, .p (I l.length)), (11, .p (I pre.length))], stK1 π K) →
  kpO [] [4, 5] [4 :: π, 13 :: π] (bkO 0 (iter (round EE iter (7 :: 35 :: π) [4 :: π, 13 :: π] [1, 9, 10, 11] Vz) x)) = (if (eachK elmE (fun p => p.name) K pre.length suf).2 = 0 then some (.nm, [], stK1 π (endK elmE (fun p => p.name) K suf)) else some (.rt, [(4, .p (I (eachK elmE (fun p => p.name) K pre.length suf).1)), (5, .p (I (eachK elmE (fun p => p.name) K pre.length suf).2))], stK1 π (endK elmE (fun p => p.name) K suf)))
 | [], pre, K, x, hK, h, hm => by
  rw [Z0 hm]
  subst h
  simp [Vo, Yu, eachK, endK]
 | y :: suf, pre, K, x, hK, h, hm => by
  rw [Z0 hm]
  have hyn : okS y.name := hp y (by rw [h]; simp)
  have hy := e_cd4_1 (π := π) (κ := 19 :: 7 :: 35 :: π) far3 pre.length y hyn K hK
  have hg : l[pre.length]? = some y := by rw [h]; simp
  have hlt := Z7 h
  have hws := Zb (show pre.length < l.length by omega) hl
  unfold stK1 at hy ⊢
  by_cases hpy : elmE K y = 0
  ·have hz := elmE_z hpy
   have ih := fun x => Zfp l hl hp suf (pre ++ [y]) (K ++ [y.name]) x
   rw [hz] at hy
   simp only [eachK, endK, hpy, if_true]
   have hKK : ∀ x ∈ K ++ [y.name], okS x := by rw [← hz]; exact Zcl hK hyn
   unfold stK1 at ih
   generalize entN (K ++ [y.name]) = M' at *
   generalize entN K = M at *
   unfold Zr at hy
   simp [Vo, Yu, hlt, hg, hy, hpy, Zr]
   rw [show pre.length + 1 = (pre ++ [y]).length by simp]
   exact ih _ hKK (by simp [h]) (by simp [hws])
  ·simp only [eachK, endK, hpy, if_false]
   generalize entN (putN K y.name) = M' at *
   generalize entN K = M at *
   unfold Zr at hy
   simp [Vo, Yu, hlt, hg, hy, hpy, Zr]
def Qa (nodes : List Nod) (n : Int) : Bool := Z6 n 0 ((nodes.length : Int) - 1)
def Pw (nodes : List Nod) (n : Int) : Bool := Qa nodes n && decide (widOf nodes n = 1)
theorem Fx {nodes : List Nod} {n : Int} : Qa nodes n = true ↔ 0 ≤ n ∧ n < (nodes.length : Int) := by
 unfold Qa; rw [Y7]; omega
theorem Zdi (d : Des) (n : Int) (hl : d.nodes.length ≤ 1000) : EE π Kl [.p (Z5 d), .p (I n)] [] = some (.p (.bool (Qa d.nodes n)), []) := by
 have hw : IntKind.i64.wrap ((d.nodes.length : Int) - 1) = (d.nodes.length : Int) - 1 := w64 ⟨by omega, by omega⟩
 simp [e_ds_isNode, Z1, Z8c, Z5, hw, Wj, Qa]
theorem e_isCondD (d : Des) (n : Int) (hl : d.nodes.length ≤ 1000) : EE π Uk [.p (Z5 d), .p (I n)] [] = some (.p (.bool (Pw d.nodes n)), []) := by
 have hn := fun π => Zdi (π := π) d n hl
 unfold Pw
 by_cases h : Qa d.nodes n = true
 ·have hi := Fx.1 h
  have hlt : n.toNat < d.nodes.length := by omega
  have hg : d.nodes[n.toNat] = d.nodes.getD n.toNat nod0 := by simp [hlt]
  have hwd : widOf d.nodes n = (d.nodes.getD n.toNat nod0).width := rfl
  rw [hwd]
  generalize d.nodes.getD n.toNat nod0 = x at *
  have hln : n < (d.nodes.length : Int) := by omega
  unfold Z5 at hn
  simp [Z52, Z1, Np, Z5, hn, h, hlt, hg, hi.1, hln, Z4]
 ·have h : Qa d.nodes n = false := by simpa using h
  unfold Z5 at hn
  simp [Z52, Z1, Np, Z5, hn, h, Z4]
def elm0 : Elm := ⟨⟨#[]⟩, 0, 0, 0, 0⟩
def ewOf (l : List Elm) (n : Int) : Int := (l.getD n.toNat elm0).width
def wrtE (els : List Elm) (nodes : List Nod) (w : Wrt) : Int :=
 if Z9 [unlE (Z6 w.el 0 ((els.length : Int) - 1)) 6, unlE (Pw nodes w.whn && Qa nodes w.val) 9] ≠ 0 then Z9 [unlE (Z6 w.el 0 ((els.length : Int) - 1)) 6, unlE (Pw nodes w.whn && Qa nodes w.val) 9]
 else unlE (decide (widOf nodes w.val = ewOf els w.el)) 25
theorem wrtE_1 {els : List Elm} {nodes : List Nod} {w : Wrt} (h : Z9 [unlE (Z6 w.el 0 ((els.length : Int) - 1)) 6, unlE (Pw nodes w.whn && Qa nodes w.val) 9] = 0) : (0 ≤ w.el ∧ w.el < (els.length : Int)) ∧ Pw nodes w.whn = true ∧ 0 ≤ w.val ∧ w.val < (nodes.length : Int) := by
 rw [Zn, Zn, Hs (by decide), Hs (by decide), Y7] at h
 have h2 := h.2.1
 rw [Bool.and_eq_true, Fx] at h2
 exact ⟨by omega, h2.1, h2.2⟩
theorem e_writeErrD (d : Des) (w : Wrt) (hl : d.nodes.length ≤ 1000) (hel : d.elements.length ≤ 1000) :
  EE π Fb [.p (Z5 d), .p (Ww w)] [] = some (.p (I (wrtE d.elements d.nodes w)), []) := by
 have hn := fun π => Zdi (π := π) d w.val hl
 have hc := fun π => e_isCondD (π := π) d w.whn hl
 have hw : IntKind.i64.wrap ((d.elements.length : Int) - 1) = (d.elements.length : Int) - 1 := w64 ⟨by omega, by omega⟩
 have hwi := fun π => Wj (π := π) w.el 0 ((d.elements.length : Int) - 1)
 unfold wrtE
 by_cases h : Z9 [unlE (Z6 w.el 0 ((d.elements.length : Int) - 1)) 6, unlE (Pw d.nodes w.whn && Qa d.nodes w.val) 9] = 0
 ·obtain ⟨h1, h2, h3⟩ := wrtE_1 h
  have hlt : w.val.toNat < d.nodes.length := by omega
  have hg : d.nodes[w.val.toNat] = d.nodes.getD w.val.toNat nod0 := by simp [hlt]
  have hln : w.val < (d.nodes.length : Int) := by omega
  have hlt' : w.el.toNat < d.elements.length := by omega
  have hg' : d.elements[w.el.toNat] = d.elements.getD w.el.toNat elm0 := by simp [hlt']
  have hln' : w.el < (d.elements.length : Int) := by omega
  have hn' : Qa d.nodes w.val = true := Fx.2 h3
  have hwd : widOf d.nodes w.val = (d.nodes.getD w.val.toNat nod0).width := rfl
  have hwd' : ewOf d.elements w.el = (d.elements.getD w.el.toNat elm0).width := rfl
  have hwe : Z6 w.el 0 ((d.elements.length : Int) - 1) = true := by rw [Y7]; omega
  rw [hwd, hwd']
  generalize d.nodes.getD w.val.toNat nod0 = x at *
  generalize d.elements.getD w.el.toNat elm0 = y at *
  unfold Z5 at hn hc
  simp [Z44, Z1, Lr, Z5, Ww, hn, hc, hw, hwi, hwe, h2, hn', W3, Ga, hlt, hg, hln, hlt', hg', hln', h1.1, h3.1, Z4, evRO, Zr, unlE, Z9]
 ·unfold Z5 at hn hc
  generalize Pw d.nodes w.whn = b1 at *
  generalize Qa d.nodes w.val = b2 at *
  generalize Z6 w.el 0 ((d.elements.length : Int) - 1) = b3 at *
  cases b1
  ·simp at h
   simp [Z44, Z1, Lr, Z5, Ww, hn, hc, hw, hwi, W3, Ga, Z4, evRO, h]
  ·simp at h
   simp [Z44, Z1, Lr, Z5, Ww, hn, hc, hw, hwi, W3, Ga, Z4, evRO, h]
theorem Zfj (l : List Wrt) (hl : l.length ≤ top63) {f : Nat} {caps : List PV} {err : Nat → Wrt → Int} (hp : ∀ (i : Nat) x, l[i]? = some x → EE (19 :: π) f (.p (I i) :: .p (Ww x) :: caps.map fun v => AV.p v.fg) [] = some (.p (I (err i x)), [])) :
  ∀ (suf pre : List Wrt) (x : Env × Sto), l = pre ++ suf → mask [1, 9, 10, 11] [] x = some ([(1, .p (.fn f caps)), (9, .p (Z21 l)), (10, .p (I l.length)), (11, .p (I pre.length))], []) →
  kpO [] [4, 5] [] (bkO 0 (iter (round EE iter π [] [1, 9, 10, 11] Q2) x)) = (if (eachE err pre.length suf).2 = 0 then some (.nm, [], []) else some (.rt, [(4, .p (I (eachE err pre.length suf).1)), (5, .p (I (eachE err pre.length suf).2))], []))
 | [], pre, x, h, hm => by
  rw [Z0 hm]
  subst h
  simp [Ux, X8, eachE]
 | y :: suf, pre, x, h, hm => by
  rw [Z0 hm]
  have hy := hp pre.length y (by rw [h]; simp)
  have hg : l[pre.length]? = some y := by rw [h]; simp
  have ih := fun x => Zfj l hl hp suf (pre ++ [y]) x
  have hlt := Z7 h
  have hws := Zb (show pre.length < l.length by omega) hl
  unfold Ww at hy
  by_cases hpy : err pre.length y = 0
  ·simp [Ux, X8, hlt, hg, hy, hpy, eachE, Ww]
   rw [show pre.length + 1 = (pre ++ [y]).length by simp]
   exact ih _ (by simp [h]) (by simp [hws])
  ·simp [Ux, X8, hlt, hg, hy, hpy, eachE, Ww]
theorem e_eachW (l : List Wrt) (hl : l.length ≤ top63) {f : Nat} {caps : List PV} {err : Nat → Wrt → Int} (hp : ∀ (i : Nat) x, l[i]? = some x → EE (19 :: π) f (.p (I i) :: .p (Ww x) :: caps.map fun v => AV.p v.fg) [] = some (.p (I (err i x)), [])) :
  EE π Ub [.p (Z21 l), .p (.fn f caps)] [] = some (.p (.tup [I (eachE err 0 l).1, I (eachE err 0 l).2]), []) := by
 simp [Z7u, Z1, M7]
 rw [Zfj l hl hp l [] _ rfl (by simp)]
 by_cases hf : (eachE err 0 l).2 = 0
 ·have h1 : (eachE err 0 l).1 = 0 := Z5n err 0 l hf
  simp [hf, h1]
 ·simp [hf]
abbrev Yd (d : Des) : List PV := [.str d.name, X7 d.inputs, Xd d.elements, Z8 d.nodes, Uz d.rules, Vh d.outputs, Q0 d.attrs]
theorem e_cd7_1_1 (i : Int) (w : Wrt) (d : Des) (hl : d.nodes.length ≤ 1000) (hel : d.elements.length ≤ 1000) :
  EE π N6 [.p (I i), .p (Ww w), .p (.ptr (Yd d))] [] = some (.p (I (wrtE d.elements d.nodes w)), []) := by
 have hw := fun π => e_writeErrD (π := π) d w hl hel
 unfold Z5 Ww at hw
 simp [Zem, Z1, Z2i, Ww, hw, Z4, evRO]
def rulE (els : List Elm) (nodes : List Nod) (K : List ByteArray) (r : Rul) : Int :=
 Z9 [Z9 [nmE K r.name, unlE (Pw nodes r.guard) 9, unlE (decide ((r.writes.length : Int) ≤ 16)) 8], (eachE (fun _ w => wrtE els nodes w) 0 r.writes).2]
abbrev stK3 (π : Id) (a b : Nat) (d : Des) (K : List ByteArray) : Sto := [(a :: π, .box false [.mp (b :: π)]), (b :: π, .mpb (entN K)), (1 :: π, .box false ((Yd d).map .p))]
theorem e_cd7_1 {κ : Id} (hκ : κ ≠ π) (i : Int) (r : Rul) (hp : okS r.name) (d : Des) (hl : d.nodes.length ≤ 1000) (hel : d.elements.length ≤ 1000) (hwl : r.writes.length ≤ 1000) (K : List ByteArray) (hK : ∀ x ∈ K, okS x) :
  EE κ Mi [.p (I i), .p (Wx r), .ref (6 :: π) 0, .ref (1 :: π) 0] (stK3 π 6 15 d K) = some (.p (I (rulE d.elements d.nodes K r)), [(15 :: π, .mpb (entN (putN K r.name))), (6 :: π, .box false [.mp (15 :: π)]), (1 :: π, .box false ((Yd d).map .p))]) := by
 have hne := fun (id : Id) (ρ : Id) => Z6r (π := ρ) id K r.name hK hp
 have hκ' : ¬ π = κ := fun h => hκ h.symm
 have hb : (κ == π) = false := beq_eq_false_iff_ne.2 hκ
 have hb' : (π == κ) = false := beq_eq_false_iff_ne.2 hκ'
 have hc := fun π => e_isCondD (π := π) d r.guard hl
 have hea := fun π => e_eachW (π := π) r.writes (by simp only [top63]; omega) (f := N6) (caps := [.ptr (Yd d)]) (err := fun _ w => wrtE d.elements d.nodes w) (fun i x _ => by simpa using e_cd7_1_1 _ x d hl hel)
 unfold Wx rulE stK3
 unfold mpN at hne
 unfold Z5 at hc
 generalize entN K = M at *
 generalize entN (putN K r.name) = M' at *
 generalize nmE K r.name = q at *
 generalize eachE (fun _ w => wrtE d.elements d.nodes w) 0 r.writes = R at *
 simp [e_ds_CkD_7_1, Z1, Z6c, evRO, hidA, evRH, Xj, hne, hκ, hκ', hb, hb', hc, hea, W3, Z5t, Ga, Z4]
theorem rulE_z {els : List Elm} {nodes : List Nod} {K : List ByteArray} {p : Rul} (h : rulE els nodes K p = 0) : putN K p.name = K ++ [p.name] := by
 unfold rulE at h
 rw [Zn, Zn] at h
 exact nmE_z h.1.1
def outE (nodes : List Nod) (K : List ByteArray) (o : Otp) : Int := Z9 [nmE K o.name, unlE (Qa nodes o.node) 9]
theorem outE_z {nodes : List Nod} {K : List ByteArray} {p : Otp} (h : outE nodes K p = 0) : putN K p.name = K ++ [p.name] := by
 unfold outE at h
 rw [Zn] at h
 exact nmE_z h.1
theorem e_cd9_1 {κ : Id} (hκ : κ ≠ π) (i : Int) (o : Otp) (hp : okS o.name) (d : Des) (hl : d.nodes.length ≤ 1000) (K : List ByteArray) (hK : ∀ x ∈ K, okS x) :
  EE κ Mh [.p (I i), .p (Un o), .ref (7 :: π) 0, .ref (1 :: π) 0] (stK3 π 7 16 d K) = some (.p (I (outE d.nodes K o)), [(16 :: π, .mpb (entN (putN K o.name))), (7 :: π, .box false [.mp (16 :: π)]), (1 :: π, .box false ((Yd d).map .p))]) := by
 have hne := fun (id : Id) (ρ : Id) => Z6r (π := ρ) id K o.name hK hp
 have hκ' : ¬ π = κ := fun h => hκ h.symm
 have hb : (κ == π) = false := beq_eq_false_iff_ne.2 hκ
 have hb' : (π == κ) = false := beq_eq_false_iff_ne.2 hκ'
 have hc := fun π => Zdi (π := π) d o.node hl
 unfold Un outE stK3
 unfold mpN at hne
 unfold Z5 at hc
 generalize entN K = M at *
 generalize entN (putN K o.name) = M' at *
 generalize nmE K o.name = q at *
 simp [e_ds_CkD_9_1, Z1, Z6b, evRO, hidA, evRH, Xj, hne, hκ, hκ', hb, hb', hc, W3, Ga, Z4]
theorem Zfk (d : Des) (hnl : d.nodes.length ≤ 1000) (hel : d.elements.length ≤ 1000) (l : List Rul) (hl : l.length ≤ top63) (hp : ∀ p ∈ l, okS p.name) (hwl : ∀ r ∈ l, r.writes.length ≤ 1000) :
  ∀ (suf pre : List Rul) (K : List ByteArray) (x : Env × Sto), (∀ x ∈ K, okS x) → l = pre ++ suf → mask [1, 9, 10, 11] [6 :: π, 15 :: π, 1 :: π] x = some ([(1, .fn Mi [.ref (6 :: π) 0, .ref (1 :: π) 0]), (9, .p (Uz l)), (10, .p (I l.length)), (11, .p (I pre.length))], stK3 π 6 15 d K) →
  kpO [] [4, 5] [6 :: π, 15 :: π, 1 :: π] (bkO 0 (iter (round EE iter (7 :: 35 :: π) [6 :: π, 15 :: π, 1 :: π] [1, 9, 10, 11] P7) x)) = (if (eachK (rulE d.elements d.nodes) (fun p => p.name) K pre.length suf).2 = 0 then some (.nm, [], stK3 π 6 15 d (endK (rulE d.elements d.nodes) (fun p => p.name) K suf)) else some (.rt, [(4, .p (I (eachK (rulE d.elements d.nodes) (fun p => p.name) K pre.length suf).1)), (5, .p (I (eachK (rulE d.elements d.nodes) (fun p => p.name) K pre.length suf).2))], stK3 π 6 15 d (endK (rulE d.elements d.nodes) (fun p => p.name) K suf)))
 | [], pre, K, x, hK, h, hm => by
  rw [Z0 hm]
  subst h
  simp [Qm, Xs, eachK, endK]
 | y :: suf, pre, K, x, hK, h, hm => by
  rw [Z0 hm]
  have hyn : okS y.name := hp y (by rw [h]; simp)
  have hy := e_cd7_1 (π := π) (κ := 19 :: 7 :: 35 :: π) far3 pre.length y hyn d hnl hel (hwl y (by rw [h]; simp)) K hK
  have hg : l[pre.length]? = some y := by rw [h]; simp
  have hlt := Z7 h
  have hws := Zb (show pre.length < l.length by omega) hl
  unfold stK3 at hy ⊢
  by_cases hpy : rulE d.elements d.nodes K y = 0
  ·have hz := rulE_z hpy
   have ih := fun x => Zfk d hnl hel l hl hp hwl suf (pre ++ [y]) (K ++ [y.name]) x
   rw [hz] at hy
   simp only [eachK, endK, hpy, if_true]
   have hKK : ∀ x ∈ K ++ [y.name], okS x := by rw [← hz]; exact Zcl hK hyn
   unfold stK3 at ih
   generalize entN (K ++ [y.name]) = M' at *
   generalize entN K = M at *
   unfold Wx at hy
   simp at hy
   simp [Qm, Xs, hlt, hg, hy, hpy, Wx]
   rw [show pre.length + 1 = (pre ++ [y]).length by simp]
   exact ih _ hKK (by simp [h]) (by simp [hws])
  ·simp only [eachK, endK, hpy, if_false]
   generalize entN (putN K y.name) = M' at *
   generalize entN K = M at *
   unfold Wx at hy
   simp at hy
   simp [Qm, Xs, hlt, hg, hy, hpy, Wx]
theorem Zfm (d : Des) (hnl : d.nodes.length ≤ 1000) (l : List Otp) (hl : l.length ≤ top63) (hp : ∀ p ∈ l, okS p.name) :
  ∀ (suf pre : List Otp) (K : List ByteArray) (x : Env × Sto), (∀ x ∈ K, okS x) → l = pre ++ suf → mask [1, 9, 10, 11] [7 :: π, 16 :: π, 1 :: π] x = some ([(1, .fn Mh [.ref (7 :: π) 0, .ref (1 :: π) 0]), (9, .p (Vh l)), (10, .p (I l.length)), (11, .p (I pre.length))], stK3 π 7 16 d K) →
  kpO [] [4, 5] [7 :: π, 16 :: π, 1 :: π] (bkO 0 (iter (round EE iter (7 :: 35 :: π) [7 :: π, 16 :: π, 1 :: π] [1, 9, 10, 11] Ud) x)) = (if (eachK (outE d.nodes) (fun p => p.name) K pre.length suf).2 = 0 then some (.nm, [], stK3 π 7 16 d (endK (outE d.nodes) (fun p => p.name) K suf)) else some (.rt, [(4, .p (I (eachK (outE d.nodes) (fun p => p.name) K pre.length suf).1)), (5, .p (I (eachK (outE d.nodes) (fun p => p.name) K pre.length suf).2))], stK3 π 7 16 d (endK (outE d.nodes) (fun p => p.name) K suf)))
 | [], pre, K, x, hK, h, hm => by
  rw [Z0 hm]
  subst h
  simp [U9, X4, eachK, endK]
 | y :: suf, pre, K, x, hK, h, hm => by
  rw [Z0 hm]
  have hyn : okS y.name := hp y (by rw [h]; simp)
  have hy := e_cd9_1 (π := π) (κ := 19 :: 7 :: 35 :: π) far3 pre.length y hyn d hnl  K hK
  have hg : l[pre.length]? = some y := by rw [h]; simp
  have hlt := Z7 h
  have hws := Zb (show pre.length < l.length by omega) hl
  unfold stK3 at hy ⊢
  by_cases hpy : outE d.nodes K y = 0
  ·have hz := outE_z hpy
   have ih := fun x => Zfm d hnl l hl hp  suf (pre ++ [y]) (K ++ [y.name]) x
   rw [hz] at hy
   simp only [eachK, endK, hpy, if_true]
   have hKK : ∀ x ∈ K ++ [y.name], okS x := by rw [← hz]; exact Zcl hK hyn
   unfold stK3 at ih
   generalize entN (K ++ [y.name]) = M' at *
   generalize entN K = M at *
   unfold Un at hy
   simp at hy
   simp [U9, X4, hlt, hg, hy, hpy, Un]
   rw [show pre.length + 1 = (pre ++ [y]).length by simp]
   exact ih _ hKK (by simp [h]) (by simp [hws])
  ·simp only [eachK, endK, hpy, if_false]
   generalize entN (putN K y.name) = M' at *
   generalize entN K = M at *
   unfold Un at hy
   simp at hy
   simp [U9, X4, hlt, hg, hy, hpy, Un]
@[simp] theorem fgL_take : ∀ (i : Nat) (l : List PV), PV.fg.PV.fgL (l.take i) = (PV.fg.PV.fgL l).take i
 | 0, l => by simp [PV.fg.PV.fgL]
 | i + 1, [] => by simp [PV.fg.PV.fgL]
 | i + 1, x :: r => by simp [PV.fg.PV.fgL, fgL_take i r]
def memB (l : List Int) (x : Int) : Bool := l.any fun y => decide (x = y)
theorem Wv {l : List Int} {x : Int} : memB l x = true ↔ x ∈ l := by simp [memB]
theorem idx_loopX (l : List Int) (hl : l.length ≤ top63) (v : Int) : ∀ (suf pre : List Int) (x : Env × Sto), l = pre ++ suf → mask [0, 1, 7, 8] [] x = some ([(0, .p (Z2 l)), (1, .p (I v)), (7, .p (I l.length)), (8, .p (I pre.length))], []) →
  kpO [] [4] [] (bkO 0 (iter (round EE iter π [] [0, 1, 7, 8] P3) x)) = (if idxOf (fun y => decide (v = y)) pre.length suf = -1 then some (.nm, [], []) else some (.rt, [(4, .p (I (idxOf (fun y => decide (v = y)) pre.length suf)))], []))
 | [], pre, x, h, hm => by
  rw [Z0 hm]
  subst h
  simp [Qj, Xp, idxOf]
 | y :: suf, pre, x, h, hm => by
  rw [Z0 hm]
  by_cases hpy : v = y
  ·have : ¬ ((pre.length : Int) = -1) := by omega
   simp [Qj, Xp, Z7 h, Zt _ h, hpy, idxOf, this]
  ·simp [Qj, Xp, Z7 h, Zt _ h, hpy, idxOf]
   rw [show pre.length + 1 = (pre ++ [y]).length by simp]
   exact idx_loopX l hl v suf (pre ++ [y]) _ (by simp [h]) (by simp [Zb (show pre.length < l.length by have := Z7 h; omega) hl])
theorem e_Index (l : List Int) (hl : l.length ≤ top63) (v : Int) : EE π Q4 [.p (Z2 l), .p (I v)] [] = some (.p (I (idxOf (fun y => decide (v = y)) 0 l)), []) := by
 simp [Z9n, Z1, Lf]
 rw [idx_loopX l hl v l [] _ rfl (by simp)]
 by_cases hz : idxOf (fun y => decide (v = y)) 0 l = -1 <;> simp [hz]
theorem Zal (l : List Int) (hl : l.length ≤ top63) (v : Int) : EE π Y9 [.p (Z2 l), .p (I v)] [] = some (.p (.bool (memB l v)), []) := by
 have := Zgu (fun y => decide (v = y)) 0 l
 unfold memB
 rw [← this]
 simp [Z5p, Z1, P4, e_Index l hl]
theorem Zdc (l : List Int) (hl : l.length ≤ top63) {f : Nat} {caps : List PV} {err : Nat → Int → Int} (hp : ∀ (i : Nat) x, l[i]? = some x → EE (19 :: π) f (.p (I i) :: .p (I x) :: caps.map fun v => AV.p v.fg) [] = some (.p (I (err i x)), [])) :
  ∀ (suf pre : List Int) (x : Env × Sto), l = pre ++ suf → mask [1, 9, 10, 11] [] x = some ([(1, .p (.fn f caps)), (9, .p (Z2 l)), (10, .p (I l.length)), (11, .p (I pre.length))], []) →
  kpO [] [4, 5] [] (bkO 0 (iter (round EE iter π [] [1, 9, 10, 11] Gw) x)) = (if (eachE err pre.length suf).2 = 0 then some (.nm, [], []) else some (.rt, [(4, .p (I (eachE err pre.length suf).1)), (5, .p (I (eachE err pre.length suf).2))], []))
 | [], pre, x, h, hm => by
  rw [Z0 hm]
  subst h
  simp [Gg, Ur, eachE]
 | y :: suf, pre, x, h, hm => by
  rw [Z0 hm]
  have hy := hp pre.length y (by rw [h]; simp)
  by_cases hpy : err pre.length y = 0
  ·simp [Gg, Ur, Z7 h, Zt _ h, hy, hpy, eachE]
   rw [show pre.length + 1 = (pre ++ [y]).length by simp]
   exact Zdc l hl hp suf (pre ++ [y]) _ (by simp [h]) (by simp [Zb (show pre.length < l.length by have := Z7 h; omega) hl])
  ·simp [Gg, Ur, Z7 h, Zt _ h, hy, hpy, eachE]
theorem e_eachDI (l : List Int) (hl : l.length ≤ top63) {f : Nat} {caps : List PV} {err : Nat → Int → Int} (hp : ∀ (i : Nat) x, l[i]? = some x → EE (19 :: π) f (.p (I i) :: .p (I x) :: caps.map fun v => AV.p v.fg) [] = some (.p (I (err i x)), [])) :
  EE π Fc [.p (Z2 l), .p (.fn f caps)] [] = some (.p (.tup [I (eachE err 0 l).1, I (eachE err 0 l).2]), []) := by
 simp [Zh9, Z1, Z4r]
 rw [Zdc l hl hp l [] _ rfl (by simp)]
 by_cases hf : (eachE err 0 l).2 = 0
 ·have h1 : (eachE err 0 l).1 = 0 := Z5n err 0 l hf
  simp [hf, h1]
 ·simp [hf]
def arE (nr : Nat) (l : List Int) (i : Nat) (n : Int) : Int := Z9 [unlE (Z6 n 0 ((nr : Int) - 1)) 6, unlE (!memB (l.take i) n) 23]
theorem e_cd11_1_1 (i : Nat) (n : Int) (d : Des) (a : Atb) (hr : d.rules.length ≤ 1000) (ha : a.rules.length ≤ 1000) (hi : i ≤ a.rules.length) :
  EE π Qx [.p (I i), .p (I n), .p (.ptr (Yd d)), .p (.ptr [I a.kind, Z2 a.rules])] [] = some (.p (I (arE d.rules.length a.rules i n)), []) := by
 have hw : IntKind.i64.wrap ((d.rules.length : Int) - 1) = (d.rules.length : Int) - 1 := w64 ⟨by omega, by omega⟩
 have hc := fun π => Zal (π := π) (a.rules.take i) (by rw [List.length_take]; simp only [top63]; omega) n
 have hi' : (i : Int) ≤ a.rules.length := by omega
 unfold arE
 generalize memB (a.rules.take i) n = b at *
 simp only [Z2, ints, List.map_take] at hc
 simp [Zdl, Z1, Z0w, hw, Wj, W3, Ga, Z4, evRO, hi, hc]
def atbE (nr : Nat) (a : Atb) : Int := Z9 [unlE (Z6 a.kind 0 3) 15, unlE (Z6 (a.rules.length : Int) 1 16) 10, (eachE (arE nr a.rules) 0 a.rules).2]
theorem e_cd11_1 (i : Int) (d : Des) (a : Atb) (hr : d.rules.length ≤ 1000) (ha : a.rules.length ≤ 1000) :
  EE π L0 [.p (I i), .p (Px a), .p (.ptr (Yd d))] [] = some (.p (I (atbE d.rules.length a)), []) := by
 have hea := fun π => e_eachDI (π := π) a.rules (by simp only [top63]; omega) (f := Qx) (caps := [.ptr (Yd d), .ptr [I a.kind, Z2 a.rules]]) (err := arE d.rules.length a.rules) (fun i x hx => by
  have hi : i < a.rules.length := (List.getElem?_eq_some_iff.1 hx).1
  simpa using e_cd11_1_1 i x d a hr ha (by omega))
 unfold atbE
 generalize eachE (arE d.rules.length a.rules) 0 a.rules = R at *
 simp [Zha, Z1, Z4s, Px, Wj, W3, Z5t, Z4, evRO, hea]
theorem Zfr (l : List Atb) (hl : l.length ≤ top63) {f : Nat} {caps : List PV} {err : Nat → Atb → Int} (hp : ∀ (i : Nat) x, l[i]? = some x → EE (19 :: π) f (.p (I i) :: .p (Px x) :: caps.map fun v => AV.p v.fg) [] = some (.p (I (err i x)), [])) :
  ∀ (suf pre : List Atb) (x : Env × Sto), l = pre ++ suf → mask [1, 9, 10, 11] [] x = some ([(1, .p (.fn f caps)), (9, .p (Q0 l)), (10, .p (I l.length)), (11, .p (I pre.length))], []) →
  kpO [] [4, 5] [] (bkO 0 (iter (round EE iter π [] [1, 9, 10, 11] V3) x)) = (if (eachE err pre.length suf).2 = 0 then some (.nm, [], []) else some (.rt, [(4, .p (I (eachE err pre.length suf).1)), (5, .p (I (eachE err pre.length suf).2))], []))
 | [], pre, x, h, hm => by
  rw [Z0 hm]
  subst h
  simp [Wz, Ye, eachE]
 | y :: suf, pre, x, h, hm => by
  rw [Z0 hm]
  have hy := hp pre.length y (by rw [h]; simp)
  have hg : l[pre.length]? = some y := by rw [h]; simp
  have ih := fun x => Zfr l hl hp suf (pre ++ [y]) x
  have hlt := Z7 h
  have hws := Zb (show pre.length < l.length by omega) hl
  unfold Px at hy
  by_cases hpy : err pre.length y = 0
  ·simp [Wz, Ye, hlt, hg, hy, hpy, eachE, Px]
   rw [show pre.length + 1 = (pre ++ [y]).length by simp]
   exact ih _ (by simp [h]) (by simp [hws])
  ·simp [Wz, Ye, hlt, hg, hy, hpy, eachE, Px]
theorem e_eachA (l : List Atb) (hl : l.length ≤ top63) {f : Nat} {caps : List PV} {err : Nat → Atb → Int} (hp : ∀ (i : Nat) x, l[i]? = some x → EE (19 :: π) f (.p (I i) :: .p (Px x) :: caps.map fun v => AV.p v.fg) [] = some (.p (I (err i x)), [])) :
  EE π W5 [.p (Q0 l), .p (.fn f caps)] [] = some (.p (.tup [I (eachE err 0 l).1, I (eachE err 0 l).2]), []) := by
 simp [Z45, Z1, Ue]
 rw [Zfr l hl hp l [] _ rfl (by simp)]
 by_cases hf : (eachE err 0 l).2 = 0
 ·have h1 : (eachE err 0 l).1 = 0 := Z5n err 0 l hf
  simp [hf, h1]
 ·simp [hf]
def dlv (d : Des) : List Int := d.inputs.map (fun p => p.width) ++ d.elements.map (fun p => p.width)
abbrev rowL (id : Id) (l : List Int) : Id × Blk := (id, .row false t_int 1 (flagE l) (ints l))
abbrev Zo (id : Id) (d : Des) : Id × Blk := (id, .box false ((Yd d).map .p))
theorem dlv_loop1 (d : Des) (hl : d.inputs.length ≤ 1000) : ∀ (suf pre : List Prt) (x : Env × Sto), d.inputs = pre ++ suf →
  mask [1, 3, 9, 10, 11] [] x = some ([(1, .ref (1 :: π) 0), (3, .ap (1003 :: π)), (9, .p (X7 d.inputs)), (10, .p (I d.inputs.length)), (11, .p (I pre.length))], [rowL (1003 :: π) (pre.map fun p => p.width), Zo (1 :: π) d]) →
  kpO [1, 3] [2] [] (bkO 0 (iter (round EE iter π [] [1, 3, 9, 10, 11] Z2g) x)) = some (.nm, [(1, .ref (1 :: π) 0), (3, .ap (1003 :: π))], [rowL (1003 :: π) (d.inputs.map fun p => p.width), Zo (1 :: π) d])
 | [], pre, x, h, hm => by
  rw [Z0 hm]
  have : pre = d.inputs := by simpa using h.symm
  subst this
  simp [Z7a, Hr]
 | y :: suf, pre, x, h, hm => by
  rw [Z0 hm]
  have hg : d.inputs[pre.length]? = some y := by rw [h]; simp
  have ih := fun x => dlv_loop1 d hl suf (pre ++ [y]) x
  have hlt := Z7 h
  have hws := Zb (show pre.length < d.inputs.length by omega) (show d.inputs.length ≤ top63 by simp only [top63]; omega)
  have hrm : pre.length + 1 ≤ room := by simp only [room]; omega
  simp [Z7a, Hr, hlt, hg, Wy, hrm]
  exact ih _ (by simp [h]) (by simp [hws, Zc])
theorem dlv_loop2 (d : Des) (hl : d.elements.length ≤ 1000) (hl' : d.inputs.length ≤ 1000) : ∀ (suf pre : List Elm) (x : Env × Sto), d.elements = pre ++ suf →
  mask [3, 22, 23, 24] [] x = some ([(3, .ap (1003 :: π)), (22, .p (Xd d.elements)), (23, .p (I d.elements.length)), (24, .p (I pre.length))], [rowL (1003 :: π) (d.inputs.map (fun p => p.width) ++ pre.map fun p => p.width)]) →
  kpO [3] [2] [] (bkO 2 (iter (round EE iter π [] [3, 22, 23, 24] Z2f) x)) = some (.nm, [(3, .ap (1003 :: π))], [rowL (1003 :: π) (dlv d)])
 | [], pre, x, h, hm => by
  rw [Z0 hm]
  have : pre = d.elements := by simpa using h.symm
  subst this
  simp [Z79, Hq, dlv]
 | y :: suf, pre, x, h, hm => by
  rw [Z0 hm]
  have hg : d.elements[pre.length]? = some y := by rw [h]; simp
  have ih := fun x => dlv_loop2 d hl hl' suf (pre ++ [y]) x
  have hlt := Z7 h
  have hws := Zb (show pre.length < d.elements.length by omega) (show d.elements.length ≤ top63 by simp only [top63]; omega)
  have hrm : d.inputs.length + pre.length + 1 ≤ room := by simp only [room]; omega
  have hfl : flagE (d.inputs.map (fun p => p.width) ++ (pre.map (fun p => p.width) ++ [y.width])) = some false := by rw [← List.append_assoc]; exact Zc _ _
  simp [Z79, Hq, hlt, hg, Zr, hrm]
  exact ih _ (by simp [h]) (by simp [hws, hfl])
theorem e_leavesD (d : Des) (hl' : d.inputs.length ≤ 1000) (hl : d.elements.length ≤ 1000) :
  EE π Z3w [.p (Z5 d)] [] = some (.ap (1003 :: π), [rowL (1003 :: π) (dlv d)]) := by
 have h1 := dlv_loop1 (π := π) d hl' d.inputs []
 have h2 := dlv_loop2 (π := π) d hl hl' d.elements []
 simp [e_ds_leaves, Z1, Z8b, Z5, thaw, thaw1]
 rw [h1 _ rfl (by simp [flagE])]
 simp [thaw, thaw1]
 rw [h2 _ rfl (by simp)]
 simp
structure DesOk (d : Des) : Prop where
 name : okS d.name
 inputs : d.inputs.length ≤ 1000
 elements : d.elements.length ≤ 1000
 nodes : d.nodes.length ≤ 1000
 rules : d.rules.length ≤ 1000
 outputs : d.outputs.length ≤ 1000
 attrs : d.attrs.length ≤ 1000
 inN : ∀ p ∈ d.inputs, okS p.name
 elN : ∀ p ∈ d.elements, okS p.name
 ruN : ∀ p ∈ d.rules, okS p.name
 ouN : ∀ p ∈ d.outputs, okS p.name
 args : ∀ x ∈ d.nodes, x.args.length ≤ 1000
 writes : ∀ r ∈ d.rules, r.writes.length ≤ 400
 atR : ∀ a ∈ d.attrs, a.rules.length ≤ 1000
theorem e_cd1 (d : Des) (hd : DesOk d) : EE (35 :: π) Z3b [.ref (1 :: π) 0] [Zo (1 :: π) d] = some (.p (.tup [I 0, I (Z9 [unlE (nameB d.name) 4, unlE (decide ((d.inputs.length : Int) ≤ 12)) 8])]), [Zo (1 :: π) d]) := by
 have hn := fun π => e_isNameD (π := π) d.name hd.name
 simp [e_ds_CkD_1, Z1, Zb4, hn, W3, Ga, evRO, Z4]
theorem e_cd3 (d : Des) (hd : DesOk d) : EE (35 :: π) Z39 [.ref (1 :: π) 0] [Zo (1 :: π) d] = some (.p (.tup [I 0, I (unlE (decide ((d.inputs.length : Int) + d.elements.length ≤ 40)) 8)]), [Zo (1 :: π) d]) := by
 have h1 := hd.inputs
 have h2 := hd.elements
 have hw : IntKind.i64.wrap ((d.inputs.length : Int) + d.elements.length) = (d.inputs.length : Int) + d.elements.length := w64 ⟨by omega, by omega⟩
 simp [e_ds_CkD_3, Z1, Zb2, W3, hw, evRO, Z4]
theorem e_cd6 (d : Des) : EE (35 :: π) Z36 [.ref (1 :: π) 0] [Zo (1 :: π) d] = some (.p (.tup [I 0, I (unlE (decide ((d.rules.length : Int) ≤ 16)) 8)]), [Zo (1 :: π) d]) := by
 simp [e_ds_CkD_6, Z1, Zaz, W3, evRO, Z4]
theorem e_cd8 (d : Des) : EE (35 :: π) Z34 [.ref (1 :: π) 0] [Zo (1 :: π) d] = some (.p (.tup [I 0, I (unlE (decide ((d.outputs.length : Int) ≤ 12)) 8)]), [Zo (1 :: π) d]) := by
 simp [e_ds_CkD_8, Z1, Zax, W3, evRO, Z4]
theorem e_cd10 (d : Des) : EE (35 :: π) Z08 [.ref (1 :: π) 0] [Zo (1 :: π) d] = some (.p (.tup [I 0, I (unlE (decide ((d.attrs.length : Int) ≤ 16)) 8)]), [Zo (1 :: π) d]) := by
 simp [e_ds_CkD_10, Z1, Z8g, W3, evRO, Z4]
theorem e_cd5 (d : Des) (hd : DesOk d) : EE (35 :: π) Z37 [.ref (1 :: π) 0] [Zo (1 :: π) d] = some (.p (.tup [I (Xw (dlv d) d.nodes).1, I (Xw (dlv d) d.nodes).2]), [Zo (1 :: π) d]) := by
 have hl := fun π => e_leavesD (π := π) d hd.inputs hd.elements
 have hc := fun π => Zbm (π := π) (dlv d) d.nodes hd.args
 unfold Z5 at hl
 generalize dlv d = L at *
 generalize Xw L d.nodes = R at *
 simp [e_ds_CkD_5, Z1, Zb0, evRO, Z4, hl, hc]
theorem e_cd11 (d : Des) (hd : DesOk d) : EE (35 :: π) Z07 [.ref (1 :: π) 0] [Zo (1 :: π) d] = some (.p (.tup [I (eachE (fun _ a => atbE d.rules.length a) 0 d.attrs).1, I (eachE (fun _ a => atbE d.rules.length a) 0 d.attrs).2]), [Zo (1 :: π) d]) := by
 have hea := fun π => e_eachA (π := π) d.attrs (by have := hd.attrs; simp only [top63]; omega) (f := L0) (caps := [.ptr (Yd d)]) (err := fun _ a => atbE d.rules.length a) (fun i x hx => by simpa using e_cd11_1 _ d x hd.rules (hd.atR x (List.mem_of_getElem? hx)))
 generalize eachE (fun _ a => atbE d.rules.length a) 0 d.attrs = R at *
 simp [e_ds_CkD_11, Z1, Z8f, evRO, Z4, hea]
theorem e_cd2 (d : Des) (hd : DesOk d) : EE (35 :: π) Z3a [.ref (1 :: π) 0, .ref (4 :: π) 0, .ref (5 :: π) 0] (stK2 π [] ++ [Zo (1 :: π) d]) = some (.p (.tup [I (eachK prtE (fun p => p.name) [] 0 d.inputs).1, I (eachK prtE (fun p => p.name) [] 0 d.inputs).2]), stK2 π (endK prtE (fun p => p.name) [] d.inputs) ++ [Zo (1 :: π) d]) := by
 have hlp := Zfl (π := π) d.inputs (by have := hd.inputs; simp only [top63]; omega) hd.inN d.inputs [] []
 have hz := Z5m prtE (fun p : Prt => p.name) [] 0 d.inputs
 have hea : EE (8 :: 35 :: π) Q8 [.p (X7 d.inputs), .fn Mk [.ref (4 :: π) 0, .ref (5 :: π) 0]] (stK2 π []) = some (.p (.tup [I (eachK prtE (fun p => p.name) [] 0 d.inputs).1, I (eachK prtE (fun p => p.name) [] 0 d.inputs).2]), stK2 π (endK prtE (fun p => p.name) [] d.inputs)) := by
  simp [Z9u, Z1, Lt]
  rw [hlp _ (by simp) rfl (by simp)]
  by_cases hf : (eachK prtE (fun p : Prt => p.name) [] 0 d.inputs).2 = 0
  ·simp [hf, hz hf]
  ·simp [hf]
 generalize eachK prtE (fun p => p.name) [] 0 d.inputs = R at *
 generalize entN (endK prtE (fun p => p.name) [] d.inputs) = M' at *
 simp [e_ds_CkD_2, Z1, Zb3, hea]
end Go.Proofs.YteecfnfjlclhdaaGreat.V
