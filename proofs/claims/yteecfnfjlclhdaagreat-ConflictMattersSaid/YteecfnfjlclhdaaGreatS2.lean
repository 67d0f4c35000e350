/- Depths, what is below some nodes, and their leaves: in plain terms. Errors of values and of nodes that are named. What is below some nodes, in the program: a round. What is below some nodes, in the program. What is below some nodes, by the reference. Nodes below some nodes: their places, in the prog -/
import Derived.Test.YteecfnfjlclhdaaGreatS1

set_option linter.unusedSimpArgs false
set_option linter.unusedVariables false

/- Depths, what is below some nodes, and their leaves: in plain terms. -/
namespace Go.Proofs.YteecfnfjlclhdaaGreat.V
def Zi7 (i : Nat) (o : List Int) (n : Int) : List Int := o.set i (if o.getD i 0 < o.getD n.toNat 0 + 1 then o.getD n.toNat 0 + 1 else o.getD i 0)
def depArgs (i : Nat) : List Int → List Int → List Int
 | [], o => o
 | n :: r, o => depArgs i r (Zi7 i o n)
structure DepI (k : Nat) (o : List Int) : Prop where
 len : o.length = k
 ok : ∀ j : Nat, j < k → 0 ≤ o.getD j 0 ∧ o.getD j 0 ≤ j
theorem Zhg {α : Type} (o : List α) (i j : Nat) (v d : α) (hi : i < o.length) : (o.set i v).getD j d = if i = j then v else o.getD j d := by
 simp only [List.getD, List.getElem?_set]
 by_cases h : i = j
 ·subst h; simp [hi]
 ·simp [h]
theorem DepI.step {k : Nat} {o : List Int} (h : DepI k o) {i : Nat} {n : Int} (hi : i < k) (hn : 0 ≤ n ∧ n < i) : DepI k (Zi7 i o n) := by
 have hl := h.len
 refine ⟨by unfold Zi7; simp [hl], fun j hj => ?_⟩
 unfold Zi7
 rw [Zhg _ _ _ _ _ (by omega)]
 have h1 := h.ok i hi
 have h2 := h.ok n.toNat (by omega)
 have h3 := h.ok j hj
 split
 ·subst j
  split <;> omega
 ·exact h3
theorem DepI.args {k : Nat} {i : Nat} (hi : i < k) : ∀ (l : List Int) {o : List Int}, DepI k o → (∀ n ∈ l, 0 ≤ n ∧ n < (i : Int)) → DepI k (depArgs i l o)
 | [], _, h, _ => h
 | n :: r, _, h, hn => DepI.args hi r (h.step hi (hn n (by simp))) fun m hm => hn m (by simp [hm])
theorem DepI.zero (k : Nat) : DepI k (List.replicate k 0) := ⟨by simp, fun j hj => by simp [List.getD, hj]⟩
def Yh : List Int → List Bool → List Bool
 | [], o => o
 | n :: r, o => Yh r (o.set n.toNat true)
theorem Yy : ∀ (l : List Int) (o : List Bool), (Yh l o).length = o.length
 | [], _ => rfl
 | n :: r, o => by rw [Yh, Yy r]; simp
theorem M5 : ∀ (l : List Int) (o : List Bool) (j : Nat), j < o.length → (Yh l o).getD j false = (o.getD j false || l.any fun n => n.toNat = j)
 | [], o, j, h => by simp [Yh]
 | n :: r, o, j, h => by
  rw [Yh, M5 r _ j (by simpa using h)]
  by_cases hn : n.toNat = j
  ·rw [Zhg _ _ _ _ _ (by omega)]; simp [hn]
  ·have : (o.set n.toNat true).getD j false = o.getD j false := by simp only [List.getD, List.getElem?_set]; simp [hn]
   rw [this]; simp [hn]
def Fa (nodes : List Nod) : Nat → List Bool → List Bool
 | 0, o => o
 | k + 1, o => Fa nodes k (match nodes[k]? with | some x => if o.getD k false then Yh x.args o else o | none => o)
theorem Zeq (nodes : List Nod) : ∀ (k : Nat) (o : List Bool), (Fa nodes k o).length = o.length
 | 0, _ => rfl
 | k + 1, o => by
  rw [Fa, Zeq nodes k]
  split
  ·split
   ·exact Yy _ _
   ·rfl
  ·rfl
def belN (nodes : List Nod) (from_ : List Int) : List Bool := Fa nodes nodes.length (Yh from_ (List.replicate nodes.length false))
theorem belN_len (nodes : List Nod) (from_ : List Int) : (belN nodes from_).length = nodes.length := by
 unfold belN; rw [Zeq, Yy]; simp
def trues : Nat → List Bool → List Int
 | _, [] => []
 | i, b :: r => if b then (i : Int) :: trues (i + 1) r else trues (i + 1) r
theorem Z8s : ∀ (l : List Bool) (i : Nat) (n : Int), n ∈ trues i l ↔ ∃ j, j < l.length ∧ n = ((i + j : Nat) : Int) ∧ l.getD j false = true
 | [], i, n => by simp [trues]
 | b :: r, i, n => by
  have ih := Z8s r (i + 1) n
  have h : n ∈ trues i (b :: r) ↔ (b = true ∧ n = (i : Int)) ∨ n ∈ trues (i + 1) r := by
   rw [trues]; split <;> simp [*]
  rw [h, ih]
  constructor
  ·rintro (⟨hb, hn⟩ | ⟨j, hj, hn, hv⟩)
   ·exact ⟨0, by simp, by simpa using hn, by simpa [List.getD] using hb⟩
   ·exact ⟨j + 1, by simpa using hj, by rw [hn]; omega, by simpa [List.getD] using hv⟩
  ·rintro ⟨j, hj, hn, hv⟩
   cases j with
   | zero => exact .inl ⟨by simpa [List.getD] using hv, by simpa using hn⟩
   | succ j => exact .inr ⟨j, by simpa using hj, by rw [hn]; omega, by simpa [List.getD] using hv⟩
theorem Zbf : ∀ (l : List Bool) (i : Nat), (trues i l).Pairwise (· < ·)
 | [], _ => by simp [trues]
 | b :: r, i => by
  have ih := Zbf r (i + 1)
  rw [trues]
  split
  ·refine List.pairwise_cons.2 ⟨fun n hn => ?_, ih⟩
   obtain ⟨j, _, hn, _⟩ := (Z8s r (i + 1) n).1 hn
   omega
  ·exact ih
def lvOf : List Bool → List Nod → List Int
 | b :: bs, x :: r => if b = true ∧ x.op = 1 then x.value :: lvOf bs r else lvOf bs r
 | _, _ => []
theorem Zh8 : ∀ (B : List Bool) (l : List Nod) (n : Int), n ∈ lvOf B l → ∃ x ∈ l, x.op = 1 ∧ x.value = n
 | b :: bs, x :: r, n, h => by
  rw [lvOf] at h
  split at h
  ·rename_i hb
   rcases List.mem_cons.1 h with h | h
   ·exact ⟨x, by simp, hb.2, h.symm⟩
   ·obtain ⟨y, hy, e⟩ := Zh8 bs r n h
    exact ⟨y, by simp [hy], e⟩
  ·obtain ⟨y, hy, e⟩ := Zh8 bs r n h
   exact ⟨y, by simp [hy], e⟩
 | [], _, n, h => by simp [lvOf] at h
 | _ :: _, [], n, h => by simp [lvOf] at h
theorem Z3g : ∀ (l : List Int) (n : Int), n ∈ cmpI l ↔ n ∈ l
 | [], n => by simp [cmpI]
 | [x], n => by simp [cmpI]
 | x :: y :: r, n => by
  have ih := Z3g (y :: r) n
  rw [cmpI]
  split
  ·rename_i h; rw [ih]; subst h; simp
  ·rw [List.mem_cons, ih, List.mem_cons (a := n) (b := x)]
theorem Z7f : ∀ (l : List Int), l.Pairwise (· ≤ ·) → (cmpI l).Pairwise (· < ·)
 | [], _ => by simp [cmpI]
 | [x], _ => by simp [cmpI]
 | x :: y :: r, h => by
  have h' := List.pairwise_cons.1 h
  have ih := Z7f (y :: r) h'.2
  rw [cmpI]
  split
  ·exact ih
  ·rename_i hne
   refine List.pairwise_cons.2 ⟨fun n hn => ?_, ih⟩
   have hn := (Z3g (y :: r) n).1 hn
   have h1 := h'.1 y (by simp)
   rcases List.mem_cons.1 hn with rfl | hr
   ·omega
   ·have := (List.pairwise_cons.1 h'.2).1 n hr
    omega
theorem Zcr : ∀ {a b : List Int}, a.Pairwise (· < ·) → b.Pairwise (· < ·) → (∀ n, n ∈ a ↔ n ∈ b) → a = b
 | [], [], _, _, _ => rfl
 | [], y :: b, _, _, h => by have := (h y).2 (by simp); simp at this
 | x :: a, [], _, _, h => by have := (h x).1 (by simp); simp at this
 | x :: a, y :: b, ha, hb, h => by
  have ha' := List.pairwise_cons.1 ha
  have hb' := List.pairwise_cons.1 hb
  have hxy : x = y := by
   have h1 := (h x).1 (by simp)
   have h2 := (h y).2 (by simp)
   rcases List.mem_cons.1 h1 with h1 | h1
   ·exact h1
   ·rcases List.mem_cons.1 h2 with h2 | h2
    ·exact h2.symm
    ·have := ha'.1 y h2
     have := hb'.1 x h1
     omega
  subst hxy
  rw [Zcr ha'.2 hb'.2 fun n => ?_]
  constructor
  ·intro hn
   have h1 := ha'.1 n hn
   rcases List.mem_cons.1 ((h n).1 (by simp [hn])) with h | h
   ·omega
   ·exact h
  ·intro hn
   have h1 := hb'.1 n hn
   rcases List.mem_cons.1 ((h n).2 (by simp [hn])) with h | h
   ·omega
   ·exact h
theorem cmp_sort_eq (l : List Int) (k : Nat) (hl : ∀ n ∈ l, 0 ≤ n ∧ n < k) : cmpI (sortI l) = trues 0 (Yh l (List.replicate k false)) := by
 refine Zcr (Z7f _ (Z11 l)) (Zbf _ _) fun n => ?_
 rw [Z3g, (Mi l).mem_iff, Z8s, Yy, List.length_replicate]
 constructor
 ·intro hn
  have := hl n hn
  refine ⟨n.toNat, by omega, by omega, ?_⟩
  rw [M5 _ _ _ (by simp; omega)]
  simp only [Bool.or_eq_true, List.any_eq_true, decide_eq_true_eq]
  exact .inr ⟨n, hn, rfl⟩
 ·rintro ⟨j, hj, hn, hv⟩
  rw [M5 _ _ _ (by simpa using hj)] at hv
  simp only [Bool.or_eq_true, List.any_eq_true, decide_eq_true_eq] at hv
  rcases hv with hv | ⟨m, hm, e⟩
  ·simp [List.getD, hj] at hv
  ·have := hl m hm
   have : n = m := by omega
   rw [this]; exact hm
open Go (IntKind BinOp UnOp)
variable {π : Id}
variable {π κ : Id}
abbrev bools (l : List Bool) : List PV := l.map PV.bool
abbrev rowB (i : Id) (nl : Option Bool) (L : List Bool) : Id × Blk := (i, .row false t_bool 1 nl (bools L))
theorem e_yldB {args : List AV} {s : Sto} : EE κ Z2 args s = runY EE iter args s := E_yld
theorem evC_rf {C : Call} {L : Loop} {k0 : List Id} {e : Env} {s : Sto} (g : Opd) (nt site : Nat) (live ps : List Nat) (a b : IR) : evC C L π k0 (.rf g nt site live ps a b) e s =
  if s.has ((2000000 + site) :: π) then none else match fnOf (g.get e) (.yld ((2000000 + site) :: π)) with
  | some (k, args) => if k = Z2 then none else match C ((3000000 + site) :: π) k args (((2000000 + site) :: π, .frm π nt (e.keep live) ps a b .ready) :: s) with
   | some (_, s1) => rfO k0 ((2000000 + site) :: π) ((Z6t s).foldl Env.kill e) s1
   | none => none
  | none => none := by
 rw [evC] <;> rfl
theorem Zfk (nodes : List Nod) (fr : List Int) (hfl : fr.length ≤ 1000) (hin : ∀ n ∈ fr, 0 ≤ n ∧ n < (nodes.length : Int)) :
  ∀ (suf pre : List Int) (o : List Bool) (y : Env × Sto), fr = pre ++ suf → o.length = nodes.length →
  mask [0, 1, 5, 6] [] y = some ([(0, .p (Za nodes)), (1, .p (Z1 fr)), (5, .ap (11 :: π)), (6, .p (I pre.length))], [rowB (11 :: π) (some false) o]) →
  kpO [0, 5] [4] [] (bkO 0 (iter (round EE iter π [] [0, 1, 5, 6] Z3y) y)) = some (.nm, [(0, .p (Za nodes)), (5, .ap (11 :: π))], [rowB (11 :: π) (some false) (Yh suf o)])
 | [], pre, o, y, h, ho, hm => by
  rw [Z3 hm]
  have : fr = pre := by simpa using h
  simp [Z8b, Fp, Yh, ← this]
 | z :: suf, pre, o, y, h, ho, hm => by
  rw [Z3 hm]
  have hlen : pre.length < fr.length := by rw [h]; simp
  have hz := hin z (by rw [h]; simp)
  have hws := Zf hlen (show fr.length ≤ top63 by simp only [top63]; omega)
  have hzl : z.toNat < o.length := by omega
  have hnext := Zfk nodes fr hfl hin suf (pre ++ [z]) (o.set z.toNat true)
  rw [show (pre ++ [z]).length = pre.length + 1 by simp] at hnext
  rw [Yh]
  generalize Yh suf (o.set z.toNat true) = R at *
  simp [Z8b, Fp, Zc h, Y3 _ h, hz.1, hzl]
  refine hnext _ (by simp [h]) (by simpa using ho) ?_
  simp [hws]
  rfl
theorem Zfm (nodes : List Nod) (i : Nat) (x : Nod) (hx : nodes[i]? = some x) (hal : x.args.length ≤ 1000) (hin : ∀ n ∈ x.args, 0 ≤ n ∧ n < (i : Int)) :
  ∀ (suf pre : List Int) (o : List Bool) (y : Env × Sto), x.args = pre ++ suf → o.length = nodes.length → o[i]? = some true →
  mask [0, 5, 7, 8] [] y = some ([(0, .p (Za nodes)), (5, .ap (11 :: π)), (7, .p (I i)), (8, .p (I pre.length))], [rowB (11 :: π) (some false) o]) →
  kpO [0, 5, 7] [4] [] (bkO 4 (iter (round EE iter π [] [0, 5, 7, 8] Fm) y)) = some (.nm, [(0, .p (Za nodes)), (5, .ap (11 :: π)), (7, .p (I i))], [rowB (11 :: π) (some false) (Yh suf o)])
 | [], pre, o, y, h, ho, hb, hm => by
  rw [Z3 hm]
  have : x.args = pre := by simpa using h
  have hi := (List.getElem?_eq_some_iff.1 hx).1
  have hx2 := (List.getElem?_eq_some_iff.1 hx).2
  have hio := (List.getElem?_eq_some_iff.1 hb).1
  have hbi := (List.getElem?_eq_some_iff.1 hb).2
  simp [Z36, Kl, Yh, hi, hx2, hio, hbi, ← this]
 | z :: suf, pre, o, y, h, ho, hb, hm => by
  rw [Z3 hm]
  have hi := (List.getElem?_eq_some_iff.1 hx).1
  have hx2 := (List.getElem?_eq_some_iff.1 hx).2
  have hio := (List.getElem?_eq_some_iff.1 hb).1
  have hbi := (List.getElem?_eq_some_iff.1 hb).2
  have hlen : pre.length < x.args.length := by rw [h]; simp
  have hz := hin z (by rw [h]; simp)
  have hws := Zf hlen (show x.args.length ≤ top63 by simp only [top63]; omega)
  have hzl : z.toNat < o.length := by omega
  have hnext := Zfm nodes i x hx hal hin suf (pre ++ [z]) (o.set z.toNat true)
  rw [show (pre ++ [z]).length = pre.length + 1 by simp] at hnext
  have hb' : (o.set z.toNat true)[i]? = some true := by rw [List.getElem?_set_ne (by omega)]; exact hb
  rw [Yh]
  generalize Yh suf (o.set z.toNat true) = R at *
  simp [Z36, Kl, Zc h, Y3 _ h, hi, hx2, hio, hbi, hz.1, hzl]
  refine hnext _ (by simp [h]) (by simpa using ho) hb' ?_
  simp [hws]
  rfl
theorem rbel_loop2f (nodes : List Nod) (i : Nat) (o : List Bool) (y : Env × Sto) (hb : o[i]? = some false)
  (hm : mask [0, 5, 7, 8] [] y = some ([(0, .p (Za nodes)), (5, .ap (11 :: π)), (7, .p (I i)), (8, .p (I 0))], [rowB (11 :: π) (some false) o])) :
  kpO [0, 5, 7] [4] [] (bkO 4 (iter (round EE iter π [] [0, 5, 7, 8] Fm) y)) = some (.nm, [(0, .p (Za nodes)), (5, .ap (11 :: π)), (7, .p (I i))], [rowB (11 :: π) (some false) o]) := by
 rw [Z3 hm]
 have hio := (List.getElem?_eq_some_iff.1 hb).1
 have hbi := (List.getElem?_eq_some_iff.1 hb).2
 simp [Z36, Kl, hio, hbi]
theorem Zfn (nodes : List Nod) (hnl : nodes.length ≤ 100000) (hal : ∀ x ∈ nodes, x.args.length ≤ 1000) (hin : ∀ (i : Nat) (x : Nod), nodes[i]? = some x → ∀ n ∈ x.args, 0 ≤ n ∧ n < (i : Int)) : ∀ (k : Nat) (o : List Bool) (y : Env × Sto), k ≤ nodes.length → o.length = nodes.length →
  mask [0, 5, 7] [] y = some ([(0, .p (Za nodes)), (5, .ap (11 :: π)), (7, .p (I ((k : Int) - 1)))], [rowB (11 :: π) (some false) o]) →
  kpO [5] [4] [] (bkO 2 (iter (round EE iter π [] [0, 5, 7] Z3x) y)) = some (.nm, [(5, .ap (11 :: π))], [rowB (11 :: π) (some false) (Fa nodes k o)])
 | 0, o, y, hk, ho, hm => by
  rw [Z3 hm]
  simp [Z37, Km, Fa]
 | k + 1, o, y, hk, ho, hm => by
  rw [Z3 hm]
  have hkl : k < nodes.length := by omega
  have hpk : nodes[k]? = some nodes[k] := List.getElem?_eq_getElem hkl
  generalize hp : nodes[k] = p at hpk
  have hmem : p ∈ nodes := List.mem_of_getElem? hpk
  have hko : k < o.length := by omega
  have hb : o[k]? = some (o.getD k false) := by simp [List.getD, hko]
  have hw : IntKind.i64.wrap ((k : Int) - 1) = (k : Int) - 1 := w64 ⟨by omega, by omega⟩
  have hnext := Zfn nodes hnl hal hin k (if o.getD k false = true then Yh p.args o else o)
  have hlen : (if o.getD k false = true then Yh p.args o else o).length = nodes.length := by
   split
   ·rw [Yy]; exact ho
   ·exact ho
  rw [Fa, hpk]
  simp only
  have e1 : ((k + 1 : Nat) : Int) - 1 = k := by omega
  rw [e1] at *
  generalize o.getD k false = b at *
  cases b with
  | true =>
   rw [if_pos rfl] at *
   have hl2 := Zfm (π := π) nodes k p hpk (hal p hmem) (hin k p hpk) p.args [] o
   generalize Yh p.args o = R at *
   simp [Z37, Km]
   rw [hl2 _ rfl ho hb (by simp)]
   simp
   refine hnext _ (by omega) hlen ?_
   simp [hw]
  | false =>
   rw [if_neg (by decide)] at *
   simp [Z37, Km]
   rw [rbel_loop2f (π := π) nodes k o _ hb (by simp)]
   simp
   refine hnext _ (by omega) hlen ?_
   simp [hw]
theorem e_BelowB (nodes : List Nod) (hnl : nodes.length ≤ 100000) (hal : ∀ x ∈ nodes, x.args.length ≤ 1000) (hin : ∀ (i : Nat) (x : Nod), nodes[i]? = some x → ∀ n ∈ x.args, 0 ≤ n ∧ n < (i : Int)) (fr : List Int) (hfl : fr.length ≤ 1000) (hfin : ∀ n ∈ fr, 0 ≤ n ∧ n < (nodes.length : Int)) :
  EE π Z64 [.p (Za nodes), .p (Z1 fr)] [] = some (.ap (11 :: π), [rowB (11 :: π) (some false) (belN nodes fr)]) := by
 have hml := Zfk (π := π) nodes fr hfl hfin fr [] (List.replicate nodes.length false)
 have hlen : (Yh fr (List.replicate nodes.length false)).length = nodes.length := by rw [Yy]; simp
 have hl1 := Zfn (π := π) nodes hnl hal hin nodes.length (Yh fr (List.replicate nodes.length false))
 have hro : nodes.length ≤ room := by simp only [room]; omega
 have hrl : (List.replicate nodes.length false).length = nodes.length := by simp
 have hrep : List.replicate nodes.length (PV.bool false) = bools (List.replicate nodes.length false) := by simp
 have hw : IntKind.i64.wrap ((nodes.length : Int) - 1) = nodes.length - 1 := w64 ⟨by omega, by omega⟩
 unfold belN
 generalize List.replicate nodes.length false = o at *
 generalize Yh fr o = o1 at *
 generalize Fa nodes nodes.length o1 = R at *
 simp [e_rb_Below, Z0, Za9, hro, hrep]
 rw [hml _ rfl hrl (by simp)]
 simp [hw]
 rw [hl1 _ (Nat.le_refl _) hlen (by simp)]
 simp
@[simp] theorem intsOf_ints : ∀ l : List Int, Z55 (ints l) = some l
 | [] => rfl
 | x :: r => by
  have := intsOf_ints r
  simp only [List.map_cons] at this ⊢
  rw [Z55, this]; rfl
def isLv (leaves : Nat) (nodes : List Nod) (fr : List Int) : List Bool := Yh (lvOf (belN nodes fr) nodes) (List.replicate leaves false)
def lvN (leaves : Nat) (nodes : List Nod) (fr : List Int) : List Int := trues 0 (isLv leaves nodes fr)
theorem leaf_in {leaves : List Int} {nodes : List Nod} (hc : (X8 leaves nodes).2 = 0) {i : Nat} {x : Nod} (hx : nodes[i]? = some x) (h1 : x.op = 1) : 0 ≤ x.value ∧ x.value < (leaves.length : Int) := by
 obtain ⟨ho, hw, hl, ha, hv, hf⟩ := G7 (L5 hc i x hx)
 unfold valE at hv
 rw [if_neg (by omega), if_pos h1] at hv
 split at hv
 ·rename_i hin
  have := Zb.1 hin
  omega
 ·exact absurd hv (by decide)
theorem lvOf_in {leaves : List Int} {nodes : List Nod} (hc : (X8 leaves nodes).2 = 0) (B : List Bool) : ∀ n ∈ lvOf B nodes, 0 ≤ n ∧ n < (leaves.length : Int) := fun n hn => by
 obtain ⟨x, hx, h1, rfl⟩ := Zh8 _ _ n hn
 obtain ⟨i, hi⟩ := List.getElem?_of_mem hx
 exact leaf_in hc hi h1
theorem lvN_eq {leaves : List Int} {nodes : List Nod} (hc : (X8 leaves nodes).2 = 0) (fr : List Int) : cmpI (sortI (lvOf (belN nodes fr) nodes)) = lvN leaves.length nodes fr := cmp_sort_eq _ _ (lvOf_in hc _)
theorem Zh0 (nodes : List Nod) (n : Nat) (B : List Bool) (hbl : B.length = nodes.length) (hnl : nodes.length ≤ 1000) (hin : ∀ x ∈ nodes, x.op = 1 → 0 ≤ x.value ∧ x.value < (n : Int)) :
  ∀ (suf pre : List Nod) (sb pb : List Bool) (o : List Bool) (y : Env × Sto), nodes = pre ++ suf → B = pb ++ sb → pb.length = pre.length → o.length = n →
  mask [0, 2, 7, 8, 9] [] y = some ([(0, .p (Za nodes)), (2, .p (I n)), (7, .ap (11 :: 14 :: π)), (8, .ap (16 :: π)), (9, .p (I pre.length))], [rowB (16 :: π) (some false) o, rowB (11 :: 14 :: π) (some false) B]) →
  kpO [2, 8] [6] [] (bkO 0 (iter (round EE iter π [] [0, 2, 7, 8, 9] M8) y)) = some (.nm, [(2, .p (I n)), (8, .ap (16 :: π))], [rowB (16 :: π) (some false) (Yh (lvOf sb suf) o)])
 | [], pre, sb, pb, o, y, h, hB, hpl, ho, hm => by
  rw [Z3 hm]
  have : nodes = pre := by simpa using h
  have hsb : lvOf sb [] = [] := by cases sb <;> rfl
  simp [Vp, Xj, hsb, Yh, ← this]
 | z :: suf, pre, [], pb, o, y, h, hB, hpl, ho, hm => by
  have h1 := congrArg List.length h
  have h2 := congrArg List.length hB
  simp at h1 h2
  omega
 | z :: suf, pre, b :: sb, pb, o, y, h, hB, hpl, ho, hm => by
  rw [Z3 hm]
  have hlen : pre.length < nodes.length := by rw [h]; simp
  have hlenB : pre.length < B.length := by omega
  have hz : B[pre.length] = b := by simp [hB, ← hpl]
  have hws := Zf hlen (show nodes.length ≤ top63 by simp only [top63]; omega)
  have hBn : B = (pb ++ [b]) ++ sb := by simp [hB]
  by_cases hc : b = true ∧ z.op = 1
  ·obtain ⟨hb, h1⟩ := hc
   subst hb
   have hv := hin z (by rw [h]; simp) h1
   have hvl : z.value.toNat < o.length := by omega
   have hnext := Zh0 nodes n B hbl hnl hin suf (pre ++ [z]) sb (pb ++ [true]) (o.set z.value.toNat true)
   rw [show (pre ++ [z]).length = pre.length + 1 by simp] at hnext
   rw [show lvOf (true :: sb) (z :: suf) = z.value :: lvOf sb suf by simp [lvOf, h1], Yh]
   generalize Yh (lvOf sb suf) (o.set z.value.toNat true) = RR at *
   simp [Vp, Xj, Zc h, Y3 _ h, hlenB, hz, h1, hv.1, hvl]
   refine hnext _ (by simp [h]) hBn (by simp [hpl]) (by simpa using ho) ?_
   simp [hws]
   rfl
  ·have hnext := Zh0 nodes n B hbl hnl hin suf (pre ++ [z]) sb (pb ++ [b]) o
   rw [show (pre ++ [z]).length = pre.length + 1 by simp] at hnext
   rw [show lvOf (b :: sb) (z :: suf) = lvOf sb suf by rw [lvOf, if_neg hc]]
   generalize Yh (lvOf sb suf) o = RR at *
   cases b with
   | true =>
    have h1 : ¬ z.op = 1 := fun h => hc ⟨rfl, h⟩
    simp [Vp, Xj, Zc h, Y3 _ h, hlenB, hz, h1]
    refine hnext _ (by simp [h]) hBn (by simp [hpl]) ho ?_
    simp [hws]
   | false =>
    simp [Vp, Xj, Zc h, Y3 _ h, hlenB, hz]
    refine hnext _ (by simp [h]) hBn (by simp [hpl]) ho ?_
    simp [hws]
theorem Zgz (B : List Bool) (hbl : B.length ≤ 1000) :
  ∀ (suf pre : List Bool) (R : List Int) (y : Env × Sto), B = pre ++ suf → R.length ≤ pre.length →
  mask [2, 8, 10, 11] [] y = some ([(2, .p (I B.length)), (8, .ap (16 :: π)), (10, .ap (1010 :: π)), (11, .p (I pre.length))], [rowI (1010 :: π) (flagE R) R, rowB (16 :: π) (some false) B]) →
  kpO [10] [6] [] (bkO 2 (iter (round EE iter π [] [2, 8, 10, 11] M7) y)) = some (.nm, [(10, .ap (1010 :: π))], [rowI (1010 :: π) (flagE (R ++ trues pre.length suf)) (R ++ trues pre.length suf)])
 | [], pre, R, y, h, hR, hm => by
  rw [Z3 hm]
  have : B = pre := by simpa using h
  simp [Nw, Wl, trues, ← this]
 | z :: suf, pre, R, y, h, hR, hm => by
  rw [Z3 hm]
  have hlen : pre.length < B.length := by rw [h]; simp
  have hz : B[pre.length] = z := by simp [h]
  have hws := Zf hlen (show B.length ≤ top63 by simp only [top63]; omega)
  have hroom : R.length + 1 ≤ room := by simp only [room]; omega
  cases z with
  | true =>
   have hnext := Zgz B hbl suf (pre ++ [true]) (R ++ [(pre.length : Int)])
   rw [show (pre ++ [true]).length = pre.length + 1 by simp, Yj] at hnext
   rw [show trues pre.length (true :: suf) = [(pre.length : Int)] ++ trues (pre.length + 1) suf by simp [trues], ← List.append_assoc]
   generalize R ++ [(pre.length : Int)] ++ trues (pre.length + 1) suf = RR at *
   simp [Nw, Wl, Zc h, hlen, hz, hroom]
   refine hnext _ (by simp [h]) (by simp; omega) ?_
   simp [hws]
  | false =>
   have hnext := Zgz B hbl suf (pre ++ [false]) R
   rw [show (pre ++ [false]).length = pre.length + 1 by simp] at hnext
   rw [show trues pre.length (false :: suf) = trues (pre.length + 1) suf by simp [trues]]
   generalize R ++ trues (pre.length + 1) suf = RR at *
   simp [Nw, Wl, Zc h, hlen, hz]
   refine hnext _ (by simp [h]) (by omega) ?_
   simp [hws]
theorem Zi2 (leaves : List Int) (nodes : List Nod) (hll : leaves.length ≤ 1000) (hnl : nodes.length ≤ 1000) (hal : ∀ x ∈ nodes, x.args.length ≤ 1000) (hc : (X8 leaves nodes).2 = 0) (fr : List Int) (hfl : fr.length ≤ 1000) (hfin : ∀ n ∈ fr, 0 ≤ n ∧ n < (nodes.length : Int)) :
  EE π No [.p (Za nodes), .p (Z1 fr), .p (I leaves.length)] [] = some (.ap (1010 :: π), [rowI (1010 :: π) (flagE (lvN leaves.length nodes fr)) (lvN leaves.length nodes fr)]) := by
 have hbe := fun π => e_BelowB (π := π) nodes (by omega) hal (fun i x hx => args_in hc hx) fr hfl hfin
 have hbl := belN_len nodes fr
 have hl0 := Zh0 (π := π) nodes leaves.length (belN nodes fr) hbl hnl (fun x hx h1 => by
  obtain ⟨i, hi⟩ := List.getElem?_of_mem hx
  exact leaf_in hc hi h1) nodes [] (belN nodes fr) [] (List.replicate leaves.length false)
 unfold lvN isLv
 have hml : (Yh (lvOf (belN nodes fr) nodes) (List.replicate leaves.length false)).length = leaves.length := by rw [Yy]; simp
 have hl1 := Zgz (π := π) (Yh (lvOf (belN nodes fr) nodes) (List.replicate leaves.length false)) (by omega) (Yh (lvOf (belN nodes fr) nodes) (List.replicate leaves.length false)) [] []
 have hro : leaves.length ≤ room := by simp only [room]; omega
 have hrl : (List.replicate leaves.length false).length = leaves.length := by simp
 have hrep : List.replicate leaves.length (PV.bool false) = bools (List.replicate leaves.length false) := by simp
 simp only [List.nil_append, List.length_nil] at hl0 hl1
 rw [hml] at hl1
 generalize List.replicate leaves.length false = o at *
 generalize belN nodes fr = B at *
 generalize lvOf B nodes = R at *
 generalize Yh R o = o1 at *
 generalize trues 0 o1 = R1 at *
 simp [Zbt, Z0, F1, hbe, hro, hrep]
 rw [hl0 _ trivial trivial trivial hrl (by simp)]
 simp [thaw, thaw1]
 rw [hl1 _ trivial (Nat.le_refl _) (by simp [flagE])]
 simp
structure Prt where
 name : ByteArray
 width : Int
structure Elm where
 name : ByteArray
 kind : Int
 width : Int
 init : Int
 clock : Int
structure Wrt where
 el : Int
 whn : Int
 val : Int
structure Rul where
 name : ByteArray
 guard : Int
 writes : List Wrt
structure Otp where
 name : ByteArray
 node : Int
structure Atb where
 kind : Int
 rules : List Int
structure Des where
 name : ByteArray
 inputs : List Prt
 elements : List Elm
 nodes : List Nod
 rules : List Rul
 outputs : List Otp
 attrs : List Atb
def Wt (p : Prt) : PV := .agg [.str p.name, I p.width]
def Zu (p : Elm) : PV := .agg [.str p.name, I p.kind, I p.width, I p.init, I p.clock]
def W9 (p : Wrt) : PV := .agg [I p.el, I p.whn, I p.val]
abbrev Z1s (l : List Wrt) : PV := .sl 3 none (l.map W9)
def Xx (p : Rul) : PV := .agg [.str p.name, I p.guard, Z1s p.writes]
def U9 (p : Otp) : PV := .agg [.str p.name, I p.node]
def Pp (p : Atb) : PV := .agg [I p.kind, Z1 p.rules]
abbrev Xn (l : List Prt) : PV := .sl 2 none (l.map Wt)
abbrev W0 (l : List Elm) : PV := .sl 5 none (l.map Zu)
abbrev Ls (l : List Rul) : PV := .sl 3 none (l.map Xx)
abbrev Us (l : List Otp) : PV := .sl 2 none (l.map U9)
abbrev Lt (l : List Atb) : PV := .sl 2 none (l.map Pp)
def Z5 (d : Des) : PV := .agg [.str d.name, Xn d.inputs, W0 d.elements, Za d.nodes, Ls d.rules, Us d.outputs, Lt d.attrs]
theorem Wj (a b c : Int) : EE π Yg [.p (I a), .p (I b), .p (I c)] [] = some (.p (.bool (Z8 a b c)), []) := by
 by_cases h : b ≤ a <;> simp [e_ds_within, Z0, Z7u, Z8, h]
theorem e_withinC (a b c : Int) : EE π Ha [.p (I a), .p (I b), .p (I c)] [] = some (.p (.bool (Z8 a b c)), []) := by
 by_cases h : b ≤ a <;> simp [e_cf_within, Z0, Z82, Z8, h]
theorem W5 (a : Bool) (c : Int) : EE π Zi [.p (.bool a), .p (I c)] [] = some (.p (I (unlE a c)), []) := by
 cases a <;> simp [e_ds_unless, Z0, Z7v, unlE]
theorem Ua (a : Bool) (c : Int) : EE π Xz [.p (.bool a), .p (I c)] [] = some (.p (I (unlE a c)), []) := by
 cases a <;> simp [e_cf_unless, Z0, Z83, unlE]
theorem Zdf (l : List Int) (hl : l.length ≤ top63) : ∀ (suf pre : List Int) (x : Env × Sto), l = pre ++ suf → mask [5, 6, 7] [] x = some ([(5, .p (Z1 l)), (6, .p (I l.length)), (7, .p (I pre.length))], []) →
  kpO [] [2] [] (bkO 0 (iter (round EE iter π [] [5, 6, 7] Z48) x)) = (if Z9 suf = 0 then some (.nm, [], []) else some (.rt, [(2, .p (I (Z9 suf)))], []))
 | [], pre, x, h, hm => by
  rw [Z3 hm]
  subst h
  simp [Z39, Kt, Z9]
 | y :: suf, pre, x, h, hm => by
  rw [Z3 hm]
  by_cases hy : y = 0
  ·simp [Z39, Kt, Zc h, Y3 _ h, hy, Z9]
   exact Zdf l hl suf (pre ++ [y]) _ (by simp [h]) (by simp [Zf (show pre.length < l.length by have := Zc h; omega) hl])
  ·simp [Z39, Kt, Zc h, Y3 _ h, hy, Z9]
theorem e_firstD (l : List Int) (hl : l.length ≤ top63) : EE π Xh [.p (Z1 l)] [] = some (.p (I (Z9 l)), []) := by
 simp [e_ds_first, Z0, Zam]
 rw [Zdf l hl l [] _ rfl (by simp)]
 by_cases hf : Z9 l = 0 <;> simp [hf]
theorem Gh (a b : Int) : EE π Xh [.p (.sl 1 none [I a, I b])] [] = some (.p (I (Z9 [a, b])), []) := e_firstD [a, b] (by simp [top63])
theorem Z5c (a b c : Int) : EE π Xh [.p (.sl 1 none [I a, I b, I c])] [] = some (.p (I (Z9 [a, b, c])), []) := e_firstD [a, b, c] (by simp [top63])
theorem Za2 (n : Int) : EE π Gf [.p (I n)] [] = some (.p (.bool (Z8 n 1 16)), []) := by
 simp [e_ds_isWidth, Z0, Z5s, Wj]
def letB (c : Int) : Bool := Z8 c 97 122 || Z8 c 65 90
def chB (s : ByteArray) (i : Nat) : Bool := letB ((s[i]?.getD 0).toNat : Int) || (decide (i ≠ 0) && (decide (((s[i]?.getD 0).toNat : Int) = 95) || Z8 ((s[i]?.getD 0).toNat : Int) 48 57))
def Kw (s : ByteArray) : Nat → Nat → Bool
 | 0, _ => true
 | d + 1, i => chB s i && Kw s d (i + 1)
def nameB (s : ByteArray) : Bool := Kw s s.size 0 && Z8 s.size 1 16
theorem Zfs (s : ByteArray) (hs : s.size ≤ top63) : ∀ (d i : Nat) (x : Env × Sto), i + d = s.size → mask [0, 7, 8] [] x = some ([(0, .p (.str s)), (7, .p (I s.size)), (8, .p (I i))], []) →
  kpO [0] [2] [] (bkO 0 (iter (round EE iter π [] [0, 7, 8] Z28) x)) = (if Kw s d i = true then some (.nm, [(0, .p (.str s))], []) else some (.rt, [(2, .p (.bool false))], []))
 | 0, i, x, h, hm => by
  rw [Z3 hm]
  have : ¬ (i : Int) < s.size := by omega
  simp [V8, Xm, this, Kw]
 | d + 1, i, x, h, hm => by
  rw [Z3 hm]
  have hi : i < s.size := by omega
  have hi' : (i : Int) < s.size := by omega
  have hws := Zf hi hs
  have hg : s[i]? = some s[i] := by simp [hi]
  generalize s[i] = b at hg
  have hb : (b.toNat : Int) < 256 := by have := b.toNat_lt; omega
  have hw : IntKind.i64.wrap (b.toNat : Int) = b.toNat := w64 ⟨by omega, by omega⟩
  have hok : Kw s (d + 1) i = ((letB b.toNat || (decide (i ≠ 0) && (decide ((b.toNat : Int) = 95) || Z8 b.toNat 48 57))) && Kw s d (i + 1)) := by
   simp only [Kw, chB, hg, Option.getD_some]
  have ih := fun y => Zfs s hs d (i + 1) y (by omega)
  rw [hok]
  generalize Kw s d (i + 1) = R at *
  unfold letB
  by_cases h1 : Z8 b.toNat 97 122 = true
  ·simp [V8, Xm, hi', hg, hw, Wj, h1]
   exact ih _ (by simp [hws])
  ·have h1' : Z8 b.toNat 97 122 = false := by simpa using h1
   by_cases h2 : Z8 b.toNat 65 90 = true
   ·simp [V8, Xm, hi', hg, hw, Wj, h1', h2]
    exact ih _ (by simp [hws])
   ·have h2' : Z8 b.toNat 65 90 = false := by simpa using h2
    by_cases h3 : i = 0
    ·subst h3
     have hgb : s[0] = b := by simpa [hi] using hg
     simp [hi, hgb, V8, Xm, hw, Wj, h1', h2']
    ·by_cases h4 : (b.toNat : Int) = 95
     ·rw [h4] at h1' h2' hw
      simp [V8, Xm, hi', hg, hw, Wj, h1', h2', h3, h4]
      exact ih _ (by simp [hws])
     ·by_cases h5 : Z8 b.toNat 48 57 = true
      ·simp [V8, Xm, hi', hg, hw, Wj, h1', h2', h3, h4, h5]
       exact ih _ (by simp [hws])
      ·have h5' : Z8 b.toNat 48 57 = false := by simpa using h5
       simp [V8, Xm, hi', hg, hw, Wj, h1', h2', h3, h4, h5']
theorem e_isNameD (s : ByteArray) (hs : s.size ≤ top63) : EE π Fx [.p (.str s)] [] = some (.p (.bool (nameB s)), []) := by
 unfold nameB
 simp [e_ds_isName, Z0, Z7y]
 rw [Zfs s hs s.size 0 _ (by omega) (by simp)]
 by_cases hf : Kw s s.size 0 = true
 ·simp [hf, Wj]
 ·have : Kw s s.size 0 = false := by simpa using hf
  simp [this]
def entN (K : List ByteArray) : List (PV × PV) := K.map fun s => (.str s, .bool true)
abbrev mpN (id : Id) (K : List ByteArray) : Id × Blk := (id, .mpb (entN K))
def hasN (s : ByteArray) (K : List ByteArray) : Bool := K.any fun a => decide (a = s)
theorem hasN_iff {s : ByteArray} {K : List ByteArray} : hasN s K = true ↔ s ∈ K := by
 simp [hasN]
def putN (K : List ByteArray) (s : ByteArray) : List ByteArray := if hasN s K = true then K else K ++ [s]
def okS (s : ByteArray) : Prop := s.size ≤ top63
theorem okS_max {s : ByteArray} (h : okS s) : s.size ≤ Go.maxLen := by simpa [okS, Go.maxLen] using h
def posN (s : ByteArray) : List ByteArray → Nat
 | [] => 0
 | a :: r => if a = s then 0 else posN s r + 1
theorem Zcw {K : List ByteArray} {s : ByteArray} (hK : ∀ x ∈ K, okS x) (hs : okS s) : ∀ x ∈ putN K s, okS x := by
 intro x hx
 unfold putN at hx
 split at hx
 ·exact hK x hx
 ·rcases List.mem_append.1 hx with h | h
  ·exact hK x h
  ·simp at h; subst h; exact hs
theorem like_str {s : ByteArray} (h : okS s) (z : ByteArray) : likeV (.string z) (.string s) = true := by
 simp [likeV, Z1a, Gj, Y1, okS_max h]
theorem Zha {s : ByteArray} (h : okS s) : keyV (.str s) = some (.string s) := by simp [keyV, cellOf, okS_max h]
theorem keysLikeN : ∀ {K : List ByteArray}, (∀ s ∈ K, okS s) → Z18 (.string ⟨#[]⟩) (entN K) = true
 | [], _ => rfl
 | a :: r, h => by
  have h1 := keysLikeN (K := r) fun z hz => h z (by simp [hz])
  have h2 := like_str (h a (by simp)) ⟨#[]⟩
  have h3 := Zha (h a (by simp))
  unfold Z18 at h1 ⊢
  simp only [entN, List.map_cons, List.all_cons, Bool.and_eq_true]
  refine ⟨?_, h1⟩
  rw [h3]
  exact h2
theorem lookN (s : ByteArray) : ∀ (i : Nat) {K : List ByteArray}, (∀ x ∈ K, okS x) → lookE (.string s) i (entN K) = some (if hasN s K = true then some (i + posN s K, .bool true) else none)
 | i, [], _ => by simp [lookE, entN, hasN]
 | i, a :: r, hK => by
  have ih := lookN s (i + 1) (K := r) fun z hz => hK z (by simp [hz])
  have h3 := Zha (hK a (by simp))
  unfold entN at ih ⊢
  simp only [List.map_cons, lookE, h3]
  by_cases h : a = s
  ·subst h
   simp [sameV, Gj, sameB, posN, hasN]
  ·have hn : sameV (.string a) (.string s) = false := by simp [sameV, Gj, sameB, h]
   rw [hn]
   simp only [Bool.false_eq_true, if_false]
   rw [ih]
   have hh : hasN s (a :: r) = hasN s r := by simp [hasN, h]
   rw [hh]
   by_cases hm : hasN s r = true
   ·simp [hm, posN, h]; omega
   ·simp [hm]
theorem set_posN (s : ByteArray) : ∀ {K : List ByteArray}, s ∈ K → (entN K).set (posN s K) (.str s, .bool true) = entN K
 | [], h => by simp at h
 | a :: r, h => by
  unfold entN posN
  by_cases ha : a = s
  ·subst ha; simp
  ·have hm : s ∈ r := by
    rcases List.mem_cons.1 h with h | h
    ·exact absurd h.symm ha
    ·exact h
   have ih := set_posN s hm
   unfold entN at ih
   simp [ha, ih]
theorem put_entN (s : ByteArray) (K : List ByteArray) : putE (.str s) (.bool true) (entN K) (if hasN s K = true then some (0 + posN s K, .bool true) else none) = entN (putN K s) := by
 unfold putN
 by_cases h : hasN s K = true
 ·simp only [h, if_true, putE, Nat.zero_add]; exact set_posN s (hasN_iff.1 h)
 ·simp [h, putE, entN]
def nmE (K : List ByteArray) (s : ByteArray) : Int := Z9 [unlE (nameB s) 4, unlE (!hasN s K) 5]
theorem Z6a (id : Id) (K : List ByteArray) (s : ByteArray) (hK : ∀ x ∈ K, okS x) (hs : okS s) :
  EE π Xk [.mp id, .p (.str s)] [mpN id K] = some (.p (I (nmE K s)), [mpN id (putN K s)]) := by
 have h1 := Zha hs
 have h2 := like_str hs ⟨#[]⟩
 have h3 := keysLikeN hK
 have h4 := lookN s 0 hK
 have h5 := put_entN s K
 have h6 : keyV (.str ⟨#[]⟩) = some (.string ⟨#[]⟩) := rfl
 have hn := fun π => e_isNameD (π := π) s hs
 unfold nmE
 show EE π Xk [.mp id, .p (.str s)] [(id, .mpb (entN K))] = some (_, [(id, .mpb (entN (putN K s)))])
 generalize entN K = M at *
 generalize entN (putN K s) = M' at *
 generalize hr : (if hasN s K = true then some (0 + posN s K, PV.bool true) else none) = r at *
 have hr2 : (r.elim (PV.bool false) fun x => x.2) = .bool (hasN s K) := by
  rw [← hr]; by_cases h : hasN s K = true <;> simp [h]
 generalize hasN s K = b at *
 simp [Zf4, Z0, Z25, hn, W5, h1, h2, h3, h4, h5, h6, hr2, Gh]
@[simp] theorem cons3_beq_self (a b c : Nat) (l : Id) : (a :: b :: c :: l == l) = false := by
 rw [beq_eq_false_iff_ne]; intro h; have := congrArg List.length h; simp only [List.length_cons] at this; omega
@[simp] theorem self_beq_cons3 (a b c : Nat) (l : Id) : (l == a :: b :: c :: l) = false := by
 rw [beq_eq_false_iff_ne]; intro h; have := congrArg List.length h; simp only [List.length_cons] at this; omega
@[simp] theorem far1 {a : Nat} : (a :: π) ≠ π := fun h => by have := congrArg List.length h; simp only [List.length_cons] at this; omega
@[simp] theorem far2 {a b : Nat} : (a :: b :: π) ≠ π := fun h => by have := congrArg List.length h; simp only [List.length_cons] at this; omega
@[simp] theorem far3 {a b c : Nat} : (a :: b :: c :: π) ≠ π := fun h => by have := congrArg List.length h; simp only [List.length_cons] at this; omega
@[simp] theorem far1' {a : Nat} : ¬ π = a :: π := fun h => far1 h.symm
@[simp] theorem far2' {a b : Nat} : ¬ π = a :: b :: π := fun h => far2 h.symm
@[simp] theorem far3' {a b c : Nat} : ¬ π = a :: b :: c :: π := fun h => far3 h.symm
@[simp] theorem fgL_prts (l : List Prt) : PV.fg.PV.fgL (l.map Wt) = l.map Wt := Hd _ _ (fun x => by simp [Wt]) l
@[simp] theorem fgL_elms (l : List Elm) : PV.fg.PV.fgL (l.map Zu) = l.map Zu := Hd _ _ (fun x => by simp [Zu]) l
@[simp] theorem fgL_wrts (l : List Wrt) : PV.fg.PV.fgL (l.map W9) = l.map W9 := Hd _ _ (fun x => by simp [W9]) l
@[simp] theorem fgL_ruls (l : List Rul) : PV.fg.PV.fgL (l.map Xx) = l.map Xx := Hd _ _ (fun x => by simp [Xx]) l
@[simp] theorem fgL_otps (l : List Otp) : PV.fg.PV.fgL (l.map U9) = l.map U9 := Hd _ _ (fun x => by simp [U9]) l
@[simp] theorem fgL_atbs (l : List Atb) : PV.fg.PV.fgL (l.map Pp) = l.map Pp := Hd _ _ (fun x => by simp [Pp]) l
theorem fg_des (d : Des) : (Z5 d).fg = Z5 d := by simp [Z5]
def eachK {α : Type} (er : List ByteArray → α → Int) (nm : α → ByteArray) : List ByteArray → Nat → List α → Int × Int
 | _, _, [] => (0, 0)
 | K, i, x :: r => if er K x = 0 then eachK er nm (K ++ [nm x]) (i + 1) r else (i, er K x)
def endK {α : Type} (er : List ByteArray → α → Int) (nm : α → ByteArray) : List ByteArray → List α → List ByteArray
 | K, [] => K
 | K, x :: r => if er K x = 0 then endK er nm (K ++ [nm x]) r else putN K (nm x)
theorem Z57 {α : Type} (er : List ByteArray → α → Int) (nm : α → ByteArray) : ∀ (K : List ByteArray) (i : Nat) (l : List α), (eachK er nm K i l).2 = 0 → (eachK er nm K i l).1 = 0
 | _, _, [], _ => rfl
 | K, i, x :: r, h => by
  simp only [eachK] at h ⊢
  split
  ·rename_i hx; rw [if_pos hx] at h; exact Z57 er nm _ (i + 1) r h
  ·rename_i hx; rw [if_neg hx] at h; exact absurd h hx
theorem endK_ok {α : Type} (er : List ByteArray → α → Int) (nm : α → ByteArray) : ∀ (K : List ByteArray) (l : List α), (∀ x ∈ K, okS x) → (∀ x ∈ l, okS (nm x)) → ∀ x ∈ endK er nm K l, okS x
 | K, [], hK, _ => hK
 | K, y :: r, hK, hl => by
  unfold endK
  split
  ·refine endK_ok er nm _ r ?_ fun x hx => hl x (by simp [hx])
   intro x hx
   rcases List.mem_append.1 hx with h | h
   ·exact hK x h
   ·simp at h; subst h; exact hl y (by simp)
  ·exact Zcw hK (hl y (by simp))
theorem endK_z {α : Type} (er : List ByteArray → α → Int) (nm : α → ByteArray) : ∀ (K : List ByteArray) (i : Nat) (l : List α), (eachK er nm K i l).2 = 0 → endK er nm K l = K ++ l.map nm
 | _, _, [], _ => by simp [endK]
 | K, i, x :: r, h => by
  simp only [eachK, endK] at h ⊢
  split
  ·rename_i hx; rw [if_pos hx] at h; rw [endK_z er nm _ (i + 1) r h]; simp
  ·rename_i hx; rw [if_neg hx] at h; exact absurd h hx
theorem nmE_z {K : List ByteArray} {s : ByteArray} (h : nmE K s = 0) : putN K s = K ++ [s] := by
 unfold nmE at h
 rw [Zp, Zp] at h
 have := (Qc (c := 5) (by decide)).1 h.2.1
 unfold putN
 simp at this
 simp [this]
abbrev stK2 (π : Id) (K : List ByteArray) : Sto := [(5 :: π, .box false [.mp (14 :: π)]), (14 :: π, .mpb (entN K)), (4 :: π, .box false [.mp (13 :: π)]), (13 :: π, .mpb (entN K))]
def prtE (K : List ByteArray) (p : Prt) : Int := Z9 [nmE K p.name, nmE K p.name, unlE (Z8 p.width 1 16) 2]
theorem e_cd2_1 {κ : Id} (hκ : κ ≠ π) (i : Int) (p : Prt) (hp : okS p.name) (K : List ByteArray) (hK : ∀ x ∈ K, okS x) :
  EE κ My [.p (I i), .p (Wt p), .ref (4 :: π) 0, .ref (5 :: π) 0] (stK2 π K) = some (.p (I (prtE K p)), [(14 :: π, .mpb (entN (putN K p.name))), (13 :: π, .mpb (entN (putN K p.name))), (5 :: π, .box false [.mp (14 :: π)]), (4 :: π, .box false [.mp (13 :: π)])]) := by
 have hne := fun (id : Id) (ρ : Id) => Z6a (π := ρ) id K p.name hK hp
 have hκ' : ¬ π = κ := fun h => hκ h.symm
 have hb : (κ == π) = false := beq_eq_false_iff_ne.2 hκ
 have hb' : (π == κ) = false := beq_eq_false_iff_ne.2 hκ'
 unfold Wt prtE stK2
 unfold mpN at hne
 generalize entN K = M at *
 generalize entN (putN K p.name) = M' at *
 generalize nmE K p.name = q at *
 simp [e_ds_CkD_2_1, Z0, Z5v, evRO, hidA, evRH, Yi, hne, hκ, hκ', hb, hb', Za2, W5, Z5c]
theorem prtE_z {K : List ByteArray} {p : Prt} (h : prtE K p = 0) : putN K p.name = K ++ [p.name] := by
 unfold prtE at h
 rw [Zp] at h
 exact nmE_z h.1
theorem Zg3 (l : List Prt) (hl : l.length ≤ top63) (hp : ∀ p ∈ l, okS p.name) :
  ∀ (suf pre : List Prt) (K : List ByteArray) (x : Env × Sto), (∀ x ∈ K, okS x) → l = pre ++ suf → mask [1, 9, 10, 11] [5 :: π, 14 :: π, 4 :: π, 13 :: π] x = some ([(1, .fn My [.ref (4 :: π) 0, .ref (5 :: π) 0]), (9, .p (Xn l)), (10, .p (I l.length)), (11, .p (I pre.length))], stK2 π K) →
  kpO [] [4, 5] [5 :: π, 14 :: π, 4 :: π, 13 :: π] (bkO 0 (iter (round EE iter (8 :: 35 :: π) [5 :: π, 14 :: π, 4 :: π, 13 :: π] [1, 9, 10, 11] Pa) x)) = (if (eachK prtE (fun p => p.name) K pre.length suf).2 = 0 then some (.nm, [], stK2 π (endK prtE (fun p => p.name) K suf)) else some (.rt, [(4, .p (I (eachK prtE (fun p => p.name) K pre.length suf).1)), (5, .p (I (eachK prtE (fun p => p.name) K pre.length suf).2))], stK2 π (endK prtE (fun p => p.name) K suf)))
 | [], pre, K, x, hK, h, hm => by
  rw [Z3 hm]
  subst h
  simp [Qh, Xs, eachK, endK]
 | y :: suf, pre, K, x, hK, h, hm => by
  rw [Z3 hm]
  have hyn : okS y.name := hp y (by rw [h]; simp)
  have hy := e_cd2_1 (π := π) (κ := 19 :: 8 :: 35 :: π) far3 pre.length y hyn K hK
  have hg : l[pre.length]? = some y := by rw [h]; simp
  have hlt := Zc h
  have hws := Zf (show pre.length < l.length by omega) hl
  unfold stK2 at hy ⊢
  by_cases hpy : prtE K y = 0
  ·have hz := prtE_z hpy
   have ih := fun x => Zg3 l hl hp suf (pre ++ [y]) (K ++ [y.name]) x
   rw [hz] at hy
   simp only [eachK, endK, hpy, if_true]
   have hKK : ∀ x ∈ K ++ [y.name], okS x := by rw [← hz]; exact Zcw hK hyn
   unfold stK2 at ih
   generalize entN (K ++ [y.name]) = M' at *
   generalize entN K = M at *
   unfold Wt at hy
   simp [Qh, Xs, hlt, hg, hy, hpy, Wt]
   rw [show pre.length + 1 = (pre ++ [y]).length by simp]
   exact ih _ hKK (by simp [h]) (by simp [hws])
  ·simp only [eachK, endK, hpy, if_false]
   generalize entN (putN K y.name) = M' at *
   generalize entN K = M at *
   unfold Wt at hy
   simp [Qh, Xs, hlt, hg, hy, hpy, Wt]
theorem e_fitsD (n w : Int) (h : w ≤ 16) : EE π Z8o [.p (I n), .p (I w)] [] = some (.p (.bool (fitsB n w)), []) := by
 unfold fitsB
 by_cases h0 : 0 ≤ w
 ·have hneg : ¬ w < 0 := by omega
  have hm : min w.toNat 64 = w.toNat := by omega
  have hp : (2 : Int) ^ w.toNat = pw w := rfl
  have hp1 := Xb w
  have hp2 := pw_le h
  have hw : IntKind.i64.wrap (pw w) = pw w := w64 ⟨by omega, by omega⟩
  have hw2 : IntKind.i64.wrap (pw w - 1) = pw w - 1 := w64 ⟨by omega, by omega⟩
  have hwi := fun π => Wj (π := π) n 0 (pw w - 1)
  generalize pw w = P at *
  simp [e_ds_fits, Z0, Z9i, h0, hneg, hm, hp, hw, hw2, hwi, IntKind.bits, Z4]
 ·have hneg : w < 0 := by omega
  simp [e_ds_fits, Z0, Z9i, h0, hneg, Z4]
def elmE (K : List ByteArray) (p : Elm) : Int :=
 if Z9 [nmE K p.name, unlE (Z8 p.kind 0 1) 15, unlE (Z8 p.width 1 16) 2] ≠ 0 then Z9 [nmE K p.name, unlE (Z8 p.kind 0 1) 15, unlE (Z8 p.width 1 16) 2]
 else unlE (fitsB p.init p.width && Z8 p.clock 0 3) 2
abbrev stK1 (π : Id) (K : List ByteArray) : Sto := [(4 :: π, .box false [.mp (13 :: π)]), (13 :: π, .mpb (entN K))]
theorem e_cd4_1 {κ : Id} (hκ : κ ≠ π) (i : Int) (p : Elm) (hp : okS p.name) (K : List ByteArray) (hK : ∀ x ∈ K, okS x) :
  EE κ Mx [.p (I i), .p (Zu p), .ref (4 :: π) 0] (stK1 π K) = some (.p (I (elmE K p)), [(13 :: π, .mpb (entN (putN K p.name))), (4 :: π, .box false [.mp (13 :: π)])]) := by
 have hne := fun (id : Id) (ρ : Id) => Z6a (π := ρ) id K p.name hK hp
 have hκ' : ¬ π = κ := fun h => hκ h.symm
 have hb : (κ == π) = false := beq_eq_false_iff_ne.2 hκ
 have hb' : (π == κ) = false := beq_eq_false_iff_ne.2 hκ'
 have hw : Z9 [nmE K p.name, unlE (Z8 p.kind 0 1) 15, unlE (Z8 p.width 1 16) 2] = 0 → p.width ≤ 16 := fun h => by
  rw [Zp, Zp, Zp] at h
  exact (Zb.1 ((Qc (by decide)).1 h.2.2.1)).2
 have hfi := fun (h : p.width ≤ 16) (π : Id) => e_fitsD (π := π) p.init p.width h
 unfold Zu elmE stK1
 unfold mpN at hne
 generalize entN K = M at *
 generalize entN (putN K p.name) = M' at *
 generalize nmE K p.name = q at *
 by_cases h0 : Z9 [q, unlE (Z8 p.kind 0 1) 15, unlE (Z8 p.width 1 16) 2] = 0
 ·have hfi := hfi (hw h0)
  generalize fitsB p.init p.width = fb at *
  cases fb <;> simp [Zbk, Z0, Z1f, evRO, hidA, evRH, Yi, hne, hκ, hκ', hb, hb', Za2, W5, Z5c, Wj, h0, hfi]
 ·simp [Zbk, Z0, Z1f, evRO, hidA, evRH, Yi, hne, hκ, hκ', hb, hb', Za2, W5, Z5c, Wj, h0]
theorem elmE_z {K : List ByteArray} {p : Elm} (h : elmE K p = 0) : putN K p.name = K ++ [p.name] := by
 unfold elmE at h
 split at h
 ·contradiction
 ·rename_i h1
  rw [Classical.not_not, Zp] at h1
  exact nmE_z h1.1
theorem Zg7 (l : List Elm) (hl : l.length ≤ top63) (hp : ∀ p ∈ l, okS p.name) :
  ∀ (suf pre : List Elm) (K : List ByteArray) (x : Env × Sto), (∀ x ∈ K, okS x) → l = pre ++ suf → mask [1, 9, 10, 11] [4 :: π, 13 :: π] x = some ([(1, .fn Mx [.ref (4 :: π) 0]), (9, .p (W0 l)), (10, .p (I l.length)), (11, .p (I pre.length))], stK1 π K) →
  kpO [] [4, 5] [4 :: π, 13 :: π] (bkO 0 (iter (round EE iter (7 :: 35 :: π) [4 :: π, 13 :: π] [1, 9, 10, 11] Vl) x)) = (if (eachK elmE (fun p => p.name) K pre.length suf).2 = 0 then some (.nm, [], stK1 π (endK elmE (fun p => p.name) K suf)) else some (.rt, [(4, .p (I (eachK elmE (fun p => p.name) K pre.length suf).1)), (5, .p (I (eachK elmE (fun p => p.name) K pre.length suf).2))], stK1 π (endK elmE (fun p => p.name) K suf)))
 | [], pre, K, x, hK, h, hm => by
  rw [Z3 hm]
  subst h
  simp [Ve, Yv, eachK, endK]
 | y :: suf, pre, K, x, hK, h, hm => by
  rw [Z3 hm]
  have hyn : okS y.name := hp y (by rw [h]; simp)
  have hy := e_cd4_1 (π := π) (κ := 19 :: 7 :: 35 :: π) far3 pre.length y hyn K hK
  have hg : l[pre.length]? = some y := by rw [h]; simp
  have hlt := Zc h
  have hws := Zf (show pre.length < l.length by omega) hl
  unfold stK1 at hy ⊢
  by_cases hpy : elmE K y = 0
  ·have hz := elmE_z hpy
   have ih := fun x => Zg7 l hl hp suf (pre ++ [y]) (K ++ [y.name]) x
   rw [hz] at hy
   simp only [eachK, endK, hpy, if_true]
   have hKK : ∀ x ∈ K ++ [y.name], okS x := by rw [← hz]; exact Zcw hK hyn
   unfold stK1 at ih
   generalize entN (K ++ [y.name]) = M' at *
   generalize entN K = M at *
   unfold Zu at hy
   simp [Ve, Yv, hlt, hg, hy, hpy, Zu]
   rw [show pre.length + 1 = (pre ++ [y]).length by simp]
   exact ih _ hKK (by simp [h]) (by simp [hws])
  ·simp only [eachK, endK, hpy, if_false]
   generalize entN (putN K y.name) = M' at *
   generalize entN K = M at *
   unfold Zu at hy
   simp [Ve, Yv, hlt, hg, hy, hpy, Zu]
def Q0 (nodes : List Nod) (n : Int) : Bool := Z8 n 0 ((nodes.length : Int) - 1)
def Qz (nodes : List Nod) (n : Int) : Bool := Q0 nodes n && decide (widOf nodes n = 1)
theorem Hc {nodes : List Nod} {n : Int} : Q0 nodes n = true ↔ 0 ≤ n ∧ n < (nodes.length : Int) := by
 unfold Q0; rw [Zb]; omega
theorem Zds (d : Des) (n : Int) (hl : d.nodes.length ≤ 1000) : EE π H9 [.p (Z5 d), .p (I n)] [] = some (.p (.bool (Q0 d.nodes n)), []) := by
 have hw : IntKind.i64.wrap ((d.nodes.length : Int) - 1) = (d.nodes.length : Int) - 1 := w64 ⟨by omega, by omega⟩
 simp [e_ds_isNode, Z0, Z7x, Z5, hw, Wj, Q0]
theorem e_isCondD (d : Des) (n : Int) (hl : d.nodes.length ≤ 1000) : EE π U7 [.p (Z5 d), .p (I n)] [] = some (.p (.bool (Qz d.nodes n)), []) := by
 have hn := fun π => Zds (π := π) d n hl
 unfold Qz
 by_cases h : Q0 d.nodes n = true
 ·have hi := Hc.1 h
  have hlt : n.toNat < d.nodes.length := by omega
  have hg : d.nodes[n.toNat] = d.nodes.getD n.toNat nod0 := by simp [hlt]
  have hwd : widOf d.nodes n = (d.nodes.getD n.toNat nod0).width := rfl
  rw [hwd]
  generalize d.nodes.getD n.toNat nod0 = x at *
  have hln : n < (d.nodes.length : Int) := by omega
  unfold Z5 at hn
  simp [Z4l, Z0, Nu, Z5, hn, h, hlt, hg, hi.1, hln, Z4]
 ·have h : Q0 d.nodes n = false := by simpa using h
  unfold Z5 at hn
  simp [Z4l, Z0, Nu, Z5, hn, h, Z4]
def elm0 : Elm := ⟨⟨#[]⟩, 0, 0, 0, 0⟩
def ewOf (l : List Elm) (n : Int) : Int := (l.getD n.toNat elm0).width
def wrtE (els : List Elm) (nodes : List Nod) (w : Wrt) : Int :=
 if Z9 [unlE (Z8 w.el 0 ((els.length : Int) - 1)) 6, unlE (Qz nodes w.whn && Q0 nodes w.val) 9] ≠ 0 then Z9 [unlE (Z8 w.el 0 ((els.length : Int) - 1)) 6, unlE (Qz nodes w.whn && Q0 nodes w.val) 9]
 else unlE (decide (widOf nodes w.val = ewOf els w.el)) 25
theorem wrtE_1 {els : List Elm} {nodes : List Nod} {w : Wrt} (h : Z9 [unlE (Z8 w.el 0 ((els.length : Int) - 1)) 6, unlE (Qz nodes w.whn && Q0 nodes w.val) 9] = 0) : (0 ≤ w.el ∧ w.el < (els.length : Int)) ∧ Qz nodes w.whn = true ∧ 0 ≤ w.val ∧ w.val < (nodes.length : Int) := by
 rw [Zp, Zp, Qc (by decide), Qc (by decide), Zb] at h
 have h2 := h.2.1
 rw [Bool.and_eq_true, Hc] at h2
 exact ⟨by omega, h2.1, h2.2⟩
theorem e_writeErrD (d : Des) (w : Wrt) (hl : d.nodes.length ≤ 1000) (hel : d.elements.length ≤ 1000) :
  EE π Fh [.p (Z5 d), .p (W9 w)] [] = some (.p (I (wrtE d.elements d.nodes w)), []) := by
 have hn := fun π => Zds (π := π) d w.val hl
 have hc := fun π => e_isCondD (π := π) d w.whn hl
 have hw : IntKind.i64.wrap ((d.elements.length : Int) - 1) = (d.elements.length : Int) - 1 := w64 ⟨by omega, by omega⟩
 have hwi := fun π => Wj (π := π) w.el 0 ((d.elements.length : Int) - 1)
 unfold wrtE
 by_cases h : Z9 [unlE (Z8 w.el 0 ((d.elements.length : Int) - 1)) 6, unlE (Qz d.nodes w.whn && Q0 d.nodes w.val) 9] = 0
 ·obtain ⟨h1, h2, h3⟩ := wrtE_1 h
  have hlt : w.val.toNat < d.nodes.length := by omega
  have hg : d.nodes[w.val.toNat] = d.nodes.getD w.val.toNat nod0 := by simp [hlt]
  have hln : w.val < (d.nodes.length : Int) := by omega
  have hlt' : w.el.toNat < d.elements.length := by omega
  have hg' : d.elements[w.el.toNat] = d.elements.getD w.el.toNat elm0 := by simp [hlt']
  have hln' : w.el < (d.elements.length : Int) := by omega
  have hn' : Q0 d.nodes w.val = true := Hc.2 h3
  have hwd : widOf d.nodes w.val = (d.nodes.getD w.val.toNat nod0).width := rfl
  have hwd' : ewOf d.elements w.el = (d.elements.getD w.el.toNat elm0).width := rfl
  have hwe : Z8 w.el 0 ((d.elements.length : Int) - 1) = true := by rw [Zb]; omega
  rw [hwd, hwd']
  generalize d.nodes.getD w.val.toNat nod0 = x at *
  generalize d.elements.getD w.el.toNat elm0 = y at *
  unfold Z5 at hn hc
  simp [Z3m, Z0, Kb, Z5, W9, hn, hc, hw, hwi, hwe, h2, hn', W5, Gh, hlt, hg, hln, hlt', hg', hln', h1.1, h3.1, Z4, evRO, Zu, unlE, Z9]
 ·unfold Z5 at hn hc
  generalize Qz d.nodes w.whn = b1 at *
  generalize Q0 d.nodes w.val = b2 at *
  generalize Z8 w.el 0 ((d.elements.length : Int) - 1) = b3 at *
  cases b1
  ·simp at h
   simp [Z3m, Z0, Kb, Z5, W9, hn, hc, hw, hwi, W5, Gh, Z4, evRO, h]
  ·simp at h
   simp [Z3m, Z0, Kb, Z5, W9, hn, hc, hw, hwi, W5, Gh, Z4, evRO, h]
theorem Zg1 (l : List Wrt) (hl : l.length ≤ top63) {f : Nat} {caps : List PV} {err : Nat → Wrt → Int} (hp : ∀ (i : Nat) x, l[i]? = some x → EE (19 :: π) f (.p (I i) :: .p (W9 x) :: caps.map fun v => AV.p v.fg) [] = some (.p (I (err i x)), [])) :
  ∀ (suf pre : List Wrt) (x : Env × Sto), l = pre ++ suf → mask [1, 9, 10, 11] [] x = some ([(1, .p (.fn f caps)), (9, .p (Z1s l)), (10, .p (I l.length)), (11, .p (I pre.length))], []) →
  kpO [] [4, 5] [] (bkO 0 (iter (round EE iter π [] [1, 9, 10, 11] Ut) x)) = (if (eachE err pre.length suf).2 = 0 then some (.nm, [], []) else some (.rt, [(4, .p (I (eachE err pre.length suf).1)), (5, .p (I (eachE err pre.length suf).2))], []))
 | [], pre, x, h, hm => by
  rw [Z3 hm]
  subst h
  simp [Uq, Xf, eachE]
 | y :: suf, pre, x, h, hm => by
  rw [Z3 hm]
  have hy := hp pre.length y (by rw [h]; simp)
  have hg : l[pre.length]? = some y := by rw [h]; simp
  have ih := fun x => Zg1 l hl hp suf (pre ++ [y]) x
  have hlt := Zc h
  have hws := Zf (show pre.length < l.length by omega) hl
  unfold W9 at hy
  by_cases hpy : err pre.length y = 0
  ·simp [Uq, Xf, hlt, hg, hy, hpy, eachE, W9]
   rw [show pre.length + 1 = (pre ++ [y]).length by simp]
   exact ih _ (by simp [h]) (by simp [hws])
  ·simp [Uq, Xf, hlt, hg, hy, hpy, eachE, W9]
theorem e_eachW (l : List Wrt) (hl : l.length ≤ top63) {f : Nat} {caps : List PV} {err : Nat → Wrt → Int} (hp : ∀ (i : Nat) x, l[i]? = some x → EE (19 :: π) f (.p (I i) :: .p (W9 x) :: caps.map fun v => AV.p v.fg) [] = some (.p (I (err i x)), [])) :
  EE π Vu [.p (Z1s l), .p (.fn f caps)] [] = some (.p (.tup [I (eachE err 0 l).1, I (eachE err 0 l).2]), []) := by
 simp [Z7d, Z0, Md]
 rw [Zg1 l hl hp l [] _ rfl (by simp)]
 by_cases hf : (eachE err 0 l).2 = 0
 ·have h1 : (eachE err 0 l).1 = 0 := Z58 err 0 l hf
  simp [hf, h1]
 ·simp [hf]
abbrev Xy (d : Des) : List PV := [.str d.name, Xn d.inputs, W0 d.elements, Za d.nodes, Ls d.rules, Us d.outputs, Lt d.attrs]
theorem e_cd7_1_1 (i : Int) (w : Wrt) (d : Des) (hl : d.nodes.length ≤ 1000) (hel : d.elements.length ≤ 1000) :
  EE π N9 [.p (I i), .p (W9 w), .p (.ptr (Xy d))] [] = some (.p (I (wrtE d.elements d.nodes w)), []) := by
 have hw := fun π => e_writeErrD (π := π) d w hl hel
 unfold Z5 W9 at hw
 simp [Zf5, Z0, Z29, W9, hw, Z4, evRO]
def rulE (els : List Elm) (nodes : List Nod) (K : List ByteArray) (r : Rul) : Int :=
 Z9 [Z9 [nmE K r.name, unlE (Qz nodes r.guard) 9, unlE (decide ((r.writes.length : Int) ≤ 16)) 8], (eachE (fun _ w => wrtE els nodes w) 0 r.writes).2]
abbrev stK3 (π : Id) (a b : Nat) (d : Des) (K : List ByteArray) : Sto := [(a :: π, .box false [.mp (b :: π)]), (b :: π, .mpb (entN K)), (1 :: π, .box false ((Xy d).map .p))]
theorem e_cd7_1 {κ : Id} (hκ : κ ≠ π) (i : Int) (r : Rul) (hp : okS r.name) (d : Des) (hl : d.nodes.length ≤ 1000) (hel : d.elements.length ≤ 1000) (hwl : r.writes.length ≤ 1000) (K : List ByteArray) (hK : ∀ x ∈ K, okS x) :
  EE κ Mw [.p (I i), .p (Xx r), .ref (6 :: π) 0, .ref (1 :: π) 0] (stK3 π 6 15 d K) = some (.p (I (rulE d.elements d.nodes K r)), [(15 :: π, .mpb (entN (putN K r.name))), (6 :: π, .box false [.mp (15 :: π)]), (1 :: π, .box false ((Xy d).map .p))]) := by
 have hne := fun (id : Id) (ρ : Id) => Z6a (π := ρ) id K r.name hK hp
 have hκ' : ¬ π = κ := fun h => hκ h.symm
 have hb : (κ == π) = false := beq_eq_false_iff_ne.2 hκ
 have hb' : (π == κ) = false := beq_eq_false_iff_ne.2 hκ'
 have hc := fun π => e_isCondD (π := π) d r.guard hl
 have hea := fun π => e_eachW (π := π) r.writes (by simp only [top63]; omega) (f := N9) (caps := [.ptr (Xy d)]) (err := fun _ w => wrtE d.elements d.nodes w) (fun i x _ => by simpa using e_cd7_1_1 _ x d hl hel)
 unfold Xx rulE stK3
 unfold mpN at hne
 unfold Z5 at hc
 generalize entN K = M at *
 generalize entN (putN K r.name) = M' at *
 generalize nmE K r.name = q at *
 generalize eachE (fun _ w => wrtE d.elements d.nodes w) 0 r.writes = R at *
 simp [e_ds_CkD_7_1, Z0, Z5u, evRO, hidA, evRH, Yi, hne, hκ, hκ', hb, hb', hc, hea, W5, Z5c, Gh, Z4]
theorem rulE_z {els : List Elm} {nodes : List Nod} {K : List ByteArray} {p : Rul} (h : rulE els nodes K p = 0) : putN K p.name = K ++ [p.name] := by
 unfold rulE at h
 rw [Zp, Zp] at h
 exact nmE_z h.1.1
def outE (nodes : List Nod) (K : List ByteArray) (o : Otp) : Int := Z9 [nmE K o.name, unlE (Q0 nodes o.node) 9]
theorem outE_z {nodes : List Nod} {K : List ByteArray} {p : Otp} (h : outE nodes K p = 0) : putN K p.name = K ++ [p.name] := by
 unfold outE at h
 rw [Zp] at h
 exact nmE_z h.1
theorem e_cd9_1 {κ : Id} (hκ : κ ≠ π) (i : Int) (o : Otp) (hp : okS o.name) (d : Des) (hl : d.nodes.length ≤ 1000) (K : List ByteArray) (hK : ∀ x ∈ K, okS x) :
  EE κ Mv [.p (I i), .p (U9 o), .ref (7 :: π) 0, .ref (1 :: π) 0] (stK3 π 7 16 d K) = some (.p (I (outE d.nodes K o)), [(16 :: π, .mpb (entN (putN K o.name))), (7 :: π, .box false [.mp (16 :: π)]), (1 :: π, .box false ((Xy d).map .p))]) := by
 have hne := fun (id : Id) (ρ : Id) => Z6a (π := ρ) id K o.name hK hp
 have hκ' : ¬ π = κ := fun h => hκ h.symm
 have hb : (κ == π) = false := beq_eq_false_iff_ne.2 hκ
 have hb' : (π == κ) = false := beq_eq_false_iff_ne.2 hκ'
 have hc := fun π => Zds (π := π) d o.node hl
 unfold U9 outE stK3
 unfold mpN at hne
 unfold Z5 at hc
 generalize entN K = M at *
 generalize entN (putN K o.name) = M' at *
 generalize nmE K o.name = q at *
 simp [e_ds_CkD_9_1, Z0, Z5t, evRO, hidA, evRH, Yi, hne, hκ, hκ', hb, hb', hc, W5, Gh, Z4]
theorem Zg2 (d : Des) (hnl : d.nodes.length ≤ 1000) (hel : d.elements.length ≤ 1000) (l : List Rul) (hl : l.length ≤ top63) (hp : ∀ p ∈ l, okS p.name) (hwl : ∀ r ∈ l, r.writes.length ≤ 1000) :
  ∀ (suf pre : List Rul) (K : List ByteArray) (x : Env × Sto), (∀ x ∈ K, okS x) → l = pre ++ suf → mask [1, 9, 10, 11] [6 :: π, 15 :: π, 1 :: π] x = some ([(1, .fn Mw [.ref (6 :: π) 0, .ref (1 :: π) 0]), (9, .p (Ls l)), (10, .p (I l.length)), (11, .p (I pre.length))], stK3 π 6 15 d K) →
  kpO [] [4, 5] [6 :: π, 15 :: π, 1 :: π] (bkO 0 (iter (round EE iter (7 :: 35 :: π) [6 :: π, 15 :: π, 1 :: π] [1, 9, 10, 11] P9) x)) = (if (eachK (rulE d.elements d.nodes) (fun p => p.name) K pre.length suf).2 = 0 then some (.nm, [], stK3 π 6 15 d (endK (rulE d.elements d.nodes) (fun p => p.name) K suf)) else some (.rt, [(4, .p (I (eachK (rulE d.elements d.nodes) (fun p => p.name) K pre.length suf).1)), (5, .p (I (eachK (rulE d.elements d.nodes) (fun p => p.name) K pre.length suf).2))], stK3 π 6 15 d (endK (rulE d.elements d.nodes) (fun p => p.name) K suf)))
 | [], pre, K, x, hK, h, hm => by
  rw [Z3 hm]
  subst h
  simp [Qg, Xr, eachK, endK]
 | y :: suf, pre, K, x, hK, h, hm => by
  rw [Z3 hm]
  have hyn : okS y.name := hp y (by rw [h]; simp)
  have hy := e_cd7_1 (π := π) (κ := 19 :: 7 :: 35 :: π) far3 pre.length y hyn d hnl hel (hwl y (by rw [h]; simp)) K hK
  have hg : l[pre.length]? = some y := by rw [h]; simp
  have hlt := Zc h
  have hws := Zf (show pre.length < l.length by omega) hl
  unfold stK3 at hy ⊢
  by_cases hpy : rulE d.elements d.nodes K y = 0
  ·have hz := rulE_z hpy
   have ih := fun x => Zg2 d hnl hel l hl hp hwl suf (pre ++ [y]) (K ++ [y.name]) x
   rw [hz] at hy
   simp only [eachK, endK, hpy, if_true]
   have hKK : ∀ x ∈ K ++ [y.name], okS x := by rw [← hz]; exact Zcw hK hyn
   unfold stK3 at ih
   generalize entN (K ++ [y.name]) = M' at *
   generalize entN K = M at *
   unfold Xx at hy
   simp at hy
   simp [Qg, Xr, hlt, hg, hy, hpy, Xx]
   rw [show pre.length + 1 = (pre ++ [y]).length by simp]
   exact ih _ hKK (by simp [h]) (by simp [hws])
  ·simp only [eachK, endK, hpy, if_false]
   generalize entN (putN K y.name) = M' at *
   generalize entN K = M at *
   unfold Xx at hy
   simp at hy
   simp [Qg, Xr, hlt, hg, hy, hpy, Xx]
theorem Zg4 (d : Des) (hnl : d.nodes.length ≤ 1000) (l : List Otp) (hl : l.length ≤ top63) (hp : ∀ p ∈ l, okS p.name) :
  ∀ (suf pre : List Otp) (K : List ByteArray) (x : Env × Sto), (∀ x ∈ K, okS x) → l = pre ++ suf → mask [1, 9, 10, 11] [7 :: π, 16 :: π, 1 :: π] x = some ([(1, .fn Mv [.ref (7 :: π) 0, .ref (1 :: π) 0]), (9, .p (Us l)), (10, .p (I l.length)), (11, .p (I pre.length))], stK3 π 7 16 d K) →
  kpO [] [4, 5] [7 :: π, 16 :: π, 1 :: π] (bkO 0 (iter (round EE iter (7 :: 35 :: π) [7 :: π, 16 :: π, 1 :: π] [1, 9, 10, 11] Vx) x)) = (if (eachK (outE d.nodes) (fun p => p.name) K pre.length suf).2 = 0 then some (.nm, [], stK3 π 7 16 d (endK (outE d.nodes) (fun p => p.name) K suf)) else some (.rt, [(4, .p (I (eachK (outE d.nodes) (fun p => p.name) K pre.length suf).1)), (5, .p (I (eachK (outE d.nodes) (fun p => p.name) K pre.length suf).2))], stK3 π 7 16 d (endK (outE d.nodes) (fun p => p.name) K suf)))
 | [], pre, K, x, hK, h, hm => by
  rw [Z3 hm]
  subst h
  simp [Vq, X6, eachK, endK]
 | y :: suf, pre, K, x, hK, h, hm => by
  rw [Z3 hm]
  have hyn : okS y.name := hp y (by rw [h]; simp)
  have hy := e_cd9_1 (π := π) (κ := 19 :: 7 :: 35 :: π) far3 pre.length y hyn d hnl  K hK
  have hg : l[pre.length]? = some y := by rw [h]; simp
  have hlt := Zc h
  have hws := Zf (show pre.length < l.length by omega) hl
  unfold stK3 at hy ⊢
  by_cases hpy : outE d.nodes K y = 0
  ·have hz := outE_z hpy
   have ih := fun x => Zg4 d hnl l hl hp  suf (pre ++ [y]) (K ++ [y.name]) x
   rw [hz] at hy
   simp only [eachK, endK, hpy, if_true]
   have hKK : ∀ x ∈ K ++ [y.name], okS x := by rw [← hz]; exact Zcw hK hyn
   unfold stK3 at ih
   generalize entN (K ++ [y.name]) = M' at *
   generalize entN K = M at *
   unfold U9 at hy
   simp at hy
   simp [Vq, X6, hlt, hg, hy, hpy, U9]
   rw [show pre.length + 1 = (pre ++ [y]).length by simp]
   exact ih _ hKK (by simp [h]) (by simp [hws])
  ·simp only [eachK, endK, hpy, if_false]
   generalize entN (putN K y.name) = M' at *
   generalize entN K = M at *
   unfold U9 at hy
   simp at hy
   simp [Vq, X6, hlt, hg, hy, hpy, U9]
@[simp] theorem fgL_take : ∀ (i : Nat) (l : List PV), PV.fg.PV.fgL (l.take i) = (PV.fg.PV.fgL l).take i
 | 0, l => by simp [PV.fg.PV.fgL]
 | i + 1, [] => by simp [PV.fg.PV.fgL]
 | i + 1, x :: r => by simp [PV.fg.PV.fgL, fgL_take i r]
def memB (l : List Int) (x : Int) : Bool := l.any fun y => decide (x = y)
theorem Nr {l : List Int} {x : Int} : memB l x = true ↔ x ∈ l := by simp [memB]
theorem idx_loopX (l : List Int) (hl : l.length ≤ top63) (v : Int) : ∀ (suf pre : List Int) (x : Env × Sto), l = pre ++ suf → mask [0, 1, 7, 8] [] x = some ([(0, .p (Z1 l)), (1, .p (I v)), (7, .p (I l.length)), (8, .p (I pre.length))], []) →
  kpO [] [4] [] (bkO 0 (iter (round EE iter π [] [0, 1, 7, 8] P2) x)) = (if idxOf (fun y => decide (v = y)) pre.length suf = -1 then some (.nm, [], []) else some (.rt, [(4, .p (I (idxOf (fun y => decide (v = y)) pre.length suf)))], []))
 | [], pre, x, h, hm => by
  rw [Z3 hm]
  subst h
  simp [Qd, Xo, idxOf]
 | y :: suf, pre, x, h, hm => by
  rw [Z3 hm]
  by_cases hpy : v = y
  ·have : ¬ ((pre.length : Int) = -1) := by omega
   simp [Qd, Xo, Zc h, Y3 _ h, hpy, idxOf, this]
  ·simp [Qd, Xo, Zc h, Y3 _ h, hpy, idxOf]
   rw [show pre.length + 1 = (pre ++ [y]).length by simp]
   exact idx_loopX l hl v suf (pre ++ [y]) _ (by simp [h]) (by simp [Zf (show pre.length < l.length by have := Zc h; omega) hl])
theorem e_Index (l : List Int) (hl : l.length ≤ top63) (v : Int) : EE π Uu [.p (Z1 l), .p (I v)] [] = some (.p (I (idxOf (fun y => decide (v = y)) 0 l)), []) := by
 simp [Z97, Z0, Lx]
 rw [idx_loopX l hl v l [] _ rfl (by simp)]
 by_cases hz : idxOf (fun y => decide (v = y)) 0 l = -1 <;> simp [hz]
theorem e_Contains (l : List Int) (hl : l.length ≤ top63) (v : Int) : EE π Y8 [.p (Z1 l), .p (I v)] [] = some (.p (.bool (memB l v)), []) := by
 have := Zhd (fun y => decide (v = y)) 0 l
 unfold memB
 rw [← this]
 simp [Z59, Z0, P4, e_Index l hl]
theorem Zdl (l : List Int) (hl : l.length ≤ top63) {f : Nat} {caps : List PV} {err : Nat → Int → Int} (hp : ∀ (i : Nat) x, l[i]? = some x → EE (19 :: π) f (.p (I i) :: .p (I x) :: caps.map fun v => AV.p v.fg) [] = some (.p (I (err i x)), [])) :
  ∀ (suf pre : List Int) (x : Env × Sto), l = pre ++ suf → mask [1, 9, 10, 11] [] x = some ([(1, .p (.fn f caps)), (9, .p (Z1 l)), (10, .p (I l.length)), (11, .p (I pre.length))], []) →
  kpO [] [4, 5] [] (bkO 0 (iter (round EE iter π [] [1, 9, 10, 11] F5) x)) = (if (eachE err pre.length suf).2 = 0 then some (.nm, [], []) else some (.rt, [(4, .p (I (eachE err pre.length suf).1)), (5, .p (I (eachE err pre.length suf).2))], []))
 | [], pre, x, h, hm => by
  rw [Z3 hm]
  subst h
  simp [Gr, Uh, eachE]
 | y :: suf, pre, x, h, hm => by
  rw [Z3 hm]
  have hy := hp pre.length y (by rw [h]; simp)
  by_cases hpy : err pre.length y = 0
  ·simp [Gr, Uh, Zc h, Y3 _ h, hy, hpy, eachE]
   rw [show pre.length + 1 = (pre ++ [y]).length by simp]
   exact Zdl l hl hp suf (pre ++ [y]) _ (by simp [h]) (by simp [Zf (show pre.length < l.length by have := Zc h; omega) hl])
  ·simp [Gr, Uh, Zc h, Y3 _ h, hy, hpy, eachE]
theorem e_eachDI (l : List Int) (hl : l.length ≤ top63) {f : Nat} {caps : List PV} {err : Nat → Int → Int} (hp : ∀ (i : Nat) x, l[i]? = some x → EE (19 :: π) f (.p (I i) :: .p (I x) :: caps.map fun v => AV.p v.fg) [] = some (.p (I (err i x)), [])) :
  EE π Fi [.p (Z1 l), .p (.fn f caps)] [] = some (.p (.tup [I (eachE err 0 l).1, I (eachE err 0 l).2]), []) := by
 simp [Zhv, Z0, Z49]
 rw [Zdl l hl hp l [] _ rfl (by simp)]
 by_cases hf : (eachE err 0 l).2 = 0
 ·have h1 : (eachE err 0 l).1 = 0 := Z58 err 0 l hf
  simp [hf, h1]
 ·simp [hf]
def arE (nr : Nat) (l : List Int) (i : Nat) (n : Int) : Int := Z9 [unlE (Z8 n 0 ((nr : Int) - 1)) 6, unlE (!memB (l.take i) n) 23]
theorem e_cd11_1_1 (i : Nat) (n : Int) (d : Des) (a : Atb) (hr : d.rules.length ≤ 1000) (ha : a.rules.length ≤ 1000) (hi : i ≤ a.rules.length) :
  EE π Qw [.p (I i), .p (I n), .p (.ptr (Xy d)), .p (.ptr [I a.kind, Z1 a.rules])] [] = some (.p (I (arE d.rules.length a.rules i n)), []) := by
 have hw : IntKind.i64.wrap ((d.rules.length : Int) - 1) = (d.rules.length : Int) - 1 := w64 ⟨by omega, by omega⟩
 have hc := fun π => e_Contains (π := π) (a.rules.take i) (by rw [List.length_take]; simp only [top63]; omega) n
 have hi' : (i : Int) ≤ a.rules.length := by omega
 unfold arE
 generalize memB (a.rules.take i) n = b at *
 simp only [Z1, ints, List.map_take] at hc
 simp [Zdx, Z0, Z0k, hw, Wj, W5, Gh, Z4, evRO, hi, hc]
def atbE (nr : Nat) (a : Atb) : Int := Z9 [unlE (Z8 a.kind 0 3) 15, unlE (Z8 (a.rules.length : Int) 1 16) 10, (eachE (arE nr a.rules) 0 a.rules).2]
theorem e_cd11_1 (i : Int) (d : Des) (a : Atb) (hr : d.rules.length ≤ 1000) (ha : a.rules.length ≤ 1000) :
  EE π Lo [.p (I i), .p (Pp a), .p (.ptr (Xy d))] [] = some (.p (I (atbE d.rules.length a)), []) := by
 have hea := fun π => e_eachDI (π := π) a.rules (by simp only [top63]; omega) (f := Qw) (caps := [.ptr (Xy d), .ptr [I a.kind, Z1 a.rules]]) (err := arE d.rules.length a.rules) (fun i x hx => by
  have hi : i < a.rules.length := (List.getElem?_eq_some_iff.1 hx).1
  simpa using e_cd11_1_1 i x d a hr ha (by omega))
 unfold atbE
 generalize eachE (arE d.rules.length a.rules) 0 a.rules = R at *
 simp [Zhw, Z0, Z4a, Pp, Wj, W5, Z5c, Z4, evRO, hea]
theorem Zg9 (l : List Atb) (hl : l.length ≤ top63) {f : Nat} {caps : List PV} {err : Nat → Atb → Int} (hp : ∀ (i : Nat) x, l[i]? = some x → EE (19 :: π) f (.p (I i) :: .p (Pp x) :: caps.map fun v => AV.p v.fg) [] = some (.p (I (err i x)), [])) :
  ∀ (suf pre : List Atb) (x : Env × Sto), l = pre ++ suf → mask [1, 9, 10, 11] [] x = some ([(1, .p (.fn f caps)), (9, .p (Lt l)), (10, .p (I l.length)), (11, .p (I pre.length))], []) →
  kpO [] [4, 5] [] (bkO 0 (iter (round EE iter π [] [1, 9, 10, 11] Wx) x)) = (if (eachE err pre.length suf).2 = 0 then some (.nm, [], []) else some (.rt, [(4, .p (I (eachE err pre.length suf).1)), (5, .p (I (eachE err pre.length suf).2))], []))
 | [], pre, x, h, hm => by
  rw [Z3 hm]
  subst h
  simp [Wv, Yd, eachE]
 | y :: suf, pre, x, h, hm => by
  rw [Z3 hm]
  have hy := hp pre.length y (by rw [h]; simp)
  have hg : l[pre.length]? = some y := by rw [h]; simp
  have ih := fun x => Zg9 l hl hp suf (pre ++ [y]) x
  have hlt := Zc h
  have hws := Zf (show pre.length < l.length by omega) hl
  unfold Pp at hy
  by_cases hpy : err pre.length y = 0
  ·simp [Wv, Yd, hlt, hg, hy, hpy, eachE, Pp]
   rw [show pre.length + 1 = (pre ++ [y]).length by simp]
   exact ih _ (by simp [h]) (by simp [hws])
  ·simp [Wv, Yd, hlt, hg, hy, hpy, eachE, Pp]
theorem e_eachA (l : List Atb) (hl : l.length ≤ top63) {f : Nat} {caps : List PV} {err : Nat → Atb → Int} (hp : ∀ (i : Nat) x, l[i]? = some x → EE (19 :: π) f (.p (I i) :: .p (Pp x) :: caps.map fun v => AV.p v.fg) [] = some (.p (I (err i x)), [])) :
  EE π W7 [.p (Lt l), .p (.fn f caps)] [] = some (.p (.tup [I (eachE err 0 l).1, I (eachE err 0 l).2]), []) := by
 simp [Z3n, Z0, Vy]
 rw [Zg9 l hl hp l [] _ rfl (by simp)]
 by_cases hf : (eachE err 0 l).2 = 0
 ·have h1 : (eachE err 0 l).1 = 0 := Z58 err 0 l hf
  simp [hf, h1]
 ·simp [hf]
def dlv (d : Des) : List Int := d.inputs.map (fun p => p.width) ++ d.elements.map (fun p => p.width)
abbrev rowL (id : Id) (l : List Int) : Id × Blk := (id, .row false t_int 1 (flagE l) (ints l))
abbrev Y7 (id : Id) (d : Des) : Id × Blk := (id, .box false ((Xy d).map .p))
theorem dlv_loop1 (d : Des) (hl : d.inputs.length ≤ 1000) : ∀ (suf pre : List Prt) (x : Env × Sto), d.inputs = pre ++ suf →
  mask [1, 3, 9, 10, 11] [] x = some ([(1, .ref (1 :: π) 0), (3, .ap (1003 :: π)), (9, .p (Xn d.inputs)), (10, .p (I d.inputs.length)), (11, .p (I pre.length))], [rowL (1003 :: π) (pre.map fun p => p.width), Y7 (1 :: π) d]) →
  kpO [1, 3] [2] [] (bkO 0 (iter (round EE iter π [] [1, 3, 9, 10, 11] Z27) x)) = some (.nm, [(1, .ref (1 :: π) 0), (3, .ap (1003 :: π))], [rowL (1003 :: π) (d.inputs.map fun p => p.width), Y7 (1 :: π) d])
 | [], pre, x, h, hm => by
  rw [Z3 hm]
  have : pre = d.inputs := by simpa using h.symm
  subst this
  simp [Z6s, G5]
 | y :: suf, pre, x, h, hm => by
  rw [Z3 hm]
  have hg : d.inputs[pre.length]? = some y := by rw [h]; simp
  have ih := fun x => dlv_loop1 d hl suf (pre ++ [y]) x
  have hlt := Zc h
  have hws := Zf (show pre.length < d.inputs.length by omega) (show d.inputs.length ≤ top63 by simp only [top63]; omega)
  have hrm : pre.length + 1 ≤ room := by simp only [room]; omega
  simp [Z6s, G5, hlt, hg, Wt, hrm]
  exact ih _ (by simp [h]) (by simp [hws, Yj])
theorem dlv_loop2 (d : Des) (hl : d.elements.length ≤ 1000) (hl' : d.inputs.length ≤ 1000) : ∀ (suf pre : List Elm) (x : Env × Sto), d.elements = pre ++ suf →
  mask [3, 22, 23, 24] [] x = some ([(3, .ap (1003 :: π)), (22, .p (W0 d.elements)), (23, .p (I d.elements.length)), (24, .p (I pre.length))], [rowL (1003 :: π) (d.inputs.map (fun p => p.width) ++ pre.map fun p => p.width)]) →
  kpO [3] [2] [] (bkO 2 (iter (round EE iter π [] [3, 22, 23, 24] Z26) x)) = some (.nm, [(3, .ap (1003 :: π))], [rowL (1003 :: π) (dlv d)])
 | [], pre, x, h, hm => by
  rw [Z3 hm]
  have : pre = d.elements := by simpa using h.symm
  subst this
  simp [Z6r, G4, dlv]
 | y :: suf, pre, x, h, hm => by
  rw [Z3 hm]
  have hg : d.elements[pre.length]? = some y := by rw [h]; simp
  have ih := fun x => dlv_loop2 d hl hl' suf (pre ++ [y]) x
  have hlt := Zc h
  have hws := Zf (show pre.length < d.elements.length by omega) (show d.elements.length ≤ top63 by simp only [top63]; omega)
  have hrm : d.inputs.length + pre.length + 1 ≤ room := by simp only [room]; omega
  have hfl : flagE (d.inputs.map (fun p => p.width) ++ (pre.map (fun p => p.width) ++ [y.width])) = some false := by rw [← List.append_assoc]; exact Yj _ _
  simp [Z6r, G4, hlt, hg, Zu, hrm]
  exact ih _ (by simp [h]) (by simp [hws, hfl])
theorem e_leavesD (d : Des) (hl' : d.inputs.length ≤ 1000) (hl : d.elements.length ≤ 1000) :
  EE π Z3d [.p (Z5 d)] [] = some (.ap (1003 :: π), [rowL (1003 :: π) (dlv d)]) := by
 have h1 := dlv_loop1 (π := π) d hl' d.inputs []
 have h2 := dlv_loop2 (π := π) d hl hl' d.elements []
 simp [e_ds_leaves, Z0, Z7w, Z5, thaw, thaw1]
 rw [h1 _ rfl (by simp [flagE])]
 simp [thaw, thaw1]
 rw [h2 _ rfl (by simp)]
 simp
structure DesOk (d : Des) : Prop where
 name : okS d.name
 inputs : d.inputs.length ≤ 1000
 elements : d.elements.length ≤ 1000
 nodes : d.nodes.length ≤ 1000
 rules : d.rules.length ≤ 1000
 outputs : d.outputs.length ≤ 1000
 attrs : d.attrs.length ≤ 1000
 inN : ∀ p ∈ d.inputs, okS p.name
 elN : ∀ p ∈ d.elements, okS p.name
 ruN : ∀ p ∈ d.rules, okS p.name
 ouN : ∀ p ∈ d.outputs, okS p.name
 args : ∀ x ∈ d.nodes, x.args.length ≤ 1000
 writes : ∀ r ∈ d.rules, r.writes.length ≤ 400
 atR : ∀ a ∈ d.attrs, a.rules.length ≤ 1000
theorem e_cd1 (d : Des) (hd : DesOk d) : EE (35 :: π) Z2t [.ref (1 :: π) 0] [Y7 (1 :: π) d] = some (.p (.tup [I 0, I (Z9 [unlE (nameB d.name) 4, unlE (decide ((d.inputs.length : Int) ≤ 12)) 8])]), [Y7 (1 :: π) d]) := by
 have hn := fun π => e_isNameD (π := π) d.name hd.name
 simp [e_ds_CkD_1, Z0, Zav, hn, W5, Gh, evRO, Z4]
theorem e_cd3 (d : Des) (hd : DesOk d) : EE (35 :: π) Z2r [.ref (1 :: π) 0] [Y7 (1 :: π) d] = some (.p (.tup [I 0, I (unlE (decide ((d.inputs.length : Int) + d.elements.length ≤ 40)) 8)]), [Y7 (1 :: π) d]) := by
 have h1 := hd.inputs
 have h2 := hd.elements
 have hw : IntKind.i64.wrap ((d.inputs.length : Int) + d.elements.length) = (d.inputs.length : Int) + d.elements.length := w64 ⟨by omega, by omega⟩
 simp [e_ds_CkD_3, Z0, Zat, W5, hw, evRO, Z4]
theorem e_cd6 (d : Des) : EE (35 :: π) Z2o [.ref (1 :: π) 0] [Y7 (1 :: π) d] = some (.p (.tup [I 0, I (unlE (decide ((d.rules.length : Int) ≤ 16)) 8)]), [Y7 (1 :: π) d]) := by
 simp [e_ds_CkD_6, Z0, Zaq, W5, evRO, Z4]
theorem e_cd8 (d : Des) : EE (35 :: π) Z2m [.ref (1 :: π) 0] [Y7 (1 :: π) d] = some (.p (.tup [I 0, I (unlE (decide ((d.outputs.length : Int) ≤ 12)) 8)]), [Y7 (1 :: π) d]) := by
 simp [e_ds_CkD_8, Z0, Zao, W5, evRO, Z4]
theorem e_cd10 (d : Des) : EE (35 :: π) Fz [.ref (1 :: π) 0] [Y7 (1 :: π) d] = some (.p (.tup [I 0, I (unlE (decide ((d.attrs.length : Int) ≤ 16)) 8)]), [Y7 (1 :: π) d]) := by
 simp [e_ds_CkD_10, Z0, Z81, W5, evRO, Z4]
theorem e_cd5 (d : Des) (hd : DesOk d) : EE (35 :: π) Z2p [.ref (1 :: π) 0] [Y7 (1 :: π) d] = some (.p (.tup [I (X8 (dlv d) d.nodes).1, I (X8 (dlv d) d.nodes).2]), [Y7 (1 :: π) d]) := by
 have hl := fun π => e_leavesD (π := π) d hd.inputs hd.elements
 have hc := fun π => Zbn (π := π) (dlv d) d.nodes hd.args
 unfold Z5 at hl
 generalize dlv d = L at *
 generalize X8 L d.nodes = R at *
 simp [e_ds_CkD_5, Z0, Zar, evRO, Z4, hl, hc]
theorem e_cd11 (d : Des) (hd : DesOk d) : EE (35 :: π) Fy [.ref (1 :: π) 0] [Y7 (1 :: π) d] = some (.p (.tup [I (eachE (fun _ a => atbE d.rules.length a) 0 d.attrs).1, I (eachE (fun _ a => atbE d.rules.length a) 0 d.attrs).2]), [Y7 (1 :: π) d]) := by
 have hea := fun π => e_eachA (π := π) d.attrs (by have := hd.attrs; simp only [top63]; omega) (f := Lo) (caps := [.ptr (Xy d)]) (err := fun _ a => atbE d.rules.length a) (fun i x hx => by simpa using e_cd11_1 _ d x hd.rules (hd.atR x (List.mem_of_getElem? hx)))
 generalize eachE (fun _ a => atbE d.rules.length a) 0 d.attrs = R at *
 simp [e_ds_CkD_11, Z0, Z80, evRO, Z4, hea]
theorem e_cd2 (d : Des) (hd : DesOk d) : EE (35 :: π) Z2s [.ref (1 :: π) 0, .ref (4 :: π) 0, .ref (5 :: π) 0] (stK2 π [] ++ [Y7 (1 :: π) d]) = some (.p (.tup [I (eachK prtE (fun p => p.name) [] 0 d.inputs).1, I (eachK prtE (fun p => p.name) [] 0 d.inputs).2]), stK2 π (endK prtE (fun p => p.name) [] d.inputs) ++ [Y7 (1 :: π) d]) := by
 have hlp := Zg3 (π := π) d.inputs (by have := hd.inputs; simp only [top63]; omega) hd.inN d.inputs [] []
 have hz := Z57 prtE (fun p : Prt => p.name) [] 0 d.inputs
 have hea : EE (8 :: 35 :: π) Uy [.p (Xn d.inputs), .fn My [.ref (4 :: π) 0, .ref (5 :: π) 0]] (stK2 π []) = some (.p (.tup [I (eachK prtE (fun p => p.name) [] 0 d.inputs).1, I (eachK prtE (fun p => p.name) [] 0 d.inputs).2]), stK2 π (endK prtE (fun p => p.name) [] d.inputs)) := by
  simp [Z9d, Z0, Kd]
  rw [hlp _ (by simp) rfl (by simp)]
  by_cases hf : (eachK prtE (fun p : Prt => p.name) [] 0 d.inputs).2 = 0
  ·simp [hf, hz hf]
  ·simp [hf]
 generalize eachK prtE (fun p => p.name) [] 0 d.inputs = R at *
 generalize entN (endK prtE (fun p => p.name) [] d.inputs) = M' at *
 simp [e_ds_CkD_2, Z0, Zau, hea]
end Go.Proofs.YteecfnfjlclhdaaGreat.V
