/- A copy of a temporary may be done first, whatever order is drawn. A region whose order is drawn. Loops that end in so many rounds. Code, functions, and calls in so many steps. -/
import Derived.Test.YteecfnfjlclhdaaGreatK3

set_option linter.unusedSimpArgs false
set_option linter.unusedVariables false

/- A copy of a temporary may be done first, whatever order is drawn. -/
namespace Go.Proofs.YteecfnfjlclhdaaGreat.V
open Go Go.RowKit
section
variable {P : Program}
theorem mapL_eq {ρ ρ' : Operand → Value} {u : List Opd} (h : ∀ x y, mopd x y = true → y ∈ u → ρ x = ρ' x) : ∀ (xs : List Operand) (ys : List Opd), mopdL xs ys = true → (∀ y ∈ ys, y ∈ u) → xs.map ρ = xs.map ρ'
 | [], _, _, _ => rfl
 | x :: xs, y :: ys, hm, hu => by
  simp only [mopdL, Bool.and_eq_true] at hm
  rw [List.map_cons, List.map_cons, h x y hm.1 (hu y List.mem_cons_self), mapL_eq h xs ys hm.2 fun z hz => hu z (List.mem_cons_of_mem _ hz)]
 | _ :: _, [], hm, _ => by simp [mopdL] at hm
theorem mapA_eq {ρ ρ' : Operand → Value} {u : List Opd} (h : ∀ x y, mopd x y = true → y ∈ u → ρ x = ρ' x) {xs : Array Operand} {ys : List Opd} (hm : mopdL xs.toList ys = true) (hu : ∀ y ∈ ys, y ∈ u) : xs.map ρ = xs.map ρ' := by
 apply Array.ext'
 rw [Array.toList_map, Array.toList_map]
 exact mapL_eq h xs.toList ys hm hu
theorem mapP_eq {ρ ρ' : Operand → Value} {u : List Opd} (h : ∀ x y, mopd x y = true → y ∈ u → ρ x = ρ' x) {pl : Nat → Option (Nat × Nat)} : ∀ (xs : List (Nat × Operand)) (ys : List (Nat × Nat × Opd)), Z8q pl xs ys = true → (∀ y ∈ ys, y.2.2 ∈ u) → xs.map (fun x => (x.1, ρ x.2)) = xs.map fun x => (x.1, ρ' x.2)
 | [], _, _, _ => rfl
 | (i, x) :: xs, (o, z, y) :: ys, hm, hu => by
  simp only [Z8q, Bool.and_eq_true] at hm
  simp only [List.map_cons]
  rw [h x y hm.1.2 (hu _ List.mem_cons_self), mapP_eq h xs ys hm.2 fun z hz => hu z (List.mem_cons_of_mem _ hz)]
 | _ :: _, [], hm, _ => by simp [Z8q] at hm
theorem mapS_eq {ρ ρ' : Operand → Value} {u : List Opd} (h : ∀ x y, mopd x y = true → y ∈ u → ρ x = ρ' x) : ∀ (xs : List (Nat × Operand)) (ys : List (Nat × Opd)), Ur xs ys = true → (∀ y ∈ ys, y.2 ∈ u) → xs.map (fun x => (x.1, ρ x.2)) = xs.map fun x => (x.1, ρ' x.2)
 | [], _, _, _ => rfl
 | (i, x) :: xs, (o, y) :: ys, hm, hu => by
  simp only [Ur, Bool.and_eq_true] at hm
  simp only [List.map_cons]
  rw [h x y hm.1.2 (hu _ List.mem_cons_self), mapS_eq h xs ys hm.2 fun z hz => hu z (List.mem_cons_of_mem _ hz)]
 | _ :: _, [], hm, _ => by simp [Ur] at hm
theorem optO_eq {ρ ρ' : Operand → Value} {u : List Opd} (h : ∀ x y, mopd x y = true → y ∈ u → ρ x = ρ' x) {x : Option Operand} {y : Option Opd} (hm : mopdO x y = true) (hu : ∀ z, y = some z → z ∈ u) : x.map ρ = x.map ρ' := by
 cases x with
 | none => rfl
 | some x => cases y with
  | none => simp [mopdO] at hm
  | some y => simp only [mopdO] at hm; simp only [Option.map_some]; rw [h x y hm (hu y rfl)]
theorem arr1 {α : Type} {a : Array α} {x : α} (h : a.toList = [x]) : a = #[x] := by cases a; simp_all
theorem arr2 {α : Type} {a : Array α} {x y : α} (h : a.toList = [x, y]) : a = #[x, y] := by cases a; simp_all
theorem op_eq {o : Oper} {iop : IOp} (hm : mop P o.op iop = true) (hb : iop ≠ .bad) {ρ ρ' : Operand → Value} (h : ∀ x y, mopd x y = true → y ∈ iop.opds → ρ x = ρ' x) (hc : ∀ v, ρ (.const v) = ρ' (.const v)) : execOp ρ o = execOp ρ' o := by
 obtain ⟨dst, op, type, pos, after, guard⟩ := o
 simp only at hm
 cases iop with
 | bad => exact absurd rfl hb
 | mv x => simp only [mop] at hm; split at hm <;> first | (cases hm; done) | (rename_i y; simp only [execOp]; rw [h _ _ hm (by simp [IOp.opds])])
 | pick c a b =>
  simp only [mop] at hm; split at hm <;> first | (cases hm; done) | skip
  simp only [Bool.and_eq_true] at hm
  simp only [execOp]; rw [h _ _ hm.1.1 (by simp [IOp.opds]), h _ _ hm.1.2 (by simp [IOp.opds]), h _ _ hm.2 (by simp [IOp.opds])]
 | bin b x y =>
  simp only [mop] at hm; split at hm <;> first | (cases hm; done) | skip
  simp only [Bool.and_eq_true] at hm
  simp only [execOp]; rw [h _ _ hm.1.2 (by simp [IOp.opds]), h _ _ hm.2 (by simp [IOp.opds])]
 | beq n x y =>
  simp only [mop] at hm; split at hm <;> first | (cases hm; done) | skip
  simp only [Bool.and_eq_true] at hm
  simp only [execOp]; rw [h _ _ hm.1.2 (by simp [IOp.opds]), h _ _ hm.2 (by simp [IOp.opds])]
 | aeq n k x y => simp [mop] at hm
 | isnil sl n x =>
  simp only [mop] at hm; split at hm <;> first | (cases hm; done) | skip
  rename_i op' t x' y' yt
  simp only [Bool.and_eq_true] at hm
  have hy : ρ y' = ρ' y' := by
   have := hm.2.2
   split at this <;> first | exact hc _ | (cases this; done)
  simp only [execOp]; rw [h _ _ hm.2.1 (by simp [IOp.opds]), hy]
 | un b x =>
  simp only [mop] at hm; split at hm <;> first | (cases hm; done) | skip
  simp only [Bool.and_eq_true] at hm
  simp only [execOp]; rw [h _ _ hm.2 (by simp [IOp.opds])]
 | conv k x =>
  simp only [mop] at hm; split at hm <;> first | (cases hm; done) | skip
  simp only [Bool.and_eq_true] at hm
  simp only [execOp]; rw [h _ _ hm.2 (by simp [IOp.opds])]
 | s2b x => simp [mop] at hm
 | ext x i =>
  simp only [mop] at hm; split at hm <;> first | (cases hm; done) | skip
  simp only [Bool.and_eq_true] at hm
  simp only [execOp]; rw [h _ _ hm.2 (by simp [IOp.opds])]
 | fld x o z g =>
  simp only [mop] at hm; split at hm <;> first | (cases hm; done) | skip
  simp only [Bool.and_eq_true] at hm
  simp only [execOp]; rw [h _ _ hm.2 (by simp [IOp.opds])]
 | fa x o =>
  simp only [mop] at hm; split at hm <;> first | (cases hm; done) | skip
  simp only [Bool.and_eq_true] at hm
  simp only [execOp]; rw [h _ _ hm.2 (by simp [IOp.opds])]
 | ia x i z =>
  simp only [mop] at hm; split at hm <;> first | (cases hm; done) | skip
  simp only [Bool.and_eq_true] at hm
  simp only [execOp]; rw [h _ _ hm.1.2 (by simp [IOp.opds]), h _ _ hm.2 (by simp [IOp.opds])]
 | iaa x i n z =>
  simp only [mop] at hm; split at hm <;> first | (cases hm; done) | skip
  simp only [Bool.and_eq_true] at hm
  simp only [execOp]; rw [h _ _ hm.1.2 (by simp [IOp.opds]), h _ _ hm.2 (by simp [IOp.opds])]
 | idx x i =>
  simp only [mop] at hm; split at hm <;> first | (cases hm; done) | skip
  simp only [Bool.and_eq_true] at hm
  simp only [execOp]; rw [h _ _ hm.1.2 (by simp [IOp.opds]), h _ _ hm.2 (by simp [IOp.opds])]
 | xag x i n =>
  simp only [mop] at hm; split at hm <;> first | (cases hm; done) | skip
  simp only [Bool.and_eq_true] at hm
  simp only [execOp]; rw [h _ _ hm.1.2 (by simp [IOp.opds]), h _ _ hm.2 (by simp [IOp.opds])]
 | alt n => simp only [mop] at hm; split at hm <;> first | (cases hm; done) | rfl
 | ld x z g =>
  simp only [mop] at hm; split at hm <;> first | (cases hm; done) | skip
  simp only [Bool.and_eq_true] at hm
  simp only [execOp]; rw [h _ _ hm.2 (by simp [IOp.opds])]
 | st x v z =>
  simp only [mop] at hm; split at hm <;> first | (cases hm; done) | skip
  simp only [Bool.and_eq_true] at hm
  simp only [execOp]; rw [h _ _ hm.1.2 (by simp [IOp.opds]), h _ _ hm.2 (by simp [IOp.opds])]
 | alloc z => simp only [mop] at hm; split at hm <;> first | (cases hm; done) | rfl
 | box x z =>
  simp only [mop] at hm; split at hm <;> first | (cases hm; done) | skip
  simp only [Bool.and_eq_true] at hm
  simp only [execOp]; rw [h _ _ hm.2 (by simp [IOp.opds])]
 | build z ps =>
  simp only [mop] at hm; split at hm <;> first | (cases hm; done) | skip
  rename_i t qs
  split at hm <;> first | (cases hm; done) | skip
  simp only [Bool.and_eq_true] at hm
  have := mapP_eq h qs.toList ps hm.2 fun y hy => by simp only [IOp.opds]; exact List.mem_map.2 ⟨y, hy, rfl⟩
  have e : qs.map (fun x => (x.1, ρ x.2)) = qs.map fun x => (x.1, ρ' x.2) := by apply Array.ext'; rw [Array.toList_map, Array.toList_map]; exact this
  simp only [execOp]
  rw [e]
 | bsl T z g zz n ps =>
  simp only [mop] at hm; split at hm <;> first | (cases hm; done) | skip
  rename_i t n' qs
  simp only [Bool.and_eq_true] at hm
  have := mapS_eq h qs.toList ps hm.2 fun y hy => by simp only [IOp.opds]; exact List.mem_map.2 ⟨y, hy, rfl⟩
  have e : qs.map (fun x => (x.1, ρ x.2)) = qs.map fun x => (x.1, ρ' x.2) := by apply Array.ext'; rw [Array.toList_map, Array.toList_map]; exact this
  simp only [execOp]
  rw [e]
 | bsp T z g zz n ps =>
  simp only [mop] at hm; split at hm <;> first | (cases hm; done) | skip
  rename_i t n' qs
  simp only [Bool.and_eq_true] at hm
  have := mapS_eq h qs.toList ps hm.2 fun y hy => by simp only [IOp.opds]; exact List.mem_map.2 ⟨y, hy, rfl⟩
  have e : qs.map (fun x => (x.1, ρ x.2)) = qs.map fun x => (x.1, ρ' x.2) := by apply Array.ext'; rw [Array.toList_map, Array.toList_map]; exact this
  simp only [execOp]
  rw [e]
 | mks T z g zz n c =>
  simp only [mop] at hm; split at hm <;> first | (cases hm; done) | skip
  simp only [Bool.and_eq_true] at hm
  simp only [execOp]; rw [h _ _ hm.1.2 (by simp [IOp.opds]), h _ _ hm.2 (by simp [IOp.opds])]
 | mkf f l =>
  simp only [mop] at hm; split at hm <;> first | (cases hm; done) | skip
  rename_i fn first cs
  simp only [Bool.and_eq_true] at hm
  have hf : first = #[] := by simpa using hm.1.2
  subst hf
  simp only [execOp]; rw [mapA_eq h hm.2 (by simp [IOp.opds])]
  simp
 | nck x =>
  simp only [mop] at hm; split at hm <;> first | (cases hm; done) | skip
  simp only [execOp]; rw [h _ _ hm (by simp [IOp.opds])]
 | mkm f x => simp [mop] at hm
 | slc t x lo hi z =>
  simp only [mop] at hm; split at hm <;> first | (cases hm; done) | skip
  rename_i t' x' lo' hi' mx
  simp only [Bool.and_eq_true] at hm
  obtain ⟨⟨⟨⟨_, hmx⟩, hx⟩, hlo⟩, hhi⟩ := hm
  have : mx = none := by simpa using hmx
  subst this
  simp only [execOp]; rw [h _ _ hx (by simp [IOp.opds]), optO_eq h hlo (fun z hz => by simp [IOp.opds, hz]), optO_eq h hhi (fun z hz => by simp [IOp.opds, hz])]
  rfl
 | prt x lo hi z => simp [mop] at hm
 | slf x lo hi m z => simp [mop] at hm
 | len st x =>
  simp only [mop] at hm; split at hm <;> first | (cases hm; done) | skip
  rename_i c
  split at hm <;> first | (cases hm; done) | skip
  rename_i t x' h1 h2 h3
  simp only [Bool.and_eq_true] at hm
  obtain ⟨cal, args, ats⟩ := c
  simp only at h1 h2 h3
  subst h1
  have := arr1 h3
  subst this
  simp only [execOp, resolve, List.map_toArray, List.map_cons, List.map_nil]; rw [h _ _ hm.2 (by simp [IOp.opds])]
 | mm b x y =>
  simp only [mop] at hm; split at hm <;> first | (cases hm; done) | skip
  rename_i c
  split at hm <;> first | (cases hm; done) | skip
  rename_i t x' y' h1 h3
  simp only [Bool.and_eq_true] at hm
  obtain ⟨cal, args, ats⟩ := c
  simp only at h1 h3
  subst h1
  have := arr2 h3
  subst this
  simp only [execOp, resolve, List.map_toArray, List.map_cons, List.map_nil]; rw [h _ _ hm.1.2 (by simp [IOp.opds]), h _ _ hm.2 (by simp [IOp.opds])]
 | app x y T z =>
  simp only [mop] at hm; split at hm <;> first | (cases hm; done) | skip
  rename_i c
  split at hm <;> first | (cases hm; done) | skip
  rename_i t t' x' y' h1 h2 h3
  simp only [Bool.and_eq_true] at hm
  obtain ⟨cal, args, ats⟩ := c
  simp only at h1 h2 h3
  subst h1
  have := arr2 h3
  subst this
  simp only [execOp, resolve, List.map_toArray, List.map_cons, List.map_nil]; rw [h _ _ hm.1.2 (by simp [IOp.opds]), h _ _ hm.2 (by simp [IOp.opds])]
 | apx x y T z anc =>
  simp only [mop] at hm; split at hm <;> first | (cases hm; done) | skip
  rename_i c
  split at hm <;> first | (cases hm; done) | skip
  rename_i t t' x' y' h1 h2 h3
  simp only [Bool.and_eq_true] at hm
  obtain ⟨cal, args, ats⟩ := c
  simp only at h1 h2 h3
  subst h1
  have := arr2 h3
  subst this
  simp only [execOp, resolve, List.map_toArray, List.map_cons, List.map_nil]; rw [h _ _ hm.1.2 (by simp [IOp.opds]), h _ _ hm.2 (by simp [IOp.opds])]
 | apn x y T z => simp [mop] at hm
 | cpy x y z => simp [mop] at hm
 | shf x lo z =>
  simp only [mop] at hm; split at hm <;> first | (cases hm; done) | skip
  rename_i t' x' lo' hi' mx
  simp only [Bool.and_eq_true] at hm
  obtain ⟨⟨⟨⟨_, hmx⟩, hx⟩, hlo⟩, hhi⟩ := hm
  have : mx = none := by simpa using hmx
  subst this
  have : hi' = none := by simpa using hhi
  subst this
  simp only [execOp]; rw [h _ _ hx (by simp [IOp.opds]), optO_eq h hlo (fun z hz => by simp at hz; simp [IOp.opds, hz])]
  rfl
 | clr x T z g zz => simp [mop] at hm
 | mkp =>
  simp only [mop] at hm; split at hm <;> first | (cases hm; done) | skip
  rename_i t r
  have : r = none := by simpa using hm
  subst this
  rfl
 | lkp m k z zero ok =>
  simp only [mop] at hm; split at hm <;> first | (cases hm; done) | skip
  simp only [Bool.and_eq_true] at hm
  simp only [execOp]; rw [h _ _ hm.1.2 (by simp [IOp.opds]), h _ _ hm.2 (by simp [IOp.opds])]
 | mpu m k v z =>
  simp only [mop] at hm; split at hm <;> first | (cases hm; done) | skip
  simp only [Bool.and_eq_true] at hm
  simp only [execOp]; rw [h _ _ hm.1.1.2 (by simp [IOp.opds]), h _ _ hm.1.2 (by simp [IOp.opds]), h _ _ hm.2 (by simp [IOp.opds])]
 | mkc f g x => simp [mop] at hm
 | mvl x => simp [mop] at hm
 | slb x n => simp [mop] at hm
 | cpb x y => simp [mop] at hm
 | callV rd f l =>
  simp only [mop] at hm; split at hm <;> first | (cases hm; done) | skip
  rename_i c
  split at hm <;> first | (cases hm; done) | skip
  rename_i f' h1
  simp only [Bool.and_eq_true] at hm
  obtain ⟨cal, args, ats⟩ := c
  simp only at h1 hm
  subst h1
  simp only [execOp, resolve]; rw [h _ _ hm.1 (by simp [IOp.opds]), mapA_eq h hm.2 (fun y hy => by simp [IOp.opds, hy])]
 | callS f l =>
  simp only [mop] at hm; split at hm <;> first | (cases hm; done) | skip
  rename_i c
  split at hm <;> first | (cases hm; done) | skip
  rename_i f' h1
  simp only [Bool.and_eq_true] at hm
  obtain ⟨cal, args, ats⟩ := c
  simp only at h1 hm
  subst h1
  simp only [execOp, resolve]; rw [h _ _ hm.1 (by simp [IOp.opds]), mapA_eq h hm.2 (fun y hy => by simp [IOp.opds, hy])]
 | callB f l => simp [mop] at hm
theorem put_comm {a : Act} {d : Nat} {q : Option Nat} {u v : Value} (h : q ≠ some d) : (a.put q u).put (some d) v = (a.put (some d) v).put q u := by
 cases q with
 | none => rfl
 | some q =>
  have : q ≠ d := fun he => h (by rw [he])
  simp only [Act.put]
  rw [Array.setIfInBounds_comm _ _ this]
theorem opIn_early {F : Fence} {kk : Nat} {ops : Array Oper} {j : Nat} {o : Oper} {io : Ins} {nt d : Nat} {vd : Value} {a : Act} {w : World} {Q : Exit → Act → World → Prop} {K K' : Act → World → Prop} (hF : ∀ f, F.fn f) (ho : ops[j]? = some o) (hm : mio P nt ops o io = true) (hb : io.op ≠ .bad) (hu : d ∉ io.uses)
  (hQ : ∀ e a w, Q e a w → e = .normal) (h : wpOpIn F kk P ops Q j K' (a.put (some d) vd) w) (hK : ∀ ds v w', K' (({ a with defers := ds }.put (some d) vd).put o.dst v) w' → K ({ a with defers := ds }.put o.dst v) w') : wpOpIn F kk P ops Q j K a w := by
 simp only [mio, Bool.and_eq_true, beq_iff_eq] at hm
 obtain ⟨⟨⟨hd, _⟩, hmop⟩, hg⟩ := hm
 have tm : ∀ t, t ≠ d → (a.put (some d) vd).tmps[t]? = a.tmps[t]? := fun t ht => by simp only [Act.put]; rw [Array.getElem?_setIfInBounds_ne (Ne.symm ht)]
 have hev : ∀ x y, mopd x y = true → y ∈ io.op.opds → a.eval x = (a.put (some d) vd).eval x := by
  intro x y hxy hy
  cases x with
  | tmp t =>
   cases y with
   | c v => simp [mopd] at hxy
   | t i =>
    have : t = i := by simpa [mopd] using hxy
    subst this
    have ht : t ≠ d := fun he => hu (by
     subst he
     unfold Ins.uses
     exact List.mem_append.2 (.inl (List.mem_filterMap.2 ⟨.t t, hy, rfl⟩)))
    simp only [Act.eval]
    rw [Array.getD_eq_getD_getElem?, Array.getD_eq_getD_getElem?, tm t ht]
  | _ => rfl
 have hop : execOp (a.put (some d) vd).eval o = execOp a.eval o := (op_eq hmop hb hev (fun _ => rfl)).symm
 have hsem : ∀ ro, o.semAt ro (a.put (some d) vd).eval = o.semAt ro a.eval := fun ro => by
  have nd : ∀ c, o.op ≠ .defer c := fun c hc => by
   rw [hc] at hmop
   cases hio : io.op <;> rw [hio] at hmop <;> simp [mop] at hmop
  rw [Oper.semAt_eq _ _ _ nd, Oper.semAt_eq _ _ _ nd, hop]
 have hw : Region.wanted o (yielded ops (a.put (some d) vd).tmps) = Region.wanted o (yielded ops a.tmps) := by
  unfold Region.wanted
  cases hgo : o.guard with
  | none => rfl
  | some q =>
   obtain ⟨g, want⟩ := q
   simp only
   rw [hgo] at hg
   cases hig : io.g with
   | none => rw [hig] at hg; simp [gdOk] at hg
   | some r =>
    obtain ⟨t, want'⟩ := r
    rw [hig] at hg
    simp only [gdOk, Bool.and_eq_true, beq_iff_eq] at hg
    have ht : t ≠ d := fun he => hu (by
     subst he
     unfold Ins.uses
     rw [hig]
     exact List.mem_append.2 (.inr List.mem_cons_self))
    unfold yielded
    rw [hg.1]
    simp only [Option.bind_some]
    rw [tm t ht]
 unfold wpOpIn at h ⊢
 simp only [ho] at h ⊢
 rw [hw] at h
 split at h
 ·rename_i hwt
  rw [if_pos hwt]
  obtain ⟨_, h⟩ := h
  refine ⟨fun f _ => hF f, ?_⟩
  rw [hsem] at h
  generalize (o.semAt F.round a.eval).run P w = r at h
  cases r with
  | ok x w' =>
   cases x with
   | value v => exact hK a.defers v w' h
   | skip => exact hK a.defers undef w' h
   | defer dd => exact hK (dd :: a.defers) undef w' h
   | enter f args =>
    rw [Oper.uponIn_enter] at h ⊢
    refine ⟨h.1, h.2.mono fun en w2 hx => ?_⟩
    cases en with
    | returned v => exact hK a.defers v w2 hx
    | panicked ch => have := hQ _ _ _ hx; cases this
    | outgrown => exact hx
   | row row args =>
    rw [Oper.uponIn_row] at h ⊢
    exact ⟨h.1, RowsIn.mono h.2 fun v w2 hx => hK a.defers v w2 hx⟩
   | round l f tmps as bd =>
    rw [Oper.uponIn_round] at h ⊢
    refine ⟨h.1, RoundIn.mono h.2 fun en w2 hx => ?_⟩
    cases en with
    | returned v => exact hK a.defers v w2 hx
    | panicked ch => have := hQ _ _ _ hx; cases this
    | outgrown => exact hx
   | _ => exact h
  | halt s w' =>
   cases s with
   | panic v => have := hQ _ _ _ h; cases this
   | _ => exact h
 ·rename_i hwt
  rw [if_neg hwt]
  exact ⟨fun f _ => hF f, hK a.defers undef w h.2⟩
theorem early {F : Fence} {kk nt n : Nat} {ops : Array Oper} {l : List Ins} {B : Nat → Nat} {Q : Exit → Act → World → Prop} {i : Nat} (hF : ∀ f, F.fn f) (hDr : DrawOk P ops l n B) (hlen : ops.size = l.length) (hm : ∀ (i : Nat) o io, ops[i]? = some o → l[i]? = some io → mio P nt ops o io = true) (hin : Inert ops l n B i)
  (hQ : ∀ e a w, Q e a w → e = .normal) : ∀ (fuel : Nat) (listed : Array Bool) (a : Act) (w : World), listed.size = ops.size → Zba ops listed → listed.getD i false = false →
   wpOpIn F kk P ops Q i (wpAnyIn F kk P .any ops Q fuel (listed.setIfInBounds i true)) a w → wpAnyIn F kk P .any ops Q (fuel + 1) listed a w := by
 obtain ⟨d, x, o, hl, ho, hn, hedge, hoth⟩ := hin
 have hlt : i < ops.size := (Array.getElem?_eq_some_iff.1 ho).1
 have hmi := hm i o _ ho hl
 have hmi' := hmi
 simp only [mio, Bool.and_eq_true, beq_iff_eq] at hmi'
 obtain ⟨⟨⟨hd, _⟩, hmop⟩, hg⟩ := hmi'
 obtain ⟨xo, hxo, hexec⟩ : ∃ xo, mopd xo x = true ∧ ∀ ρ, execOp ρ o = pure (.value (ρ xo)) := by
  obtain ⟨dst, op, type, pos, after, guard⟩ := o
  simp only [mop] at hmop
  split at hmop
  ·rename_i y; exact ⟨y, hmop, fun ρ => rfl⟩
  ·rename_i y; exact ⟨y, hmop, fun ρ => rfl⟩
  ·cases hmop
 have hgn : o.guard = none := by
  cases hgo : o.guard with
  | none => rfl
  | some q => rw [hgo] at hg; simp [gdOk] at hg
 have nd : ∀ c, o.op ≠ .defer c := fun c hc => by rw [hc] at hmop; simp [mop] at hmop
 have hstep : ∀ (K : Act → World → Prop) (a : Act) (w : World), wpOpIn F kk P ops Q i K a w ↔ K (a.put (some d) (a.eval xo)) w := by
  intro K a w
  have hw : Region.wanted o (yielded ops a.tmps) = true := by unfold Region.wanted; rw [hgn]
  have hr : (o.semAt F.round a.eval).run P w = .ok (.value (a.eval xo)) w := by rw [Oper.semAt_eq _ _ _ nd, hexec]; rfl
  unfold wpOpIn
  simp only [ho, hw, if_true]
  unfold Oper.wpIn
  rw [hr, Oper.uponIn_value, hd]
  exact ⟨fun h => h.2, fun h => ⟨fun f _ => hF f, h⟩⟩
 have hmem : ∀ listed : Array Bool, listed.size = ops.size → listed.getD i false = false → i ∈ Region.ready .any ops listed := fun listed hsz hun =>
  mem_ready.2 ⟨getD_in (by omega) hun, o, ho, fun e he hb => by rw [hedge e he] at hb; cases hb⟩
 have ready2 : ∀ (listed : Array Bool) (j : Nat), j ≠ i → j ∈ Region.ready .any ops listed → j ∈ Region.ready .any ops (listed.setIfInBounds i true) := by
  intro listed j hj hjr
  obtain ⟨h1, o', h2, h3⟩ := mem_ready.1 hjr
  refine mem_ready.2 ⟨?_, o', h2, fun e he hb => getD_set_true (h3 e he hb)⟩
  rw [getD_set_ne true (Ne.symm hj)]
  exact h1
 intro fuel
 induction fuel with
 | zero =>
  intro listed a w hsz hcl hun h
  rw [hstep] at h
  refine ⟨fun hr => ?_, fun j hj => ?_⟩
  ·have := hmem listed hsz hun
   rw [hr] at this; cases this
  ·by_cases hji : j = i
   ·subst hji
    rw [hstep]; exact h
   ·have := ready2 listed j hji hj
    rw [h.1] at this; cases this
 | succ fuel ih =>
  intro listed a w hsz hcl hun h
  rw [hstep] at h
  refine ⟨fun hr => ?_, fun j hj => ?_⟩
  ·have := hmem listed hsz hun
   rw [hr] at this; cases this
  ·by_cases hji : j = i
   ·subst hji
    rw [hstep]; exact h
   ·obtain ⟨hu, oj, hoj, hall⟩ := mem_ready.1 hj
    have hjlt : j < ops.size := (Array.getElem?_eq_some_iff.1 hoj).1
    obtain ⟨ioj, hioj⟩ : ∃ io, l[j]? = some io := ⟨l[j]'(by omega), List.getElem?_eq_getElem (by omega)⟩
    obtain ⟨p1, p2, p3, p4⟩ := hoth j ioj hji hioj
    have hmj := hm j oj ioj hoj hioj
    have hdj : oj.dst = ioj.d := by
     have := hmj
     simp only [mio, Bool.and_eq_true, beq_iff_eq] at this
     exact this.1.1.1
    have hnu : d ∉ ioj.uses := fun hmem => by
     have := Z0o hDr hcl j oj hoj hall i (p1 hmem)
     rw [hun] at this; cases this
    have hev : ∀ (a : Act) (u : Value), (a.put oj.dst u).eval xo = a.eval xo := fun a u => by
     cases xo with
     | tmp t =>
      cases x with
      | c v => simp [mopd] at hxo
      | t k =>
       have : t = k := by simpa [mopd] using hxo
       subst this
       have hne : ioj.d ≠ some t := fun he => by
        have := Z0o hDr hcl j oj hoj hall i ((p3 t rfl).1 he)
        rw [hun] at this; cases this
       rw [hdj]
       cases hq : ioj.d with
       | none => rfl
       | some q =>
        have : q ≠ t := fun he => hne (by rw [hq, he])
        simp only [Act.eval, Act.put]
        rw [Array.getD_eq_getD_getElem?, Array.getD_eq_getD_getElem?, Array.getElem?_setIfInBounds_ne this]
     | _ => rfl
    refine opIn_early hF hoj hmj p4 hnu hQ (h.2 j (ready2 listed j hji hj)) fun ds v w' hk => ?_
    refine ih (listed.setIfInBounds j true) _ w' (by simp [hsz]) ?_ ?_ ?_
    ·intro k ok hok hlk e he hb
     by_cases hkj : k = j
     ·subst hkj
      have : ok = oj := Option.some.inj (hok.symm.trans hoj)
      subst this
      exact getD_set_true (hall e he hb)
     ·rw [getD_set_ne false (Ne.symm hkj)] at hlk
      exact getD_set_true (hcl k ok hok hlk e he hb)
    ·rw [getD_set_ne false hji]; exact hun
    ·rw [hstep, hev, put_comm (by rw [hdj]; exact p2)]
     rw [Array.setIfInBounds_comm _ _ (Ne.symm hji)] at hk
     exact hk
end
section
variable {P : Program} {C : Call} {π : Id} {γ γ' : Hand} {w w' : World} {X X' : Own} {s : Sto} {e : Env} {a : Act}
abbrev Wr := Option (Id × Blk × Blk)
def updW : Wr → Sto → Sto
 | none, s => s
 | some x, s => (if x.2.1.isBox = true then s else s.kill x.1).put x.1 x.2.2
def Ap (wr : Wr) (id : Id) : Prop := ∃ x, wr = some x ∧ x.2.1.isBox = false ∧ x.1 = id
structure StepG (P : Program) (ops : Array Oper) (nt : Nat) (io : Ins) (e : Env) (s : Sto) (e1 : Env) (av : AV) (news : Sto) (wr : Wr) (kr : Option (Id × Nat × AV)) : Prop where
 env : e1 = e.set io.d av
 sound : ∀ (ro : Option Nat) (kk : Nat) (K : Act → World → Prop) (Q : Exit → Act → World → Prop) (i : Nat) (o : Oper) (a : Act) (γ : Hand) (w : World) (X : Own) (sT : Sto), ops[i]? = some o → mio P nt ops o io = true → StoOk P γ w X sT →
  (∀ id b, s.lookup id = some b → sT.lookup id = some b) → (∀ t ∈ io.uses, ∀ av, e.lookup t = some av → ∃ v, a.tmps[t]? = some v ∧ RepA γ w X v av) →
  (∀ id b, news.lookup id = some b → γ id = none ∧ sT.lookup id = some b) → (∀ x, wr = some x → sT.lookup x.1 = some x.2.1 ∧ (γ x.1).isSome) → (∀ x, kr = some x → ∃ cs, sT.lookup x.1 = some (.box false cs) ∧ cs[x.2.1]? = some x.2.2) →
  (∀ v γ' w' X', Evo γ w X γ' w' X' → StoOk P γ' w' X' (updW wr sT) → (∀ id h, ¬ Ap wr id → γ id = some h → γ' id = some h) → (∀ id, (γ id).isSome → (γ' id).isSome) → (∀ id, (γ' id).isSome → (γ id).isSome ∨ ∃ b, news.lookup id = some b) →
   (∀ id b, news.lookup id = some b → (γ' id).isSome) → RepA γ' w' X' v av → (∀ id, Ap wr id → RepA γ' w' X' v (.ap id)) → K (a.put o.dst v) w') → wpOpIn (WR ro) kk P ops Q i K a w
theorem Fu {α : Type} {x : Option α} (h : x.isSome) : ∃ y, x = some y := Option.isSome_iff_exists.1 h
theorem StepA.g {ops : Array Oper} {nt : Nat} {io : Ins} {e1 : Env} {s1 : Sto} {av : AV} {news : Sto} (h : StepA P ops nt io e s e1 s1 av news) : StepG P ops nt io e s e1 av news none none :=
 ⟨h.env, fun ro kk K Q i o a γ w X sT k1 k2 k3 k4 k5 k6 _ _ k8 => h.sound ro kk K Q i o a γ w X sT k1 k2 k3 k4 k5 k6 fun v γ' w' X' j1 j2 j3 j4 j5 j6 =>
  k8 v γ' w' X' j1 j2 (fun id h _ hh => j3 id h hh) (fun id hs => by obtain ⟨y, hy⟩ := Fu hs; rw [j3 id y hy]; rfl)
   (fun id hs => by obtain ⟨y, hy⟩ := Fu hs; rcases j4 id y hy with h | h <;> first | exact .inl (by rw [h]; rfl) | exact .inr h) j5 j6 (fun id hid => by obtain ⟨x, hx, _⟩ := hid; cases hx)⟩
theorem StoOk.congr {s' : Sto} (h : ∀ id, γ id ≠ none → s'.lookup id = s.lookup id) (hs : StoOk P γ w X s) : StoOk P γ w X s' :=
 ⟨fun id v hv => by
  obtain ⟨b, hb, hk⟩ := hs.blk id v hv
  exact ⟨b, by rw [h id (by rw [hv]; simp)]; exact hb, hk⟩, hs.apart, hs.lt⟩
theorem stW_ok {ops : Array Oper} {nt : Nat} {io : Ins} {s0 : Sto} {p : List (Id × Blk)} {x : Id × Blk × Blk} (h : stW s0 p io e = some x) :
  StepG P ops nt io e s e (.p .und) [] (some x) none ∧ s0.lookup x.1 = some x.2.1 ∧ p.lookup x.1 = none ∧ x.2.1.isBox = true ∧ io.d = none := by
 obtain ⟨d, g, op⟩ := io
 unfold stW at h
 split at h
 case h_2 => cases h
 rename_i k v sz e1 e2 e3
 simp only at e1 e2 e3
 subst e1; subst e2; subst e3
 split at h
 case h_2 => cases h
 rename_i id off v' hk hv
 split at h
 case h_2 => cases h
 rename_i cs hl hpl
 split at h
 case isFalse => cases h
 rename_i hc
 obtain ⟨hc1, hc2, hc3⟩ := hc
 simp only [Option.some.injEq] at h
 subst h
 refine ⟨⟨rfl, fun ro kk K Q i o a γ w X sT ho hm hs sub hu hnew hwr _ hK => ?_⟩, hl, hpl, rfl, rfl⟩
 have hm' := hm
 simp only [mio, Bool.and_eq_true] at hm'
 have hw := Z2c (γ := γ) (w := w) (X := X) (a := a) (e := e) (g := true) hm'.2 rfl (fun t want ht => by cases ht)
 unfold wpOpIn
 simp only [ho, hw, if_true]
 obtain ⟨hsl, hsg⟩ := hwr _ rfl
 simp only at hsl hsg
 have lk : ∀ j, (sT.filter fun x => (γ x.1).isSome).lookup j = if (γ j).isSome then sT.lookup j else none := fun j => Yb (fun j => (γ j).isSome) j sT
 have hs' : StoOk P γ w X (sT.filter fun x => (γ x.1).isSome) := hs.congr fun j hj => by
  rw [lk]; rw [if_pos]
  exact Option.isSome_iff_ne_none.2 hj
 refine Zcz (Z8r hm'.1.2) (st_ref (x := .t k) (v := v) (e := e) hk hv (s := sT.filter fun x => (γ x.1).isSome) (by rw [lk, if_pos hsg]; exact hsl) hc1 hc2 (by simpa using hc3) hm'.1.2 hs' (fun j b hj => ?_) (fun y z av hy hmo hr => Zd0 (io := ⟨none, none, .st (.t k) v sz⟩) hu y z av (by simpa [IOp.opds] using hy) hmo hr) ?_)
 ·rw [lk] at hj
  split at hj
  ·assumption
  ·cases hj
 ·intro w' k1 k2
  refine hK undef γ w' X k1 (k2.congr fun j hj => ?_) (fun _ _ _ h => h) (fun _ h => h) (fun _ h => .inl h) (fun _ _ h => by cases h) (.p .und) (fun id hid => ?_)
  ·simp only [updW, Blk.isBox, if_true, Zd, lk]
   rw [if_pos (Option.isSome_iff_ne_none.2 hj)]
  ·obtain ⟨x, hx, hb, _⟩ := hid
   cases hx
   simp [Blk.isBox] at hb
theorem kill_self {id : Id} {b : Blk} (h : id ∉ b.ids) : b.kill id = b := by
 have one : ∀ (cs : List AV), id ∉ AV.ids.AV.idsL cs → ∀ c ∈ cs, c.kill id = c := by
  intro cs
  induction cs with
  | nil => intro _ c hc; cases hc
  | cons a r ih =>
   intro hn c hc
   simp only [AV.ids.AV.idsL, List.mem_append, not_or] at hn
   rcases List.mem_cons.1 hc with rfl | hc
   ·unfold AV.kill
    rw [if_neg]
    simpa using hn.1
   ·exact ih hn.2 c hc
 cases b with
 | box lent cs =>
  simp only [Blk.kill]
  rw [List.map_congr_left (one cs h), List.map_id']
 | row => rfl
 | frm π nt e ps a b st =>
  simp only [Blk.kill]
  congr 1
  have := one (e.map fun x : Nat × AV => x.2) (by simpa [Blk.ids] using h)
  refine (List.map_congr_left fun x hx => ?_).trans (List.map_id' e)
  rw [this x.2 (List.mem_map.2 ⟨x, hx, rfl⟩)]
 | mpb => rfl
theorem appW_ok {ops : Array Oper} {nt : Nat} {io : Ins} {s0 : Sto} {p : List (Id × Blk)} {x : Nat × List Nat × Id × Blk × Blk} (h : appW s0 s p io e = some x) :
  StepG P ops nt io e s (e.set io.d .top) .top [] (some x.2.2) none ∧ (match p.lookup x.2.2.1 with | some b => some b | none => s0.lookup x.2.2.1) = some x.2.2.2.1 ∧ x.2.2.2.1.isBox = false ∧ io.d = some x.1 ∧ ∃ a b T sz, io.op = .apx a b T sz x.2.1 := by
 obtain ⟨d, g, op⟩ := io
 unfold appW at h
 split at h
 case h_2 => cases h
 rename_i dd xx yy T sz anc e1 e2 e3
 simp only at e1 e2 e3
 subst e1; subst e2; subst e3
 split at h
 case h_2 => cases h
 rename_i id l2 hp hl2
 split at h
 case h_2 => cases h
 rename_i lent T' sz' nl l hl
 split at h
 case isFalse => cases h
 rename_i hc
 obtain ⟨rfl, rfl, hroom⟩ := hc
 simp only [Option.some.injEq] at h
 subst h
 refine ⟨⟨rfl, fun ro kk K Q i o a γ w X sT ho hm hs sub hu hnew hwr hcl hK => ?_⟩, hl, rfl, rfl, xx, yy, T', sz', rfl⟩
 have hm' := hm
 simp only [mio, Bool.and_eq_true] at hm'
 have hw := Z2c (γ := γ) (w := w) (X := X) (a := a) (e := e) (g := true) hm'.2 rfl (fun t want ht => by cases ht)
 unfold wpOpIn
 simp only [ho, hw, if_true]
 obtain ⟨hsl, hsg⟩ := hwr _ rfl
 simp only at hsl hsg
 have lk : ∀ j, (sT.filter fun x => (γ x.1).isSome).lookup j = if (γ j).isSome then sT.lookup j else none := fun j => Yb (fun j => (γ j).isSome) j sT
 have hs' : StoOk P γ w X (sT.filter fun x => (γ x.1).isSome) := hs.congr fun j hj => by
  rw [lk]; rw [if_pos]
  exact Option.isSome_iff_ne_none.2 hj
 have H : OpsOk γ w X a e [xx, yy] := fun y z av hy hmo hr => Zd0 (io := ⟨some dd, none, .apx xx yy T' sz' anc⟩) hu y z av (by simpa [IOp.opds] using hy) hmo hr
 have hmo : mop P o.op (.app xx yy T' sz') = true := hm'.1.2
 have hl2' : (evA.x' e true yy).bind (rowOf (sT.filter fun x => (γ x.1).isSome) sz') = some l2 := by
  rw [Option.bind_eq_some_iff] at hl2 ⊢
  obtain ⟨av, hav, hr⟩ := hl2
  refine ⟨av, hav, ?_⟩
  unfold rowOf at hr ⊢
  split at hr
  ·exact hr
  ·rename_i idy
   have hg : (γ idy).isSome = true := by
    have hm2 := hmo
    simp only [mop] at hm2
    split at hm2
    case h_2 => cases hm2
    split at hm2
    case h_2 => cases hm2
    rename_i t t' x' y' _ _ _
    simp only [Bool.and_eq_true] at hm2
    have := H.x' rfl hm2.2 hav (by simp)
    generalize a.eval y' = yv at this
    cases this with
    | ap _ _ h _ => rw [h]; rfl
    | ap0 _ _ h => rw [h]; rfl
   cases hs1 : s.lookup idy with
   | none => rw [hs1] at hr; cases hr
   | some b =>
    rw [hs1] at hr
    simp only [lk, hg, if_true, sub idy b hs1]
    exact hr
  ·cases hr
 refine Zcz (Z8r hm'.1.2) (Zfq (s := sT.filter fun x => (γ x.1).isSome) xx yy T' sz' hp (by rw [lk, if_pos hsg]; exact hsl) hl2' hroom hmo hs' (fun j b hj => ?_) H ?_)
 ·rw [lk] at hj
  split at hj
  ·assumption
  ·cases hj
 ·intro v γ' w' X' k1 k2 k3 k5 k6
  have hid : ∀ j, Ap (some (id, Blk.row lent T' sz' nl l, Blk.row lent T' sz' (bif l2.isEmpty then nl else some false) (l ++ l2))) j ↔ j = id := fun j => ⟨fun ⟨x, hx, _, he⟩ => by cases hx; exact he.symm, fun h => ⟨_, rfl, rfl, h.symm⟩⟩
  have hgid : (γ' id).isSome = true := by
   have h1 := k3 id (.row lent T' sz' (bif l2.isEmpty then nl else some false) (l ++ l2)) (by rw [Zd, if_pos rfl, Xi, lk, if_pos hsg, hsl]; rfl)
   exact h1
  refine hK v γ' w' X' k1 (k2.congr fun j hj => ?_) (fun j h hn hh => by rw [k5 j fun he => hn ((hid j).2 he)]; exact hh) (fun j hj => ?_) (fun j hj => .inl ?_) (fun _ _ h => by cases h) (.top v) (fun j hj => by rw [(hid j).1 hj]; exact k6)
  ·simp only [updW, Blk.isBox, Bool.false_eq_true, if_false]
   rw [Zd, Zd, Xi, Xi]
   by_cases he : j = id
   ·subst he
    rw [if_pos rfl, if_pos rfl, lk, if_pos hsg]
   ·rw [if_neg he, if_neg he, lk]
    have hgj : (γ j).isSome = true := by rw [← k5 j he]; exact Option.isSome_iff_ne_none.2 hj
    rw [if_pos hgj]
  ·by_cases he : j = id
   ·rw [he]; exact hgid
   ·rw [k5 j he]; exact hj
  ·by_cases he : j = id
   ·rw [he]; exact hsg
   ·rw [← k5 j he]; exact hj
theorem ldW_ok (hE : FS P C) {ops : Array Oper} {nt : Nat} {io : Ins} {lg : Bool} {s0 : Sto} {H : List Id} {x : Id × Nat × AV} (h : ldW lg s0 H io e = some x) :
  StepG P ops nt io e s (e.set io.d x.2.2) x.2.2 [] none (some x) ∧ (∃ cs, (kbx lg s0 H).lookup x.1 = some (.box false cs) ∧ cs[x.2.1]? = some x.2.2) ∧ ∃ d, io.d = some d := by
 obtain ⟨d, g, op⟩ := io
 unfold ldW at h
 split at h
 case h_2 => cases h
 rename_i dd k e1 e2 e3
 simp only at e1 e2 e3
 subst e1; subst e2; subst e3
 split at h
 case h_2 => cases h
 rename_i id off hk
 split at h
 case h_2 => cases h
 rename_i cs hl
 split at h
 case h_2 => cases h
 rename_i av hav
 simp only [Option.some.injEq] at h
 subst h
 refine ⟨⟨rfl, fun ro kk K Q i o a γ w X sT ho hm hs sub hu hnew _ hkr hK => ?_⟩, ⟨cs, hl, hav⟩, dd, rfl⟩
 obtain ⟨cs', hl', hav'⟩ := hkr _ rfl
 simp only at hl' hav'
 obtain ⟨av1, news, st⟩ := Zca (P := P) (C := C) (π := []) hE (ops := ops) (nt := nt) (io := ⟨some dd, none, .ld (.t k) 1 false⟩) (e := e) (s := [(id, .box false cs')]) (e1 := e.set (some dd) av) (s1 := [(id, .box false cs')]) (by
  simp [stepA, evA, hk, hav'])
 have hav1 : av1 = av := by
  have := st.env
  simp only [Env.set, List.cons.injEq, Prod.mk.injEq, true_and, and_true] at this
  exact this.symm
 have hn : news = [] := by
  have := congrArg List.length st.sto
  simp at this
  exact this
 subst hav1; subst hn
 refine st.sound ro kk K Q i o a γ w X sT ho hm hs (fun j b hb => ?_) hu (fun _ _ h => by cases h) fun v γ' w' X' k1 k2 k3 k4 k5 k6 => ?_
 ·rw [List.lookup_cons] at hb
  split at hb
  ·rename_i he
   have : j = id := by simpa using he
   subst this
   rw [hl']; exact hb
  ·cases hb
 ·refine hK v γ' w' X' k1 k2 (fun j h _ hh => k3 j h hh) (fun j hj => ?_) (fun j hj => ?_) (fun _ _ h => by cases h) k6 (fun j hj => ?_)
  ·obtain ⟨y, hy⟩ := Fu hj
   rw [k3 j y hy]; rfl
  ·obtain ⟨y, hy⟩ := Fu hj
   rcases k4 j y hy with h | ⟨b, hb⟩
   ·exact .inl (by rw [h]; rfl)
   ·cases hb
  ·obtain ⟨x, hx, _⟩ := hj
   cases hx
theorem lookup_memU {e : Env} {t : Nat} {v : AV} (h : e.lookup t = some v) : (t, v) ∈ e := by
 induction e with
 | nil => cases h
 | cons x r ih =>
  obtain ⟨i, u⟩ := x
  rw [List.lookup_cons] at h
  split at h
  ·rename_i he
   have : t = i := by simpa using he
   simp at h
   rw [this, h]
   exact List.mem_cons_self
  ·exact List.mem_cons_of_mem _ (ih h)
theorem callW_ok (hE : FS P C) {ops : Array Oper} {nt : Nat} {io : Ins} {s0 : Sto} {p : List (Id × Blk)} {H : List Id} {x : PV × Id × List (PV × PV) × List (PV × PV)} (h : callW C π s0 p H io e = some x) (hcs : io.isCS = true) :
  StepG P ops nt io e s (e.set io.d (.p x.1)) (.p x.1) [] (some (x.2.1, .mpb x.2.2.1, .mpb x.2.2.2)) none ∧ s0.lookup x.2.1 = some (.mpb x.2.2.1) ∧ p.lookup x.2.1 = none ∧ x.2.1 ∈ H := by
 unfold callW at h
 split at h
 case h_2 => cases h
 rename_i d id e1 e2 e3
 split at h
 case h_2 => cases h
 rename_i l hl hp
 split at h
 case isFalse => cases h
 rename_i hH
 split at h
 case h_2 => cases h
 rename_i v e' id' l' hev
 split at h
 case isFalse => cases h
 rename_i hc
 simp only [Bool.and_eq_true, beq_iff_eq] at hc
 obtain ⟨rfl, hsc⟩ := hc
 simp only [Option.some.injEq] at h
 subst h
 refine ⟨⟨rfl, fun ro kk K Q i o a γ w X sT ho hm hs sub hu hnew hwr _ hK => ?_⟩, hl, hp, by simpa using hH⟩
 have hm' := hm
 simp only [mio, Bool.and_eq_true] at hm'
 have hw := Z2c (γ := γ) (w := w) (X := X) (a := a) (e := e) (g := true) hm'.2 (by rw [e2]; rfl) (fun t want ht => by rw [e2] at ht; cases ht)
 unfold wpOpIn
 simp only [ho, hw, if_true]
 obtain ⟨hsl, hsg⟩ := hwr _ rfl
 simp only at hsl hsg
 obtain ⟨hd0, hg0⟩ := Fu hsg
 let γ0 : Hand := fun j => if j = id' then γ j else none
 have g0 : γ0 id' = γ id' := by show (if id' = id' then γ id' else none) = _; rw [if_pos rfl]
 have g0i : ∀ j u, γ0 j = some u → j = id' ∧ γ j = some u := fun j u hj => by
  have hj' : (if j = id' then γ j else none) = some u := hj
  split at hj'
  ·exact ⟨by assumption, hj'⟩
  ·cases hj'
 have hs0 : StoOk P γ0 w X [(id', .mpb l)] := ⟨fun j u hj => by
  obtain ⟨rfl, hjg⟩ := g0i j u hj
  obtain ⟨b, hb, hk⟩ := hs.blk j u hjg
  rw [hsl] at hb
  simp only [Option.some.injEq] at hb
  subst hb
  exact ⟨_, by simp, hk.mono (fun _ _ => rfl) (fun _ _ _ h => h) (fun _ _ _ => Iff.rfl) fun i hi => by simp [Blk.ids] at hi⟩,
  fun i j u k b hi hj hbi hbj => by rw [(g0i i u hi).1, (g0i j k hj).1], hs.lt⟩
 have hf0 : Full γ0 [(id', .mpb l)] := fun j b hb => by
  rw [List.lookup_cons] at hb
  split at hb
  ·rename_i he
   have : j = id' := by simpa using he
   rw [this, g0]; exact hsg
  ·cases hb
 have he0 : EnvOk γ0 w X (fun t => (useE io e).lookup t) a.tmps := fun t av ht => by
  have hmem : (t, av) ∈ useE io e := lookup_memU ht
  obtain ⟨t', ht', hty⟩ := List.mem_filterMap.1 hmem
  obtain ⟨av', hav', hpr⟩ := Option.map_eq_some_iff.1 hty
  simp only [Prod.mk.injEq] at hpr
  obtain ⟨rfl, rfl⟩ := hpr
  obtain ⟨u, hu1, hu2⟩ := hu t' ht' av' hav'
  refine ⟨u, hu1, hu2.mono (fun _ _ _ h => h) fun i hi z hz => ?_⟩
  have : i ∈ AV.ids.AV.idsL ((useE io e).map fun x => x.2) := Zd8 ht i hi
  rw [e3] at this
  have : i = id' := by simpa using this
  subst this
  rw [g0]; exact hz
 obtain ⟨k, args, hop⟩ : ∃ k args, io.op = .callS (.c (.fn k [])) args := by
  unfold Ins.isCS at hcs
  split at hcs
  ·rename_i hh; exact ⟨_, _, hh⟩
  ·cases hcs
 rw [hop] at hev
 refine ok_callS (.c (.fn k [])) args hE ro kk K Q a o γ0 w X (useE io e) [(id', .mpb l)] d (.p v) e' [(id', .mpb l')] hev (by rw [← hop]; exact hm'.1.2) hs0 hf0 he0 ?_
 intro v' γ' w' X' k1 k2 k3 k4 k5 k6
 have gid : γ' id' = γ id' := by rw [k5 id' (.mpb l) (by simp) rfl, g0]
 have own0 : ∀ b, Owned γ0 b → Owned γ b := fun b ⟨j, u, hj, hk⟩ => ⟨j, u, (g0i j u hj).2, hk⟩
 have hEvo : Evo γ w X γ w' X' := ⟨k1.os, k1.tape, k1.output, k1.size, fun b hb ho => k1.block b hb fun h => ho (own0 b h), k1.cell, k1.less, fun b q hb ho hx => k1.keep b q hb (fun h => ho (own0 b h)) hx, fun _ _ h => h⟩
 refine hK v' γ w' X' hEvo ⟨fun j u hj => ?_, hs.apart, k2.lt⟩ (fun _ _ _ h => h) (fun _ h => h) (fun _ h => .inl h) (fun _ _ h => by cases h) (.p k6.ofP) (fun j hj => ?_)
 ·simp only [updW, Blk.isBox, if_true, Zd]
  by_cases hji : j = id'
  ·subst hji
   rw [if_pos rfl, hsl]
   obtain ⟨b, hb, hk⟩ := k2.blk j u (by rw [gid]; exact hj)
   rw [List.lookup_cons] at hb
   simp only [BEq.rfl] at hb
   simp only [Option.some.injEq] at hb
   subst hb
   exact ⟨_, rfl, hk.mono (fun _ _ => rfl) (fun _ _ _ h => h) (fun _ _ _ => Iff.rfl) fun i hi => by simp [Blk.ids] at hi⟩
  ·rw [if_neg hji]
   obtain ⟨b, hb, hk⟩ := hs.blk j u hj
   have hnot : ∀ q, hblk u = some q → ¬ Owned γ0 q := fun q hq ⟨j', u', hj', hq'⟩ => by
    obtain ⟨rfl, hjg⟩ := g0i j' u' hj'
    exact hji (hs.apart j j' u u' q hj hjg hq hq')
   exact ⟨b, hb, hk.mono (fun q hq => k1.block q (hk.lt q hq) (hnot q hq)) k1.cell (fun q hq o => ⟨k1.less q o (hk.lt q hq), k1.keep q o (hk.lt q hq) (hnot q hq)⟩) fun _ _ _ h => h⟩
 ·obtain ⟨y, hy, hb, _⟩ := hj
  cases hy
  simp [Blk.isBox] at hb
def hidS (wr : Nat → Wr) (listed : Array Bool) : Nat → Sto
 | 0 => []
 | n + 1 => (match wr n with | some x => [(x.1, bif listed.getD n false then x.2.2 else x.2.1)] | none => []) ++ hidS wr listed n
def Apart (wr : Nat → Wr) (n : Nat) : Prop := ∀ i j x y, i < n → j < n → wr i = some x → wr j = some y → x.1 = y.1 → i = j
theorem Z1b {wr : Nat → Wr} {listed : Array Bool} {id : Id} : ∀ {n : Nat}, (∀ i x, i < n → wr i = some x → x.1 ≠ id) → (hidS wr listed n).lookup id = none
 | 0, _ => rfl
 | n + 1, h => by
  have ih := Z1b (listed := listed) (n := n) fun i x hi => h i x (by omega)
  unfold hidS
  cases hw : wr n with
  | none => simpa using ih
  | some x =>
   have hne : (id == x.1) = false := by simpa using Ne.symm (h n x (by omega) hw)
   simp only [List.singleton_append, List.lookup_cons, hne]
   exact ih
theorem Z01 {wr : Nat → Wr} {listed : Array Bool} : ∀ {n : Nat}, Apart wr n → ∀ {i : Nat} {x : Id × Blk × Blk}, i < n → wr i = some x → (hidS wr listed n).lookup x.1 = some (bif listed.getD i false then x.2.2 else x.2.1)
 | n + 1, ha, i, x, hi, hx => by
  unfold hidS
  by_cases he : i = n
  ·subst he
   rw [hx]
   simp
  ·have ih := Z01 (listed := listed) (n := n) (fun i j x y hi hj => ha i j x y (by omega) (by omega)) (by omega) hx
   cases hw : wr n with
   | none => simpa using ih
   | some y =>
    have hne : (x.1 == y.1) = false := by
     rw [beq_eq_false_iff_ne]
     intro h
     exact he (ha i n x y hi (by omega) hx hw h)
    simp only [List.singleton_append, List.lookup_cons, hne]
    exact ih
theorem Zcg {wr : Nat → Wr} {listed : Array Bool} {id : Id} {b : Blk} : ∀ {n : Nat}, (hidS wr listed n).lookup id = some b → ∃ i x, i < n ∧ wr i = some x ∧ x.1 = id
 | 0, h => by simp [hidS] at h
 | n + 1, h => by
  unfold hidS at h
  cases hw : wr n with
  | none =>
   rw [hw] at h
   obtain ⟨i, x, h1, h2, h3⟩ := Zcg (n := n) (by simpa using h)
   exact ⟨i, x, by omega, h2, h3⟩
  | some y =>
   rw [hw] at h
   simp only [List.singleton_append, List.lookup_cons] at h
   split at h
   ·rename_i he
    exact ⟨n, y, by omega, hw, by simpa using (show id = y.1 by simpa using he).symm⟩
   ·obtain ⟨i, x, h1, h2, h3⟩ := Zcg (n := n) h
    exact ⟨i, x, by omega, h2, h3⟩
theorem Zhe {wr : Nat → Wr} {l1 l2 : Array Bool} : ∀ {n : Nat}, (∀ i, i < n → wr i ≠ none → l1.getD i false = l2.getD i false) → hidS wr l1 n = hidS wr l2 n
 | 0, _ => rfl
 | n + 1, h => by
  unfold hidS
  rw [Zhe (n := n) fun i hi => h i (by omega)]
  cases hw : wr n with
  | none => rfl
  | some x => rw [h n (by omega) (by rw [hw]; simp)]
def apL (wr : Nat → Wr) (listed : Array Bool) (n : Nat) (id : Id) : Bool := (List.range n).any fun k => listed.getD k false && (match wr k with | some x => !x.2.1.isBox && x.1 == id | none => false)
theorem Z86 {wr : Nat → Wr} {listed : Array Bool} {n : Nat} {id : Id} : apL wr listed n id = true ↔ ∃ k, k < n ∧ listed.getD k false = true ∧ Ap (wr k) id := by
 unfold apL
 rw [List.any_eq_true]
 constructor
 ·rintro ⟨k, hk, hc⟩
  simp only [Bool.and_eq_true] at hc
  refine ⟨k, List.mem_range.1 hk, hc.1, ?_⟩
  split at hc
  ·rename_i x hx
   simp only [Bool.and_eq_true, Bool.not_eq_true', beq_iff_eq] at hc
   exact ⟨x, hx, hc.2.1, hc.2.2⟩
  ·simp at hc
 ·rintro ⟨k, hk, hl, x, hx, h1, h2⟩
  exact ⟨k, List.mem_range.2 hk, by rw [hx]; simp [hl, h1, h2]⟩
theorem Z77 {b : Blk} {p : Id → Bool} (h : ∀ i, p i = false) : b.killP p = b := by
 cases b <;> simp only [Blk.killP]
 congr 1
 refine (List.map_congr_left fun c _ => ?_).trans (List.map_id' _)
 unfold AV.killP
 rw [if_neg]
 simp [h]
theorem av_killP {c : AV} {p q : Id → Bool} {id : Id} (hq : c.ids.any q = (c.ids.any p || c.ids.contains id)) : c.killP q = (c.killP p).kill id := by
 cases h1 : c.ids.any p with
 | true =>
  have e1 : c.killP p = .top := by unfold AV.killP; rw [if_pos h1]
  have e2 : c.killP q = .top := by unfold AV.killP; rw [if_pos (by rw [hq, h1]; rfl)]
  rw [e1, e2]; exact (kill_top id).symm
 | false =>
  have e1 : c.killP p = c := by unfold AV.killP; rw [if_neg (by rw [h1]; decide)]
  rw [e1]
  unfold AV.killP AV.kill
  rw [hq, h1, Bool.false_or]
theorem killP_kill {b : Blk} {p q : Id → Bool} {id : Id} (h : ∀ i, q i = (p i || i == id)) (hbx : ∃ l cs, b = .box l cs) : b.killP q = (b.killP p).kill id := by
 obtain ⟨l, cs, rfl⟩ := hbx
 simp only [Blk.killP, Blk.kill, List.map_map]
 congr 1
 refine List.map_congr_left fun c _ => av_killP ?_
 have key : ∀ l : List Id, l.any q = (l.any p || l.contains id) := fun l => by
  induction l with
  | nil => rfl
  | cons a r ih =>
   have hs : (id == a) = (a == id) := Bool.eq_iff_iff.2 ⟨fun h => by rw [beq_iff_eq] at h ⊢; exact h.symm, fun h => by rw [beq_iff_eq] at h ⊢; exact h.symm⟩
   rw [List.any_cons, List.any_cons, List.contains_cons, ih, h, hs]
   cases p a <;> cases (a == id) <;> cases r.any p <;> cases r.contains id <;> rfl
 exact key _
def allS (wr : Nat → Wr) (KB ss : Sto) (listed : Array Bool) (n : Nat) : Sto := hidS wr listed n ++ (kbS KB (apL wr listed n) ++ ss)
theorem Zfw (KB : Sto) (p : Id → Bool) (id : Id) : (kbS KB p).lookup id = (KB.lookup id).map (Blk.killP p) := Fs (fun x => (x.1, x.2.killP p)) (fun _ => rfl) id KB
theorem Zz (wr : Nat → Wr) (KB ss : Sto) (listed : Array Bool) (n : Nat) (id : Id) : (allS wr KB ss listed n).lookup id = match (hidS wr listed n).lookup id with | some b => some b | none => match KB.lookup id with | some b => some (b.killP (apL wr listed n)) | none => ss.lookup id := by
 unfold allS
 rw [lookup_append, lookup_append, Zfw]
 cases (hidS wr listed n).lookup id with
 | some b => rfl
 | none => cases KB.lookup id <;> rfl
def dOf (l : List Ins) (i : Nat) : Option Nat := (l[i]?).bind (·.d)
structure Run (P : Program) (C : Call) (π : Id) (ops : Array Oper) (nt : Nat) (l : List Ins) (n : Nat) (B : Nat → Nat) (es : Nat → Env) (ss : Nat → Sto) (avs : Nat → AV) (nw : Nat → Sto) (wr : Nat → Wr) (et : Nat → Env) (ts : Nat → Sto) (s00 : Sto) (KB : Sto) (kr : Nat → Option (Id × Nat × AV)) : Prop where
 A : ∀ i, i < n → ∃ io, l[i]? = some io ∧ StepG P ops nt io (es i) (ss i) (es (i + 1)) (avs i) (nw i) (wr i) (kr i)
 T : ∀ i, n ≤ i → ∀ io, l[i]? = some io → step C π io (et i) (ts i) = some (et (i + 1), ts (i + 1))
 mono : ∀ i, i < n → ∀ id b, (ss i).lookup id = some b → (ss (i + 1)).lookup id = some b
 inv : ∀ i, i < n → ∀ id b, (ss (i + 1)).lookup id = some b → (ss i).lookup id = some b ∨ (nw i).lookup id = some b
 crt : ∀ i, i < n → ∀ id b, (nw i).lookup id = some b → s00.lookup id = none ∧ (((ss n).lookup id = some b ∧ ∀ k x, k < n → wr k = some x → x.1 ≠ id) ∨ ∃ k x, k < n ∧ wr k = some x ∧ x.1 = id ∧ x.2.1 = b ∧ (B k).testBit i = true)
 nap : ∀ i j, i < n → j < n → ∀ id b b', (nw i).lookup id = some b → (nw j).lookup id = some b' → i = j
 apart : Apart wr n
 hid : ∀ i x, i < n → wr i = some x → (ss n).lookup x.1 = none
 sub0 : ∀ id b, (ss 0).lookup id = some b → s00.lookup id = some b
 beg : ∀ id b, s00.lookup id = some b → (allS wr KB (ss 0) #[] n).lookup id = some b
 kb : ∀ id b, KB.lookup id = some b → s00.lookup id = some b ∧ (∃ l cs, b = .box l cs) ∧ (∀ k x, k < n → wr k = some x → x.1 ≠ id) ∧ (ss n).lookup id = none
 krd : ∀ i x, i < n → kr i = some x → (∃ cs, KB.lookup x.1 = some (.box false cs) ∧ cs[x.2.1]? = some x.2.2) ∧ avs i = x.2.2 ∧ ∃ t, dOf l i = some t
 old : ∀ k x, k < n → wr k = some x → s00.lookup x.1 = some x.2.1 ∨ ∃ i, i < n ∧ (nw i).lookup x.1 = some x.2.1 ∧ (B k).testBit i = true
 see : ∀ k id, k < n → Ap (wr k) id → ∀ i io, i < n → i ≠ k → l[i]? = some io → (∀ t ∈ io.uses, ∀ av, (es i).lookup t = some av → id ∈ av.ids → (B k).testBit i = true) ∧ (∀ t, io.d = some t → id ∈ (avs i).ids → (B k).testBit i = true)
 top : ∀ k id, k < n → Ap (wr k) id → avs k = .top
 cln : ∀ k id, k < n → Ap (wr k) id → (∀ j b, (ss n).lookup j = some b → id ∉ b.ids) ∧ ∀ k' x, k' < n → wr k' = some x → (id ∉ x.2.1.ids ∨ (B k).testBit k' = true) ∧ id ∉ x.2.2.ids
 fin : ∀ (listed : Array Bool), (∀ i, i < n → listed.getD i false = true) → ∀ id, (ts n).lookup id = (allS wr KB (ss n) listed n).lookup id
 finE : ∀ t av, (et n).lookup t = some av → (∃ k id, k < n ∧ Ap (wr k) id ∧ dOf l k = some t ∧ av = .ap id) ∨ ∃ av0, (es n).lookup t = some av0 ∧ (av = .top ∨ av = av0 ∧ ∀ k id, k < n → Ap (wr k) id → id ∉ av0.ids)
variable {ops : Array Oper} {nt Z n : Nat} {l : List Ins} {B : Nat → Nat} {es et : Nat → Env} {ss : Nat → Sto} {avs : Nat → AV} {nw : Nat → Sto} {wr : Nat → Wr} {ts : Nat → Sto} {s00 : Sto} {KB : Sto} {kr : Nat → Option (Id × Nat × AV)}
theorem Run.ssMono (R : Run P C π ops nt l n B es ss avs nw wr et ts s00 KB kr) {id : Id} {b : Blk} : ∀ (k i : Nat), i ≤ k → k ≤ n → (ss i).lookup id = some b → (ss k).lookup id = some b
  | 0, i, hi, _, h => by have : i = 0 := by omega
                         subst this; exact h
  | k + 1, i, hi, hk, h => by
    rcases Nat.lt_or_ge i (k + 1) with hlt | hge
    · exact R.mono k (by omega) id b (R.ssMono k i (by omega) (by omega) h)
    · have : i = k + 1 := by omega
      subst this; exact h
theorem Run.ssInv (R : Run P C π ops nt l n B es ss avs nw wr et ts s00 KB kr) {id : Id} {b : Blk} : ∀ (k : Nat), k ≤ n → (ss k).lookup id = some b → (ss 0).lookup id = some b ∨ ∃ i, i < k ∧ (nw i).lookup id = some b
 | 0, _, h => .inl h
 | k + 1, hk, h => by
  rcases R.inv k (by omega) id b h with h1 | h1
  ·rcases R.ssInv k (by omega) h1 with h2 | ⟨i, h2, h3⟩
   ·exact .inl h2
   ·exact .inr ⟨i, by omega, h3⟩
  ·exact .inr ⟨k, by omega, h1⟩
theorem Run.esInv (R : Run P C π ops nt l n B es ss avs nw wr et ts s00 KB kr) {t : Nat} {av : AV} : ∀ (k : Nat), k ≤ n → (es k).lookup t = some av → (∃ i, i < k ∧ dOf l i = some t ∧ av = avs i) ∨ ((∀ i, i < k → dOf l i ≠ some t) ∧ (es 0).lookup t = some av)
 | 0, _, h => .inr ⟨fun i hi => by omega, h⟩
 | k + 1, hk, h => by
  obtain ⟨io, hio, st⟩ := R.A k (by omega)
  rw [st.env] at h
  have hd : dOf l k = io.d := by unfold dOf; rw [hio]; rfl
  cases hdd : io.d with
  | none =>
   rw [hdd] at h
   rcases R.esInv k (by omega) h with ⟨i, h1, h2, h3⟩ | ⟨h1, h2⟩
   ·exact .inl ⟨i, by omega, h2, h3⟩
   ·refine .inr ⟨fun i hi => ?_, h2⟩
    rcases Nat.lt_or_ge i k with h' | h'
    ·exact h1 i h'
    ·have : i = k := by omega
     subst this; rw [hd, hdd]; simp
  | some u =>
   rw [hdd] at h
   simp only [Env.set, List.lookup_cons] at h
   split at h
   ·rename_i he
    have : t = u := by simpa using he
    subst this
    simp at h
    exact .inl ⟨k, by omega, by rw [hd, hdd], h.symm⟩
   ·rename_i he
    have hne : t ≠ u := by simpa using he
    rcases R.esInv k (by omega) h with ⟨i, h1, h2, h3⟩ | ⟨h1, h2⟩
    ·exact .inl ⟨i, by omega, h2, h3⟩
    ·refine .inr ⟨fun i hi => ?_, h2⟩
     rcases Nat.lt_or_ge i k with h' | h'
     ·exact h1 i h'
     ·have : i = k := by omega
      subst this; rw [hd, hdd]; simp; exact Ne.symm hne
structure DInv (P : Program) (nt Z n : Nat) (l : List Ins) (es : Nat → Env) (ss : Nat → Sto) (avs : Nat → AV) (nw : Nat → Sto) (wr : Nat → Wr) (KB : Sto) (γ0 : Hand) (w0 : World) (X0 : Own) (listed : Array Bool) (Γ γ : Hand) (w : World) (X : Own) (a : Act) : Prop where
 sto : StoOk P γ w X (allS wr KB (ss n) listed n)
 le : ∀ id h, γ0 id = some h → Γ id = some h
 agree : ∀ id, (∀ k, k < n → listed.getD k false = true → ¬ Ap (wr k) id) → Γ id = γ id
 both : ∀ id, (Γ id).isSome = (γ id).isSome
 new : ∀ i, i < n → listed.getD i false = true → ∀ id b, (nw i).lookup id = some b → (γ id).isSome
 dom : ∀ id, (γ id).isSome → (γ0 id).isSome ∨ ∃ i b, i < n ∧ listed.getD i false = true ∧ (nw i).lookup id = some b
 old : ∀ t av, (∀ i, i < n → listed.getD i false = true → dOf l i ≠ some t) → (es 0).lookup t = some av → ∃ v, a.tmps[t]? = some v ∧ RepA Γ w X v av
 val : ∀ i, i < n → listed.getD i false = true → ∀ t, dOf l i = some t → ∃ v, a.tmps[t]? = some v ∧ RepA Γ w X v (avs i)
 app : ∀ i id, i < n → listed.getD i false = true → Ap (wr i) id → ∀ t, dOf l i = some t → ∃ v, a.tmps[t]? = some v ∧ RepA γ w X v (.ap id)
 evo : Evo γ0 w0 X0 γ w X
 size : a.tmps.size = nt
 defers : Marks Z γ w a.defers
theorem Run.start (R : Run P C π ops nt l n B es ss avs nw wr et ts s00 KB kr) {listed : Array Bool} (hi : Inv P nt Z γ w X (es 0) s00 a) (hl : ∀ i, listed.getD i false = false) : DInv P nt Z n l es ss avs nw wr KB γ w X listed γ γ w X a where
 sto := ⟨fun id h hg => by
  obtain ⟨b, hb, hk⟩ := hi.sto.blk id h hg
  refine ⟨b, ?_, hk⟩
  have hb := R.beg id b hb
  rw [Zz] at hb
  rw [Zz, Zhe (l1 := listed) (l2 := #[]) fun i _ _ => by rw [hl i]; rfl]
  have h0 : ∀ (ls : Array Bool), (∀ i, ls.getD i false = false) → ∀ i, apL wr ls n i = false := fun ls hls i => by
   cases hc : apL wr ls n i with
   | false => rfl
   | true =>
    obtain ⟨k, _, hk, _⟩ := Z86.1 hc
    rw [hls k] at hk; cases hk
  cases hh : (hidS wr #[] n).lookup id with
  | some b' => rw [hh] at hb; exact hb
  | none =>
   rw [hh] at hb
   simp only at hb ⊢
   cases hK : KB.lookup id with
   | some b' =>
    rw [hK] at hb
    simp only at hb ⊢
    rw [Z77 (h0 listed hl)]
    rwa [Z77 (h0 #[] fun i => by simp)] at hb
   | none =>
    rw [hK] at hb
    exact R.ssMono n 0 (Nat.zero_le _) (Nat.le_refl _) hb, hi.sto.apart, hi.sto.lt⟩
 le := fun _ _ h => h
 agree := fun _ _ => rfl
 both := fun _ => rfl
 new := fun i _ h => by rw [hl i] at h; cases h
 dom := fun id h => .inl h
 old := fun t av _ h => hi.env t av h
 val := fun i _ h => by rw [hl i] at h; cases h
 app := fun i _ _ h => by rw [hl i] at h; cases h
 evo := Evo.refl _ _ _
 size := hi.size
 defers := hi.defers
theorem DInv.boxes {γ0 : Hand} {w0 : World} {X0 : Own} {listed : Array Bool} {Γ : Hand} (R : Run P C π ops nt l n B es ss avs nw wr et ts s00 KB kr) (hf : Full γ0 s00) (hD : DInv P nt Z n l es ss avs nw wr KB γ0 w0 X0 listed Γ γ w X a) (id : Id) (b : Blk) (hb : s00.lookup id = some b) (hbx : b.isBox = true) : γ id = γ0 id := by
 obtain ⟨v, hv⟩ := Fu (hf id b hb)
 rw [← hD.agree id fun k hk _ ⟨x, hx, hnb, hxi⟩ => ?_, hD.le id v hv, hv]
 rcases R.old k x hk hx with h1 | ⟨i, h1, h2, _⟩
 ·rw [hxi, hb] at h1
  simp at h1
  rw [← h1, hbx] at hnb
  cases hnb
 ·have := (R.crt i h1 _ _ h2).1
  rw [hxi, hb] at this
  cases this
theorem DInv.finish {γ0 : Hand} {w0 : World} {X0 : Own} {listed : Array Bool} {Γ : Hand} (R : Run P C π ops nt l n B es ss avs nw wr et ts s00 KB kr) (hf : Full γ0 s00) (hD : DInv P nt Z n l es ss avs nw wr KB γ0 w0 X0 listed Γ γ w X a) (hall : ∀ i, i < n → listed.getD i false = true) : Inv P nt Z γ w X (et n) (ts n) a where
 sto := hD.sto.congr fun id _ => R.fin listed hall id
 full := fun id b hb => by
  have old : ∀ b, s00.lookup id = some b → (γ id).isSome = true := fun b h => by
   obtain ⟨v, hv⟩ := Fu (hf id b h)
   rw [← hD.both, hD.le id v hv]; rfl
  rw [R.fin listed hall, Zz] at hb
  cases hh : (hidS wr listed n).lookup id with
  | some b' =>
   obtain ⟨i, x, h1, h2, rfl⟩ := Zcg hh
   rcases R.old i x h1 h2 with h3 | ⟨j, h3, h4, _⟩
   ·exact old _ h3
   ·exact hD.new j h3 (hall j h3) _ _ h4
  | none =>
   rw [hh] at hb
   simp only at hb
   cases hK : KB.lookup id with
   | some b2 => exact old b2 (R.kb id b2 hK).1
   | none =>
   rw [hK] at hb
   rcases R.ssInv n (Nat.le_refl _) hb with h | ⟨i, hi, h⟩
   ·exact old b (R.sub0 _ _ h)
   ·exact hD.new i hi (hall i hi) id b h
 env := fun t av ht => by
  rcases R.finE t av ht with ⟨k, id, hk, hap, hdk, rfl⟩ | ⟨av0, h0, hav⟩
  ·exact hD.app k id hk (hall k hk) hap t hdk
  ·have rep : ∃ v, a.tmps[t]? = some v ∧ RepA Γ w X v av0 := by
    rcases R.esInv n (Nat.le_refl _) h0 with ⟨i, hi, h1, rfl⟩ | ⟨h1, h2⟩
    ·exact hD.val i hi (hall i hi) t h1
    ·exact hD.old t av0 (fun i hi _ => h1 i hi) h2
   obtain ⟨v, hv, hr⟩ := rep
   rcases hav with rfl | ⟨rfl, hcl⟩
   ·exact ⟨v, hv, .top v⟩
   ·exact ⟨v, hv, hr.mono (fun _ _ _ h => h) fun id hid u hu => by rw [← hD.agree id fun k hk _ hap => hcl k id hk hap hid]; exact hu⟩
 size := hD.size
 defers := hD.defers
theorem DInv.step {ro : Option Nat} {kk : Nat} {γ0 : Hand} {w0 : World} {X0 : Own} {listed : Array Bool} {Γ : Hand} {K : Act → World → Prop} {Q : Exit → Act → World → Prop} {i : Nat} {o : Oper} (R : Run P C π ops nt l n B es ss avs nw wr et ts s00 KB kr) (hDr : DrawOk P ops l n B) (hcl : Zba ops listed) (hi0 : StoOk P γ0 w0 X0 s00) (hf0 : Full γ0 s00)
  (hD : DInv P nt Z n l es ss avs nw wr KB γ0 w0 X0 listed Γ γ w X a) (hi : i < n) (ho : ops[i]? = some o) (hun : listed.getD i false = false) (hsz : i < listed.size) (hall : ∀ e ∈ o.after, Region.binds .any e = true → listed.getD e.on false = true) (hm : ∀ io, l[i]? = some io → mio P nt ops o io = true)
  (hops : ∀ k, k < n → ∃ o, ops[k]? = some o)
  (hK : ∀ a' w', (∃ Γ' γ' X', DInv P nt Z n l es ss avs nw wr KB γ0 w0 X0 (listed.setIfInBounds i true) Γ' γ' w' X' a') → K a' w') : wpOpIn (WR ro) kk P ops Q i K a w := by
 obtain ⟨io, hio, st⟩ := R.A i hi
 have hmio := hm io hio
 have hmio' := hmio
 simp only [mio, Bool.and_eq_true, beq_iff_eq] at hmio'
 obtain ⟨⟨⟨hd, hdn⟩, _⟩, _⟩ := hmio'
 have hdof : dOf l i = io.d := by unfold dOf; rw [hio]; rfl
 have bits := Z0o hDr hcl i o ho hall
 have lset : ∀ j, j ≠ i → (listed.setIfInBounds i true).getD j false = listed.getD j false := fun j hj => getD_set_ne false (Ne.symm hj)
 have lself : (listed.setIfInBounds i true).getD i false = true := by simp [Array.getD, hsz]
 have get : ∀ k, k < n → ∃ io, l[k]? = some io := fun k hk => (R.A k hk).elim fun io h => ⟨io, h.1⟩
 have before : ∀ k, k < n → listed.getD k false = true → ∀ j, (B k).testBit j = true → listed.getD j false = true := fun k hk hlk j hj => by
  obtain ⟨ok, hok⟩ := hops k hk
  exact Z0o hDr hcl k ok hok (hcl k ok hok hlk) j hj
 have usesΓ : ∀ t ∈ io.uses, ∀ av, (es i).lookup t = some av → ∃ v, a.tmps[t]? = some v ∧ RepA Γ w X v av := by
  intro t ht av hav
  rcases R.esInv i (by omega) hav with ⟨k, hk, h1, rfl⟩ | ⟨h1, h2⟩
  ·obtain ⟨io', hio'⟩ := get k (by omega)
   have hdk : io'.d = some t := by unfold dOf at h1; rw [hio'] at h1; simpa using h1
   exact hD.val k (by omega) (bits k ((hDr.ssa k i io' io hk hi hio' hio).1 t hdk ht)) t h1
  ·refine hD.old t av (fun k hk hlk hdk => ?_) h2
   rcases Nat.lt_trichotomy k i with hlt | rfl | hgt
   ·exact h1 k hlt hdk
   ·rw [hun] at hlk; cases hlk
   ·obtain ⟨io', hio'⟩ := get k hk
    have hdk' : io'.d = some t := by unfold dOf at hdk; rw [hio'] at hdk; simpa using hdk
    have hb := ((hDr.ssa i k io io' hgt hk hio hio').2 t hdk').1 ht
    have := before k hk hlk i hb
    rw [hun] at this; cases this
 have uses : ∀ t ∈ io.uses, ∀ av, (es i).lookup t = some av → ∃ v, a.tmps[t]? = some v ∧ RepA γ w X v av := by
  intro t ht av hav
  obtain ⟨v, hv, hr⟩ := usesΓ t ht av hav
  refine ⟨v, hv, hr.mono (fun _ _ _ h => h) fun id hid u hu => ?_⟩
  rw [← hD.agree id fun k hk hlk hap => ?_]
  ·exact hu
  ·have hki : i ≠ k := fun h => by subst h; rw [hun] at hlk; cases hlk
   have := before k hk hlk i ((R.see k id hk hap i io hi hki hio).1 t ht av hav hid)
   rw [hun] at this; cases this
 have seen : ∀ id b, (ss n).lookup id = some b → (allS wr KB (ss n) listed n).lookup id = some b := fun id b hb => by
  rw [Zz, Z1b fun k x hk hx he => by
   have := R.hid k x hk hx
   rw [he, hb] at this
   cases this]
  simp only
  cases hK : KB.lookup id with
  | some b2 => have := (R.kb id b2 hK).2.2.2; rw [hb] at this; cases this
  | none => exact hb
 have fresh : ∀ id b, (nw i).lookup id = some b → γ id = none ∧ (allS wr KB (ss n) listed n).lookup id = some b := fun id b hb => by
  obtain ⟨c1, c2⟩ := R.crt i hi id b hb
  refine ⟨?_, ?_⟩
  ·cases hg : γ id with
   | none => rfl
   | some v =>
    rcases hD.dom id (by rw [hg]; rfl) with h0 | ⟨k, b', hk, hlk, hb'⟩
    ·obtain ⟨v0, hv0⟩ := Fu h0
     obtain ⟨b0, hb0, _⟩ := hi0.blk id v0 hv0
     rw [c1] at hb0; cases hb0
    ·have := R.nap k i hk hi id _ _ hb' hb
     subst this
     rw [hun] at hlk; cases hlk
  ·rcases c2 with ⟨c3, _⟩ | ⟨k, x, hk, hx, rfl, rfl, hbit⟩
   ·exact seen id b c3
   ·have hlk : listed.getD k false = false := by
     cases hc : listed.getD k false with
     | false => rfl
     | true => have := before k hk hc i hbit; rw [hun] at this; cases this
    rw [Zz, Z01 R.apart hk hx, hlk]; rfl
 have wrote : ∀ x, wr i = some x → (allS wr KB (ss n) listed n).lookup x.1 = some x.2.1 ∧ (γ x.1).isSome := fun x hx => by
  refine ⟨by rw [Zz, Z01 R.apart hi hx, hun]; rfl, ?_⟩
  rcases R.old i x hi hx with h1 | ⟨j, h1, h2, h3⟩
  ·obtain ⟨v, hv⟩ := Fu (hf0 x.1 x.2.1 h1)
   rw [← hD.both, hD.le _ v hv]; rfl
  ·exact hD.new j h1 (bits j h3) _ _ h2
 have cleanH : ∀ id, Ap (wr i) id → ∀ j b, (hidS wr listed n).lookup j = some b → id ∉ b.ids := fun id hap j b hh => by
  obtain ⟨_, c2⟩ := R.cln i id hi hap
  obtain ⟨k, x, hk, hx, rfl⟩ := Zcg hh
  rw [Z01 R.apart hk hx, Option.some.injEq] at hh
  subst hh
  cases hlk : listed.getD k false
  ·rcases (c2 k x hk hx).1 with h1 | h1
   ·exact h1
   ·have := bits k h1
    rw [hlk] at this; cases this
  ·exact (c2 k x hk hx).2
 have cleanS : ∀ id, Ap (wr i) id → ∀ j b, (ss n).lookup j = some b → id ∉ b.ids := fun id hap => (R.cln i id hi hap).1
 have krT : ∀ x, kr i = some x → ∃ cs, (allS wr KB (ss n) listed n).lookup x.1 = some (.box false cs) ∧ cs[x.2.1]? = some x.2.2 := fun x hx => by
  obtain ⟨⟨cs, h1, h2⟩, h3, t, h4⟩ := R.krd i x hi hx
  refine ⟨cs.map (AV.killP (apL wr listed n)), ?_, ?_⟩
  ·rw [Zz, Z1b fun k y hk hy he => (R.kb x.1 _ h1).2.2.1 k y hk hy he, h1]; rfl
  ·rw [List.getElem?_map, h2]
   simp only [Option.map_some, AV.killP]
   rw [if_neg]
   intro hc
   obtain ⟨id, hid, hp⟩ := List.any_eq_true.1 hc
   obtain ⟨k, hk, hlk, hap⟩ := Z86.1 hp
   have hki : i ≠ k := fun h => by subst h; rw [hun] at hlk; cases hlk
   have := before k hk hlk i ((R.see k id hk hap i io hi hki hio).2 t (by rw [← hdof]; exact h4) (by rw [h3]; exact hid))
   rw [hun] at this; cases this
 refine st.sound ro kk K Q i o a γ w X (allS wr KB (ss n) listed n) ho hmio hD.sto (fun id b hb => seen id b (R.ssMono n i (by omega) (Nat.le_refl _) hb)) uses fresh wrote krT ?_
 intro v γ' w' X' k1 k2 k3 k3' k4 k5 k6 k7
 have k2' : StoOk P γ' w' X' (allS wr KB (ss n) (listed.setIfInBounds i true) n) := by
  refine k2.congr fun id _ => ?_
  have apOld : ∀ j, ¬ Ap (wr i) j → apL wr (listed.setIfInBounds i true) n j = apL wr listed n j := fun j hj => by
   rw [Bool.eq_iff_iff, Z86, Z86]
   constructor
   ·rintro ⟨k, h1, h2, h3⟩
    have hki : k ≠ i := fun h => by subst h; exact hj h3
    exact ⟨k, h1, by rwa [lset k hki] at h2, h3⟩
   ·rintro ⟨k, h1, h2, h3⟩
    have hki : k ≠ i := fun h => by subst h; exact hj h3
    exact ⟨k, h1, by rw [lset k hki]; exact h2, h3⟩
  cases hwi : wr i with
  | none =>
   rw [Zz, Zhe (l1 := listed.setIfInBounds i true) (l2 := listed) fun k _ hk => lset k fun he => by subst he; exact hk hwi]
   simp only [updW]
   rw [Zz]
   rw [show apL wr (listed.setIfInBounds i true) n = apL wr listed n from funext fun j => apOld j (by rw [hwi]; rintro ⟨x, hx, _⟩; cases hx)]
  | some x =>
   have hidS' : id ≠ x.1 → (hidS wr (listed.setIfInBounds i true) n).lookup id = (hidS wr listed n).lookup id := fun he => by
    by_cases hex : ∃ k y, k < n ∧ wr k = some y ∧ y.1 = id
    ·obtain ⟨k, y, hk, hy, rfl⟩ := hex
     rw [Z01 R.apart hk hy, Z01 R.apart hk hy, lset k fun h => by subst h; rw [hwi] at hy; cases hy; exact he rfl]
    ·rw [Z1b fun k y hk hy hyi => hex ⟨k, y, hk, hy, hyi⟩, Z1b fun k y hk hy hyi => hex ⟨k, y, hk, hy, hyi⟩]
   simp only [updW, Zd]
   by_cases he : id = x.1
   ·subst he
    rw [if_pos rfl, Zz, Z01 R.apart hi hwi, lself]
    cases hbx : x.2.1.isBox with
    | true => rw [if_pos rfl, Zz, Z01 R.apart hi hwi]; rfl
    | false => rw [if_neg (by decide), Xi, Zz, Z01 R.apart hi hwi]; rfl
   ·rw [if_neg he, Zz, hidS' he]
    cases hbx : x.2.1.isBox with
    | true =>
     rw [if_pos rfl, Zz]
     rw [show apL wr (listed.setIfInBounds i true) n = apL wr listed n from funext fun j => apOld j (by rw [hwi]; rintro ⟨y, hy, hb, _⟩; cases hy; rw [hbx] at hb; cases hb)]
    | false =>
     have hap : Ap (wr i) x.1 := ⟨x, hwi, hbx, rfl⟩
     rw [if_neg (by decide), Xi, Zz]
     cases hh : (hidS wr listed n).lookup id with
     | some b => simp [kill_self (cleanH x.1 hap id b hh)]
     | none =>
      simp only
      cases hK : KB.lookup id with
      | some b =>
       simp only [Option.map_some]
       congr 1
       obtain ⟨_, hb2, _⟩ := R.kb id b hK
       refine killP_kill (fun j => ?_) hb2
       by_cases hj : j = x.1
       ·subst hj
        rw [Z86.2 ⟨i, hi, lself, hap⟩]; simp
       ·rw [apOld j (by rw [hwi]; rintro ⟨y, hy, _, h2⟩; cases hy; exact hj h2.symm)]
        have : (j == x.1) = false := by simpa using hj
        simp [this]
      | none =>
       simp only
       cases hs : (ss n).lookup id with
       | none => rfl
       | some b => simp [kill_self (cleanS x.1 hap id b hs)]
 let Γ' : Hand := fun id => match Γ id with | some h => some h | none => γ' id
 have gs : ∀ id h, Γ id = some h → Γ' id = some h := fun id h hh => by simp only [Γ', hh]
 have gn : ∀ id, Γ id = none → Γ' id = γ' id := fun id hh => by simp only [Γ', hh]
 have keep : ∀ id, ¬ Ap (wr i) id → (∀ k, k < n → listed.getD k false = true → ¬ Ap (wr k) id) → Γ' id = γ' id := fun id h1 h2 => by
  cases hg : Γ id with
  | none => exact gn id hg
  | some h => rw [gs id h hg]; exact (k3 id h h1 (by rw [← hD.agree id h2]; exact hg)).symm
 refine hK _ _ ⟨Γ', γ', X', ⟨k2', fun id h hg => gs id h (hD.le id h hg), fun id hno => ?_, fun id => ?_, fun k hk hlk id b hb => ?_, fun id hg => ?_, fun t av hno ht => ?_, fun k hk hlk t hdk => ?_, fun k id hk hlk hap t hdk => ?_, hD.evo.trans k1, by rw [Zh1]; exact hD.size, by rw [Z9w]; exact hD.defers.mono k1⟩⟩
 ·refine keep id (hno i hi lself) fun k hk hlk => hno k hk ?_
  by_cases he : k = i
  ·subst he; exact lself
  ·rw [lset k he]; exact hlk
 ·cases hg : Γ id with
  | none => rw [gn id hg]
  | some h =>
   rw [gs id h hg]
   exact (k3' id (by rw [← hD.both, hg]; rfl)).symm
 ·by_cases he : k = i
  ·subst he; exact k5 id b hb
  ·rw [lset k he] at hlk
   exact k3' id (hD.new k hk hlk id b hb)
 ·rcases k4 id hg with h1 | ⟨b, hb⟩
  ·rcases hD.dom id h1 with h2 | ⟨k, b, hk, hlk, hb⟩
   ·exact .inl h2
   ·refine .inr ⟨k, b, hk, ?_, hb⟩
    by_cases he : k = i
    ·subst he; exact lself
    ·rw [lset k he]; exact hlk
  ·exact .inr ⟨i, b, hi, lself, hb⟩
 ·obtain ⟨u, hu, hr⟩ := hD.old t av (fun k hk hlk => hno k hk (by
   by_cases he : k = i
   ·subst he; exact lself
   ·rw [lset k he]; exact hlk)) ht
  have hne : dOf l i ≠ some t := hno i hi lself
  refine ⟨u, ?_, hr.mono k1.cell fun id _ v hv => gs id v hv⟩
  rw [hd]
  rw [hdof] at hne
  cases hdd : io.d with
  | none => exact hu
  | some q =>
   rw [hdd] at hne
   simp only [Act.put]
   rw [Array.getElem?_setIfInBounds_ne (fun he => hne (by rw [he]))]
   exact hu
 ·by_cases he : k = i
  ·subst he
   rw [hdof] at hdk
   rw [hd, hdk]
   have hdk2 := hdk
   rw [hdk] at hdn
   have hlt : t < a.tmps.size := by rw [hD.size]; simpa using hdn
   refine ⟨v, by simp [Act.put, hlt], k6.mono (fun _ _ _ h => h) fun id hid u hu => ?_⟩
   by_cases hap : Ap (wr k) id
   ·rw [R.top k id hi hap] at hid
    simp [AV.ids] at hid
   ·rw [keep id hap fun j hj hlj hapj => ?_]
    ·exact hu
    ·have hkj : k ≠ j := fun h => by subst h; rw [hun] at hlj; cases hlj
     have := before j hj hlj k ((R.see j id hj hapj k io hi hkj hio).2 t hdk2 hid)
     rw [hun] at this; cases this
  ·rw [lset k he] at hlk
   obtain ⟨u, hu, hr⟩ := hD.val k hk hlk t hdk
   refine ⟨u, ?_, hr.mono k1.cell fun id _ v hv => gs id v hv⟩
   rw [hd]
   cases hdd : io.d with
   | none => exact hu
   | some q =>
    simp only [Act.put]
    have hne : q ≠ t := fun heq => by
     subst heq
     obtain ⟨io', hio'⟩ := get k hk
     have hdk' : io'.d = some q := by unfold dOf at hdk; rw [hio'] at hdk; simpa using hdk
     rcases Nat.lt_or_gt_of_ne he with hlt | hgt
     ·exact ((hDr.ssa k i io' io hlt hi hio' hio).2 q hdd).2 hdk'
     ·exact ((hDr.ssa i k io io' hgt hk hio hio').2 q hdk').2 hdd
    rw [Array.getElem?_setIfInBounds_ne hne]
    exact hu
 ·by_cases he : k = i
  ·subst he
   rw [hdof] at hdk
   rw [hd, hdk]
   rw [hdk] at hdn
   have hlt : t < a.tmps.size := by rw [hD.size]; simpa using hdn
   exact ⟨v, by simp [Act.put, hlt], k7 id hap⟩
  ·rw [lset k he] at hlk
   obtain ⟨u, hu, hr⟩ := hD.app k id hk hlk hap t hdk
   refine ⟨u, ?_, hr.mono k1.cell fun id' hid' v hv => ?_⟩
   ·rw [hd]
    cases hdd : io.d with
    | none => exact hu
    | some q =>
     simp only [Act.put]
     have hne : q ≠ t := fun heq => by
      subst heq
      obtain ⟨io', hio'⟩ := get k hk
      have hdk' : io'.d = some q := by unfold dOf at hdk; rw [hio'] at hdk; simpa using hdk
      rcases Nat.lt_or_gt_of_ne he with hlt | hgt
      ·exact ((hDr.ssa k i io' io hlt hi hio' hio).2 q hdd).2 hdk'
      ·exact ((hDr.ssa i k io io' hgt hk hio hio').2 q hdk').2 hdd
     rw [Array.getElem?_setIfInBounds_ne hne]
     exact hu
   ·simp only [AV.ids, List.mem_singleton] at hid'
    subst hid'
    refine k3 _ v (fun ⟨y, hy, _, hyi⟩ => ?_) hv
    obtain ⟨x, hx, _, hxi⟩ := hap
    exact he (R.apart k i x y hk hi hx hy (hxi.trans hyi.symm))
theorem any_ok (hE : FS P C) {ro : Option Nat} {kk : Nat} {Q : Exit → Act → World → Prop} {γ0 : Hand} {w0 : World} {X0 : Own} {a0 : Act} (R : Run P C π ops nt l n B es ss avs nw wr et ts s00 KB kr) (hDr : DrawOk P ops l n B) (hlen : ops.size = l.length)
  (hm : ∀ (i : Nat) o io, ops[i]? = some o → l[i]? = some io → mio P nt ops o io = true) (h0 : Inv P nt Z γ0 w0 X0 (es 0) s00 a0) (hQ : ∀ a' w', After P nt Z γ0 w0 X0 s00 (et l.length) (ts l.length) a' w' → Q .normal a' w') :
  ∀ (fuel : Nat) (listed : Array Bool) (a : Act) (w : World), cnt listed ops.size ≤ fuel → listed.size = ops.size → Zba ops listed → (∀ j, Inert ops l n B j → listed.getD j false = true) →
   (((∀ j, listed.getD j false = true → j < n) ∧ ∃ Γ γ X, DInv P nt Z n l es ss avs nw wr KB γ0 w0 X0 listed Γ γ w X a) ∨
    ∃ k, n ≤ k ∧ k ≤ ops.size ∧ (∀ j, j < ops.size → (listed.getD j false = true ↔ j < k)) ∧ After P nt Z γ0 w0 X0 s00 (et k) (ts k) a w) → wpAnyIn (WR ro) kk P .any ops Q fuel listed a w := by
 have hn : n ≤ ops.size := by rw [hlen]; exact hDr.le
 have opAt : ∀ k, k < ops.size → ∃ o, ops[k]? = some o := fun k hk => ⟨ops[k], Array.getElem?_eq_getElem hk⟩
 have ioAt : ∀ k, k < ops.size → ∃ io, l[k]? = some io := fun k hk => ⟨l[k]'(by omega), List.getElem?_eq_getElem (by omega)⟩
 have done : ∀ (listed : Array Bool) (a : Act) (w : World), listed.size = ops.size → (∀ i, i < ops.size → listed.getD i false = true) →
   (((∀ j, listed.getD j false = true → j < n) ∧ ∃ Γ γ X, DInv P nt Z n l es ss avs nw wr KB γ0 w0 X0 listed Γ γ w X a) ∨
    ∃ k, n ≤ k ∧ k ≤ ops.size ∧ (∀ j, j < ops.size → (listed.getD j false = true ↔ j < k)) ∧ After P nt Z γ0 w0 X0 s00 (et k) (ts k) a w) → Q .normal a w := by
  intro listed a w _ hall hst
  rcases hst with ⟨h1, Γ, γ, X, hD⟩ | ⟨k, hk1, hk2, hk3, hA⟩
  ·have hnn : n = l.length := by
    rcases Nat.lt_or_ge n ops.size with h | h
    ·have := h1 n (hall n h); omega
    ·omega
   have := hD.finish R h0.full (fun i hi => hall i (by omega))
   rw [hnn] at this
   exact hQ a w ⟨γ, X, this, hD.evo, hD.boxes R h0.full⟩
  ·have : k = l.length := by
    rcases Nat.lt_or_ge k ops.size with h | h
    ·have := (hk3 k h).1 (hall k h); omega
    ·omega
   subst this
   exact hQ a w hA
 intro fuel
 induction fuel with
 | zero =>
  intro listed a w hc hsz hcl hin hst
  have hall := cnt_zero (listed := listed) ops.size (by omega)
  refine ⟨?_, done listed a w hsz hall hst⟩
  rw [List.eq_nil_iff_forall_not_mem]
  intro j hj
  obtain ⟨hu, o, ho, _⟩ := mem_ready.1 hj
  have := hall j (Array.getElem?_eq_some_iff.1 ho).1
  rw [getD_both hu] at this
  cases this
 | succ fuel ih =>
  intro listed a w hc hsz hcl hin hst
  refine ⟨fun hr => ?_, fun i hi => ?_⟩
  ·refine done listed a w hsz (fun i hi' => ?_) hst
   rcases cnt_pos (listed := listed) ops.size with h | ⟨j, h1, h2, h3⟩
   ·exact h i hi'
   ·obtain ⟨o, ho⟩ := opAt j h1
    have : j ∈ Region.ready .any ops listed := mem_ready.2 ⟨getD_in (by omega) h2, o, ho, fun e he hb => h3 _ (hDr.edge j o ho e he hb)⟩
    rw [hr] at this
    cases this
  ·obtain ⟨hu, o, ho, hall⟩ := mem_ready.1 hi
   have hun := getD_both hu
   have hlt : i < ops.size := (Array.getElem?_eq_some_iff.1 ho).1
   obtain ⟨io, hio⟩ := ioAt i hlt
   have bits := Z0o hDr hcl i o ho hall
   have lset : ∀ j, j ≠ i → (listed.setIfInBounds i true).getD j false = listed.getD j false := fun j hj => getD_set_ne false (Ne.symm hj)
   have hilt : i < listed.size := by omega
   have lself : (listed.setIfInBounds i true).getD i false = true := by simp [Array.getD, hilt]
   have hc' : cnt (listed.setIfInBounds i true) ops.size ≤ fuel := by
    have := cnt_set (i := i) (listed := listed) hilt hun ops.size
    rw [if_pos hlt] at this
    omega
   have hcl' : Zba ops (listed.setIfInBounds i true) := fun k ok hok hlk e he hb => by
    by_cases hki : k = i
    ·subst hki
     have : ok = o := Option.some.inj (hok.symm.trans ho)
     subst this
     exact getD_set_true (hall e he hb)
    ·rw [lset k hki] at hlk
     exact getD_set_true (hcl k ok hok hlk e he hb)
   have hin' : ∀ j, Inert ops l n B j → (listed.setIfInBounds i true).getD j false = true := fun j hj => getD_set_true (hin j hj)
   have bits' : n ≤ i → ∀ k, k < i → listed.getD k false = true := fun hni k hk => (hDr.tail i hlt hni k hk).elim (bits k) (hin k)
   have tail : ∀ k, n ≤ k → k ≤ ops.size → (∀ j, j < ops.size → (listed.getD j false = true ↔ j < k)) → n ≤ i → After P nt Z γ0 w0 X0 s00 (et k) (ts k) a w → wpOpIn (WR ro) kk P ops Q i (wpAnyIn (WR ro) kk P .any ops Q fuel (listed.setIfInBounds i true)) a w := by
    intro k hk1 hk2 hk3 hni hA
    have hik : i = k := by
     have h1 : ¬ i < k := fun h => by have := (hk3 i hlt).2 h; rw [hun] at this; cases this
     rcases Nat.lt_or_ge k i with h | h
     ·have := bits' hni k h
      have := (hk3 k (by omega)).1 this
      omega
     ·omega
    subst hik
    obtain ⟨γ1, X1, i1, e1, b1⟩ := hA
    refine step_ok hE (R.T i hni io hio) ho (hm i o io ho hio) i1 fun a1 w1 h1 => ?_
    refine ih _ a1 w1 hc' (by simp [hsz]) hcl' hin' (.inr ⟨i + 1, by omega, by omega, fun j hj => ?_, After.trans h0.sto h0.full i1 e1 b1 h1⟩)
    by_cases hji : j = i
    ·subst hji; rw [lself]; simp
    ·rw [lset j hji, hk3 j hj]; omega
   rcases hst with ⟨h1, Γ, γ, X, hD⟩ | ⟨k, hk1, hk2, hk3, hA⟩
   ·by_cases hin : i < n
    ·refine hD.step R hDr hcl h0.sto h0.full hin ho hun hilt hall (fun io' hio' => hm i o io' ho hio') (fun k hk => opAt k (by omega)) fun a1 w1 hD1 => ?_
     refine ih _ a1 w1 hc' (by simp [hsz]) hcl' hin' (.inl ⟨fun j hj => ?_, hD1⟩)
     by_cases hji : j = i
     ·omega
     ·rw [lset j hji] at hj; exact h1 j hj
    ·have hall' : ∀ j, j < n → listed.getD j false = true := fun j hj => bits' (by omega) j (by omega)
     have hI := hD.finish R h0.full hall'
     exact tail n (Nat.le_refl _) hn (fun j hj => ⟨fun h => h1 j h, fun h => hall' j h⟩) (by omega) ⟨γ, X, hI, hD.evo, hD.boxes R h0.full⟩
   ·have hni : n ≤ i := by
     rcases Nat.lt_or_ge i n with h | h
     ·have := (hk3 i hlt).2 (by omega); rw [hun] at this; cases this
     ·exact h
    exact tail k hk1 hk2 hk3 hni hA
theorem Zeu (hE : FS P C) {ro : Option Nat} {kk : Nat} {Q : Exit → Act → World → Prop} {γ0 : Hand} {w0 : World} {X0 : Own} {a0 : Act} (R : Run P C π ops nt l n B es ss avs nw wr et ts s00 KB kr) (hDr : DrawOk P ops l n B) (hlen : ops.size = l.length)
  (hm : ∀ (i : Nat) o io, ops[i]? = some o → l[i]? = some io → mio P nt ops o io = true) (h0 : Inv P nt Z γ0 w0 X0 (es 0) s00 a0) (hQ : ∀ a' w', After P nt Z γ0 w0 X0 s00 (et l.length) (ts l.length) a' w' → Q .normal a' w') (hQ0 : ∀ e a w, Q e a w → e = .normal) :
  ∀ (m fuel : Nat) (listed : Array Bool) (a : Act) (w : World), cnt listed ops.size ≤ fuel → listed.size = ops.size → Zba ops listed → (∀ j, m ≤ j → Inert ops l n B j → listed.getD j false = true) →
   ((∀ j, listed.getD j false = true → j < n) ∧ ∃ Γ γ X, DInv P nt Z n l es ss avs nw wr KB γ0 w0 X0 listed Γ γ w X a) → wpAnyIn (WR ro) kk P .any ops Q fuel listed a w
 | 0, fuel, listed, a, w, hc, hsz, hcl, hin, hst => any_ok hE R hDr hlen hm h0 hQ fuel listed a w hc hsz hcl (fun j hj => hin j (Nat.zero_le _) hj) (.inl hst)
 | m + 1, fuel, listed, a, w, hc, hsz, hcl, hin, hst => by
  by_cases hmi : Inert ops l n B m ∧ listed.getD m false = false
  ·obtain ⟨hmi, hun⟩ := hmi
   have hmi' := hmi
   obtain ⟨d, x, o, hl, ho, hmn, hedge, _⟩ := hmi'
   have hlt : m < ops.size := (Array.getElem?_eq_some_iff.1 ho).1
   have hilt : m < listed.size := by omega
   have hcs := cnt_set (i := m) (listed := listed) hilt hun ops.size
   rw [if_pos hlt] at hcs
   obtain ⟨fuel', rfl⟩ : ∃ f, fuel = f + 1 := ⟨fuel - 1, by omega⟩
   have lself : (listed.setIfInBounds m true).getD m false = true := by simp [Array.getD, hilt]
   obtain ⟨h1, Γ, γ, X, hD⟩ := hst
   refine early (F := WR ro) (fun _ => trivial) hDr hlen hm hmi hQ0 fuel' listed a w hsz hcl hun ?_
   refine hD.step R hDr hcl h0.sto h0.full hmn ho hun hilt (fun e he hb => by rw [hedge e he] at hb; cases hb) (fun io' hio' => hm m o io' ho hio') (fun k hk => ⟨ops[k]'(by have := hDr.le; omega), Array.getElem?_eq_getElem _⟩) fun a1 w1 hD1 => ?_
   refine Zeu hE R hDr hlen hm h0 hQ hQ0 m fuel' _ a1 w1 (by omega) (by simp [hsz]) (fun k ok hok hlk e he hb => ?_) (fun j hj hij => ?_) ⟨fun j hj => ?_, hD1⟩
   ·by_cases hki : k = m
    ·subst hki
     have : ok = o := Option.some.inj (hok.symm.trans ho)
     subst this
     rw [hedge e he] at hb; cases hb
    ·rw [getD_set_ne false (Ne.symm hki)] at hlk
     exact getD_set_true (hcl k ok hok hlk e he hb)
   ·by_cases hjm : j = m
    ·rw [hjm]; exact lself
    ·exact getD_set_true (hin j (by omega) hij)
   ·by_cases hji : j = m
    ·omega
    ·rw [getD_set_ne false (Ne.symm hji)] at hj; exact h1 j hj
  ·refine Zeu hE R hDr hlen hm h0 hQ hQ0 m fuel listed a w hc hsz hcl (fun j hj hij => ?_) hst
   by_cases hjm : j = m
   ·subst hjm
    cases hg : listed.getD j false with
    | true => rfl
    | false => exact absurd ⟨hij, hg⟩ hmi
   ·exact hin j (by omega) hij
structure HS (P : Program) (ops : Array Oper) (nt : Nat) (s0 : Sto) (H : List Id) (lg : Bool) (k : Nat) (io : Ins) (x x' : HSt) (av : AV) (news : Sto) (wr : Wr) (kr : Option (Id × Nat × AV)) : Prop where
 g : StepG P ops nt io x.e x.s x'.e av news wr kr
 krd : ∀ y, kr = some y → (∃ cs, (kbx lg s0 H).lookup y.1 = some (.box false cs) ∧ cs[y.2.1]? = some y.2.2) ∧ av = y.2.2 ∧ ∃ d, io.d = some d
 mono : ∀ id b, x.s.lookup id = some b → x'.s.lookup id = some b
 inv : ∀ id b, x'.s.lookup id = some b → x.s.lookup id = some b ∨ news.lookup id = some b
 crt : ∀ id b, news.lookup id = some b → (x'.s.lookup id = some b ∧ x.s.lookup id = none ∧ (lg = true → id ∉ H)) ∨ (lg = true ∧ id ∈ H ∧ s0.lookup id = none ∧ x.p.lookup id = none ∧ x'.p.lookup id = some b ∧ (k, id) ∈ x'.C)
 wri : ∀ y, wr = some y → y.1 ∈ H ∧ x'.p.lookup y.1 = some y.2.2 ∧ (match x.p.lookup y.1 with | some b => some b | none => s0.lookup y.1) = some y.2.1 ∧ y.2.2.isBox = y.2.1.isBox ∧ (y.2.1.isBox = true → x.p.lookup y.1 = none ∧ s0.lookup y.1 = some y.2.1) ∧ (lg = true → y.2.1.isBox = true → ∀ r ∈ H, r ∉ y.2.1.ids)
 oth : ∀ id, (∀ y, wr = some y → y.1 ≠ id) → ∀ b, (x.p.lookup id = some b → x'.p.lookup id = some b) ∧ (x'.p.lookup id = some b → x.p.lookup id = some b ∨ news.lookup id = some b ∧ (k, id) ∈ x'.C)
 app : ∀ id, Ap wr id → lg = true ∧ av = .top ∧ (∀ a ∈ x.A, a.id ≠ id) ∧ ∃ d anc p q T sz, io.d = some d ∧ io.op = .apx p q T sz anc ∧ ⟨id, d, k, anc⟩ ∈ x'.A
 A1 : ∀ a ∈ x.A, a ∈ x'.A
 A2 : ∀ a ∈ x'.A, a ∈ x.A ∨ Ap wr a.id ∧ io.d = some a.d ∧ a.k = k
 U1 : ∀ u ∈ x.U, u ∈ x'.U
 U2 : lg = true → ∃ vs, (k, vs) ∈ x'.U ∧ (∀ t ∈ io.uses, ∀ v, x.e.lookup t = some v → v ∈ vs) ∧ ∀ t, io.d = some t → av ∈ vs ∨ av.ids = []
 C1 : ∀ c ∈ x.C, c ∈ x'.C
theorem Z4n {o : Ins} {e : Env} {t : Nat} {v : AV} (ht : t ∈ o.uses) (h : e.lookup t = some v) : v ∈ usesV o e := List.mem_filterMap.2 ⟨t, ht, h⟩
theorem Zcv (p : List (Id × Blk)) (id i : Id) (b : Blk) : (putP p id b).lookup i = if i = id then some b else p.lookup i := by
 unfold putP
 split
 ·rename_i hs
  obtain ⟨c, hc⟩ := Fu hs
  have := Zd p id i b
  unfold Sto.put at this
  rw [this]
  split
  ·rename_i he; subst he; rw [hc]; rfl
  ·rfl
 ·rw [List.lookup_cons]
  by_cases he : i = id
  ·subst he; simp
  ·have : (i == id) = false := by simpa using he
   rw [this, if_neg he]
theorem Z76 {s : Sto} {id : Id} {b : Blk} (h : s.lookup id = some b) : ∃ x ∈ s, x.1 = id ∧ x.2 = b := by
 induction s with
 | nil => cases h
 | cons x r ih =>
  rw [List.lookup_cons] at h
  split at h
  ·rename_i he
   simp at h
   exact ⟨x, by simp, (by simpa using he : id = x.1).symm, h⟩
  ·obtain ⟨y, hy, h2⟩ := ih h
   exact ⟨y, by simp [hy], h2⟩
theorem lookup_appX (a b : Env) (t : Nat) : (a ++ b).lookup t = match a.lookup t with | some v => some v | none => b.lookup t := by
 induction a with
 | nil => rfl
 | cons x r ih =>
  obtain ⟨j, v⟩ := x
  rw [List.cons_append, List.lookup_cons, List.lookup_cons]
  split
  ·rfl
  ·exact ih
theorem lookup_memX {s : Env} {t : Nat} {v : AV} (h : s.lookup t = some v) : ∃ x ∈ s, x.1 = t ∧ x.2 = v := by
 induction s with
 | nil => cases h
 | cons x r ih =>
  rw [List.lookup_cons] at h
  split at h
  ·rename_i he
   simp at h
   exact ⟨x, by simp, (by simpa using he : t = x.1).symm, h⟩
  ·obtain ⟨y, hy, h2⟩ := ih h
   exact ⟨y, by simp [hy], h2⟩
theorem lookup_mapX (f : AV → AV) (e : Env) (t : Nat) : (e.map fun x => (x.1, f x.2)).lookup t = (e.lookup t).map f := by
 induction e with
 | nil => rfl
 | cons x r ih =>
  rw [List.map_cons, List.lookup_cons, List.lookup_cons]
  split
  ·rfl
  ·exact ih
theorem stepsH_one (hE : FS P C) {ops : Array Oper} {nt : Nat} {s0 : Sto} {H : List Id} {lg : Bool} {k n : Nat} {o : Ins} {l : List Ins} {x : HSt} {r : HSt × List Ins} (h : Yi C π s0 H lg k (n + 1) (o :: l) x.e x.s x.p x.A x.U x.C = some r) (hH : lg = true → ∀ id ∈ H, x.s.lookup id = none) :
  ∃ x' av news wr kr, HS P ops nt s0 H lg k o x x' av news wr kr ∧ Yi C π s0 H lg (k + 1) n l x'.e x'.s x'.p x'.A x'.U x'.C = some r ∧ (lg = true → ∀ id ∈ H, x'.s.lookup id = none) := by
 rw [Yi] at h
 split at h
 ·rename_i y hy
  split at h
  case isFalse => cases h
  rename_i hc
  obtain ⟨g1, g2, g3, g4, g5⟩ := stW_ok (P := P) (ops := ops) (nt := nt) (s := x.s) hy
  refine ⟨⟨x.e, x.s, (y.1, y.2.2) :: x.p, x.A, if lg = true then (k, usesV o x.e) :: x.U else x.U, x.C⟩, _, _, _, _, ⟨g1, fun y hy => (by cases hy), fun _ _ h => h, fun _ _ h => .inl h, fun _ _ h => (by cases h), fun z hz => ?_, fun id hid b => ?_, fun id hid => ?_, fun _ h => h, fun _ h => .inl h, fun u hu => ?_, fun hl => ?_, fun _ h => h⟩, h, hH⟩
  ·cases hz
   simp only [Bool.and_eq_true, Bool.or_eq_true, Bool.not_eq_true'] at hc
   have hbx : y.2.2.isBox = true := by
    have := hy
    unfold stW at this
    repeat' split at this
    all_goals first | (cases this; done) | (simp only [Option.some.injEq] at this; subst this; rfl)
   exact ⟨by simpa using hc.1, by simp, by rw [g3]; exact g2, by rw [hbx, g4], fun _ => ⟨g3, g2⟩, fun hl _ r hr hri => by
    rcases hc.2 with h1 | h1
    ·rw [hl] at h1; cases h1
    ·have := List.all_eq_true.1 h1 r hri
     simp [hr] at this⟩
  ·have hne : (id == y.1) = false := by simpa using Ne.symm (hid y rfl)
   simp only [List.lookup_cons, hne]
   exact ⟨fun h => h, fun h => .inl h⟩
  ·obtain ⟨z, hz, hb, _⟩ := hid
   cases hz
   rw [g4] at hb; cases hb
  ·simp only; split
   ·exact List.mem_cons_of_mem _ hu
   ·exact hu
  ·exact ⟨usesV o x.e, by simp [hl], fun t ht v hv => Z4n ht hv, fun t ht => by rw [g5] at ht; cases ht⟩
 ·split at h
  ·rename_i y hy
   split at h
   case isFalse => cases h
   rename_i hc
   simp only [Bool.and_eq_true, Bool.not_eq_true'] at hc
   obtain ⟨g1, g2, g3, g4, a1, b1, T1, z1, g5⟩ := appW_ok (P := P) (ops := ops) (nt := nt) hy
   have hne : ∀ a ∈ x.A, a.id ≠ y.2.2.1 := fun a ha he => by
    have := List.any_eq_false.1 hc.2 a ha
    simp [he] at this
   have hbx : y.2.2.2.2.isBox = false := by
    have := hy
    unfold appW at this
    repeat' split at this
    all_goals first | (cases this; done) | (simp only [Option.some.injEq] at this; subst this; rfl)
   refine ⟨⟨x.e.set o.d .top, x.s, putP x.p y.2.2.1 y.2.2.2.2, ⟨y.2.2.1, y.1, k, y.2.1⟩ :: x.A, (k, usesV o x.e) :: x.U, x.C⟩, _, _, _, _, ⟨g1, fun y hy => (by cases hy), fun _ _ h => h, fun _ _ h => .inl h, fun _ _ h => (by cases h), fun z hz => ?_, fun id hid b => ?_, fun id hid => ?_, fun _ h => List.mem_cons_of_mem _ h, fun a ha => ?_, fun _ h => List.mem_cons_of_mem _ h, fun hl => ?_, fun _ h => h⟩, h, hH⟩
   ·cases hz
    exact ⟨by simpa using hc.1.2, by simp [Zcv], g2, by rw [hbx, g3], fun hh => (by rw [g3] at hh; cases hh), fun _ hh => by rw [g3] at hh; cases hh⟩
   ·simp only [Zcv, if_neg (Ne.symm (hid y.2.2 rfl))]
    exact ⟨fun h => h, fun h => .inl h⟩
   ·obtain ⟨z, hz, _, rfl⟩ := hid
    cases hz
    exact ⟨hc.1.1, rfl, hne, y.1, y.2.1, a1, b1, T1, z1, g4, g5, by simp⟩
   ·rcases List.mem_cons.1 ha with rfl | ha
    ·exact .inr ⟨⟨_, rfl, g3, rfl⟩, g4, rfl⟩
    ·exact .inl ha
   ·exact ⟨usesV o x.e, by simp, fun t ht v hv => Z4n ht hv, fun _ _ => .inr rfl⟩
  ·split at h
   ·rename_i y hy
    obtain ⟨g1, g2, g3⟩ := ldW_ok (P := P) hE (ops := ops) (nt := nt) (s := x.s) hy
    refine ⟨⟨x.e.set o.d y.2.2, x.s, x.p, x.A, (k, y.2.2 :: usesV o x.e) :: x.U, x.C⟩, _, _, _, _, ⟨g1, fun z hz => ?_, fun _ _ h => h, fun _ _ h => .inl h, fun _ _ h => (by cases h), fun z hz => (by cases hz), fun id _ b => ⟨fun h => h, fun h => .inl h⟩, fun id hid => ?_, fun _ h => h, fun _ h => .inl h, fun _ h => List.mem_cons_of_mem _ h, fun _ => ?_, fun _ h => h⟩, h, hH⟩
    ·cases hz
     exact ⟨g2, rfl, g3⟩
    ·obtain ⟨z, hz, _⟩ := hid; cases hz
    ·exact ⟨_, List.mem_cons_self, fun t ht v hv => List.mem_cons_of_mem _ (Z4n ht hv), fun _ _ => .inl List.mem_cons_self⟩
   split at h
   ·rename_i hcs0
    simp only [Bool.and_eq_true] at hcs0
    split at h
    case h_2 => cases h
    rename_i y hy
    obtain ⟨g1, g2, g3, g4⟩ := callW_ok (P := P) hE (ops := ops) (nt := nt) (s := x.s) hy hcs0.2
    refine ⟨⟨x.e.set o.d (.p y.1), x.s, (y.2.1, .mpb y.2.2.2) :: x.p, x.A, (k, .p y.1 :: usesV o x.e) :: x.U, x.C⟩, _, _, _, _, ⟨g1, fun y hy => (by cases hy), fun _ _ h => h, fun _ _ h => .inl h, fun _ _ h => (by cases h), fun z hz => ?_, fun id hid b => ?_, fun id hid => ?_, fun _ h => h, fun _ h => .inl h, fun _ h => List.mem_cons_of_mem _ h, fun _ => ?_, fun _ h => h⟩, h, hH⟩
    ·cases hz
     exact ⟨g4, by simp, by rw [g3]; exact g2, rfl, fun _ => ⟨g3, g2⟩, fun _ _ r hr hri => by simp [Blk.ids] at hri⟩
    ·have hne : (id == y.2.1) = false := by simpa using Ne.symm (hid _ rfl)
     simp only [List.lookup_cons, hne]
     exact ⟨fun h => h, fun h => .inl h⟩
    ·obtain ⟨z, hz, hb, _⟩ := hid
     cases hz
     simp [Blk.isBox] at hb
    ·exact ⟨_, List.mem_cons_self, fun t ht v hv => List.mem_cons_of_mem _ (Z4n ht hv), fun _ _ => .inl List.mem_cons_self⟩
   split at h
   case h_2 => cases h
   rename_i y hy
   obtain ⟨av, news, st⟩ := Zca (P := P) hE (ops := ops) (nt := nt) (e1 := y.1) (s1 := y.2) hy
   have nl : ∀ id b, news.lookup id = some b → x.s.lookup id = none := fun id b hb => by
    cases hl : x.s.lookup id with
    | none => rfl
    | some b' => rw [Gi st.fresh hl] at hb; cases hb
   have y2 : ∀ id, y.2.lookup id = match news.lookup id with | some b => some b | none => x.s.lookup id := fun id => by rw [st.sto, lookup_append]; cases news.lookup id <;> rfl
   split at h
   ·rename_i hlg
    split at h
    case isFalse => cases h
    rename_i hall
    have lkH : ∀ i, (y.2.filter fun z => !H.contains z.1).lookup i = if (!H.contains i) = true then y.2.lookup i else none := fun i => Yb (fun j => !H.contains j) i y.2
    have lkV : ∀ i, (y.2.filter fun z => H.contains z.1).lookup i = if (H.contains i) = true then y.2.lookup i else none := fun i => Yb (fun j => H.contains j) i y.2
    have hhid : ∀ id b, news.lookup id = some b → id ∈ H → s0.lookup id = none ∧ x.p.lookup id = none ∧ (k, id) ∈ (y.2.filter fun z => H.contains z.1).map fun z => (k, z.1) := fun id b hb hin => by
     obtain ⟨z, hz, hz1, _⟩ := Z76 (s := y.2.filter fun z => H.contains z.1) (id := id) (b := b) (by rw [lkV, if_pos (by simpa using hin), y2, hb])
     have := List.all_eq_true.1 hall z hz
     simp only [Bool.and_eq_true, Bool.not_eq_true'] at this
     rw [hz1] at this
     exact ⟨Q1 (by simp [this.2]), by simpa using this.1, List.mem_map.2 ⟨z, hz, by rw [hz1]⟩⟩
    have inH : ∀ id, id ∈ H → (y.2.filter fun z => H.contains z.1).lookup id = news.lookup id := fun id hin => by
     rw [lkV, if_pos (by simpa using hin), y2]
     cases hn : news.lookup id with
     | some b => rfl
     | none => simp only; exact hH hlg id hin
    refine ⟨⟨y.1, y.2.filter fun z => !H.contains z.1, (y.2.filter fun z => H.contains z.1) ++ x.p, x.A, (k, (o.d.bind fun d => y.1.lookup d).toList ++ usesV o x.e) :: x.U, ((y.2.filter fun z => H.contains z.1).map fun z => (k, z.1)) ++ x.C⟩, av, news, none, none,
     ⟨st.g, fun y hy => (by cases hy), fun id b hb => ?_, fun id b hb => ?_, fun id b hb => ?_, fun z hz => (by cases hz), fun id _ b => ?_, fun id hid => ?_, fun _ h => h, fun _ h => .inl h, fun _ h => List.mem_cons_of_mem _ h, fun _ => ?_, fun _ h => List.mem_append_right _ h⟩, h, fun _ id hin => ?_⟩
    ·simp only
     rw [lkH, if_pos, y2]
     ·cases hn : news.lookup id with
      | none => exact hb
      | some b' => rw [nl id b' hn] at hb; cases hb
     ·cases hin : H.contains id with
      | false => rfl
      | true => rw [hH hlg id (by simpa using hin)] at hb; cases hb
    ·simp only [lkH] at hb
     split at hb
     ·rw [y2] at hb
      cases hn : news.lookup id with
      | none => rw [hn] at hb; exact .inl hb
      | some b' => rw [hn] at hb; exact .inr hb
     ·cases hb
    ·by_cases hin : id ∈ H
     ·obtain ⟨q1, q2, q3⟩ := hhid id b hb hin
      exact .inr ⟨hlg, hin, q1, q2, by simp only; rw [lookup_append, inH id hin, hb], List.mem_append_left _ q3⟩
     ·exact .inl ⟨by simp only; rw [lkH, if_pos (by simpa using hin), y2, hb], nl id b hb, fun _ => hin⟩
    ·simp only [lookup_append]
     by_cases hin : id ∈ H
     ·rw [inH id hin]
      cases hn : news.lookup id with
      | none => exact ⟨fun h => h, fun h => .inl h⟩
      | some b' =>
       obtain ⟨q1, q2, q3⟩ := hhid id b' hn hin
       exact ⟨fun h => (by rw [q2] at h; cases h), fun h => .inr ⟨h, List.mem_append_left _ q3⟩⟩
     ·rw [lkV, if_neg (by simpa using hin)]
      exact ⟨fun h => h, fun h => .inl h⟩
    ·obtain ⟨z, hz, _⟩ := hid; cases hz
    ·refine ⟨_, List.mem_cons_self, fun t ht v hv => List.mem_append_right _ (Z4n ht hv), fun t ht => .inl (List.mem_append_left _ ?_)⟩
     rw [ht, st.env, ht]
     simp [Env.set]
    ·simp only
     rw [lkH, if_neg (by simpa using hin)]
   ·rename_i hlg
    refine ⟨⟨y.1, y.2, x.p, x.A, x.U, x.C⟩, av, news, none, none, ⟨st.g, fun y hy => (by cases hy), fun id b hb => ?_, fun id b hb => ?_, fun id b hb => .inl ⟨?_, nl id b hb, fun h => absurd h hlg⟩, fun z hz => (by cases hz), fun id _ b => ⟨fun h => h, fun h => .inl h⟩, fun id hid => ?_, fun _ h => h, fun _ h => .inl h, fun _ h => h, fun h => absurd h hlg, fun _ h => h⟩, h, fun h => absurd h hlg⟩
    ·simp only [y2]
     cases hn : news.lookup id with
     | none => exact hb
     | some b' => rw [nl id b' hn] at hb; cases hb
    ·simp only [y2] at hb
     cases hn : news.lookup id with
     | none => rw [hn] at hb; exact .inl hb
     | some b' => rw [hn] at hb; exact .inr hb
    ·simp only [y2, hb]
    ·obtain ⟨z, hz, _⟩ := hid; cases hz
theorem Zfj (hE : FS P C) {ops : Array Oper} {nt : Nat} {s0 : Sto} {H : List Id} {lg : Bool} : ∀ (n k : Nat) (l : List Ins) (x h : HSt) (r : List Ins), Yi C π s0 H lg k n l x.e x.s x.p x.A x.U x.C = some (h, r) → n ≤ l.length → (lg = true → ∀ id ∈ H, x.s.lookup id = none) →
  r = l.drop n ∧ ∃ (xs : Nat → HSt) (avs : Nat → AV) (nw : Nat → Sto) (wr : Nat → Wr) (kr : Nat → Option (Id × Nat × AV)), xs 0 = x ∧ xs n = h ∧ ∀ i, i < n → ∃ io, l[i]? = some io ∧ HS P ops nt s0 H lg (k + i) io (xs i) (xs (i + 1)) (avs i) (nw i) (wr i) (kr i)
 | 0, k, l, x, h, r, hs, _, _ => by
  simp [Yi] at hs
  obtain ⟨rfl, rfl⟩ := hs
  exact ⟨rfl, fun _ => x, fun _ => default, fun _ => [], fun _ => none, fun _ => none, rfl, rfl, fun i hi => by omega⟩
 | n + 1, k, [], x, h, r, hs, hn, _ => by simp at hn
 | n + 1, k, o :: l, x, h, r, hs, hn, hH => by
  obtain ⟨x', av, news, w1, kr1, g1, g2, g3⟩ := stepsH_one hE (ops := ops) (nt := nt) hs hH
  obtain ⟨q0, xs, avs, nw, wr, kr, q1, q2, q3⟩ := Zfj hE (ops := ops) (nt := nt) n (k + 1) l x' h r g2 (by simpa using hn) g3
  refine ⟨by simpa using q0, fun i => match i with | 0 => x | i + 1 => xs i, fun i => match i with | 0 => av | i + 1 => avs i, fun i => match i with | 0 => news | i + 1 => nw i, fun i => match i with | 0 => w1 | i + 1 => wr i, fun i => match i with | 0 => kr1 | i + 1 => kr i, rfl, q2, fun i hi => ?_⟩
  cases i with
  | zero => exact ⟨o, rfl, by simp only [q1]; exact g1⟩
  | succ i =>
   obtain ⟨io, h1, h2⟩ := q3 i (by omega)
   exact ⟨io, by simpa using h1, by rw [show k + (i + 1) = k + 1 + i by omega]; exact h2⟩
theorem run_of (hE : FS P C) {s : Sto} {e : Env} {H : List Id} {lg : Bool} {h : HSt} {r : List Ins} {e' : Env} {s' : Sto} {BB : Nat → Nat} (hDr : DrawOk P ops l n BB) (hs : Yi C π s H lg 0 n l e (s.filter fun x => !H.contains x.1) [] [] [] [] = some (h, r))
    (hall : (H.all fun id => ((h.p.lookup id).isSome || ((kbx lg s H).lookup id).isSome) && !h.s.has id) = true) (hok : apxOk s h = true) (ht : steps C π 0 r (apxE h) (h.p ++ (kbS (kbx lg s H) (fun i => h.A.any fun a => a.id == i) ++ h.s)) = some (e', s')) :
    ∃ (es : Nat → Env) (ss : Nat → Sto) (avs : Nat → AV) (nw : Nat → Sto) (wr : Nat → Wr) (et : Nat → Env) (ts : Nat → Sto) (kr : Nat → Option (Id × Nat × AV)), Run P C π ops nt l n BB es ss avs nw wr et ts s (kbx lg s H) kr ∧ es 0 = e ∧ et l.length = e' ∧ ts l.length = s' := by
  have lkH : ∀ i, (s.filter fun x => !H.contains x.1).lookup i = if (!H.contains i) = true then s.lookup i else none := fun i => Yb (fun j => !H.contains j) i s
  obtain ⟨q0, xs, avs, nw, wr, kr, q1, q2, q3⟩ := Zfj hE (ops := ops) (nt := nt) n 0 l ⟨e, s.filter fun x => !H.contains x.1, [], [], [], []⟩ h r hs hDr.le fun _ id hin => by
    simp only
    rw [lkH, if_neg (by simpa using hin)]
  simp only [Nat.zero_add] at q3
  obtain ⟨es2, ss2, _, _, t1, t2, t3, t4, _, t6⟩ := Z8c (P := P) (ops := ops) (nt := nt) hE 0 r (apxE h) (h.p ++ (kbS (kbx lg s H) (fun i => h.A.any fun a => a.id == i) ++ h.s)) e' s' ht (Nat.zero_le _)
  have hrl : r.length = l.length - n := by rw [q0, List.length_drop]
  have hln := hDr.le
  have S : ∀ i, i < n → ∃ io, l[i]? = some io ∧ HS P ops nt s H lg i io (xs i) (xs (i + 1)) (avs i) (nw i) (wr i) (kr i) := q3
  have hasN : ∀ id, id ∈ H → h.s.lookup id = none := fun id hin => by
    have := List.all_eq_true.1 hall id hin
    simp only [Bool.and_eq_true, Bool.not_eq_true'] at this
    exact Q1 (by simp [this.2])
  have grow : ∀ (m i : Nat), i ≤ m → m ≤ n → (∀ a ∈ (xs i).A, a ∈ (xs m).A) ∧ (∀ u ∈ (xs i).U, u ∈ (xs m).U) ∧ (∀ c ∈ (xs i).C, c ∈ (xs m).C) ∧ ∀ id b, (xs i).s.lookup id = some b → (xs m).s.lookup id = some b := by
    intro m
    induction m with
    | zero => intro i hi _; have : i = 0 := by omega
              subst this; exact ⟨fun _ h => h, fun _ h => h, fun _ h => h, fun _ _ h => h⟩
    | succ m ih =>
      intro i hi hm
      rcases Nat.lt_or_ge i (m + 1) with hlt | hge
      · obtain ⟨g1, g2, g3, g4⟩ := ih i (by omega) (by omega)
        obtain ⟨io, _, st⟩ := S m (by omega)
        exact ⟨fun a ha => st.A1 a (g1 a ha), fun a ha => st.U1 a (g2 a ha), fun a ha => st.C1 a (g3 a ha), fun id b hb => st.mono id b (g4 id b hb)⟩
      · have : i = m + 1 := by omega
        subst this; exact ⟨fun _ h => h, fun _ h => h, fun _ h => h, fun _ _ h => h⟩
  have kind : ∀ (m i : Nat), i ≤ m → m ≤ n → ∀ id b, (xs i).p.lookup id = some b → ∃ b', (xs m).p.lookup id = some b' ∧ b'.isBox = b.isBox := by
    intro m
    induction m with
    | zero => intro i hi _ id b hb; have : i = 0 := by omega
              subst this; exact ⟨b, hb, rfl⟩
    | succ m ih =>
      intro i hi hm id b hb
      rcases Nat.lt_or_ge i (m + 1) with hlt | hge
      · obtain ⟨b1, hb1, hk1⟩ := ih i (by omega) (by omega) id b hb
        obtain ⟨io, _, st⟩ := S m (by omega)
        by_cases hw : ∃ y, wr m = some y ∧ y.1 = id
        · obtain ⟨y, hy, rfl⟩ := hw
          obtain ⟨_, w2, w3, w4, _, _⟩ := st.wri y hy
          rw [hb1] at w3
          simp at w3
          exact ⟨_, w2, by rw [w4, ← w3, hk1]⟩
        · exact ⟨b1, (st.oth id (fun y hy he => hw ⟨y, hy, he⟩) b1).1 hb1, hk1⟩
      · have : i = m + 1 := by omega
        subst this; exact ⟨b, hb, rfl⟩
  have apart : Apart wr n := by
    have key : ∀ i j x y, i < j → j < n → wr i = some x → wr j = some y → x.1 = y.1 → False := fun i j x y hij hj hx hy he => by
      obtain ⟨io, _, si⟩ := S i (by omega)
      obtain ⟨jo, _, sj⟩ := S j hj
      obtain ⟨_, x2, _, x4, _⟩ := si.wri x hx
      obtain ⟨_, _, y3, y4, y5, _⟩ := sj.wri y hy
      obtain ⟨b', hb', hk'⟩ := kind j (i + 1) (by omega) (by omega) x.1 x.2.2 x2
      rw [he] at hb'
      cases hyb : y.2.1.isBox with
      | true => rw [(y5 hyb).1] at hb'; cases hb'
      | false =>
        rw [hb'] at y3
        simp at y3
        rw [y3, hyb, x4] at hk'
        obtain ⟨_, _, _, _, _, _, _, _, _, _, _, hA⟩ := si.app x.1 ⟨x, hx, hk'.symm, rfl⟩
        have h1 := (grow j (i + 1) (by omega) (by omega)).1 _ hA
        exact (sj.app y.1 ⟨y, hy, hyb, rfl⟩).2.2.1 _ h1 he
    intro i j x y hi hj hx hy he
    rcases Nat.lt_trichotomy i j with hlt | h | hlt
    · exact (key i j x y hlt hj hx hy he).elim
    · exact h
    · exact (key j i y x hlt hi hy hx he.symm).elim
  have stay : ∀ (m i : Nat), i ≤ m → m ≤ n → ∀ id b, (∀ k y, i ≤ k → k < m → wr k = some y → y.1 ≠ id) → (xs i).p.lookup id = some b → (xs m).p.lookup id = some b := by
    intro m
    induction m with
    | zero => intro i hi _ id b _ hb; have : i = 0 := by omega
              subst this; exact hb
    | succ m ih =>
      intro i hi hm id b hno hb
      rcases Nat.lt_or_ge i (m + 1) with hlt | hge
      · have hb1 := ih i (by omega) (by omega) id b (fun k y h1 h2 => hno k y h1 (by omega)) hb
        obtain ⟨io, _, st⟩ := S m (by omega)
        exact (st.oth id (fun y hy => hno m y (by omega) (by omega) hy) b).1 hb1
      · have : i = m + 1 := by omega
        subst this; exact hb
  have whence : ∀ (m : Nat), m ≤ n → ∀ id b, (xs m).p.lookup id = some b → (∃ k y, k < m ∧ wr k = some y ∧ y.1 = id) ∨ ∃ i, i < m ∧ (nw i).lookup id = some b ∧ (i, id) ∈ (xs (i + 1)).C := by
    intro m
    induction m with
    | zero => intro _ id b hb; rw [q1] at hb; simp at hb
    | succ m ih =>
      intro hm id b hb
      obtain ⟨io, _, st⟩ := S m (by omega)
      by_cases hw : ∃ y, wr m = some y ∧ y.1 = id
      · obtain ⟨y, hy, he⟩ := hw
        exact .inl ⟨m, y, by omega, hy, he⟩
      · rcases (st.oth id (fun y hy he => hw ⟨y, hy, he⟩) b).2 hb with h1 | ⟨h1, h2⟩
        · rcases ih (by omega) id b h1 with ⟨k, y, k1, k2, k3⟩ | ⟨i, k1, k2, k3⟩
          · exact .inl ⟨k, y, by omega, k2, k3⟩
          · exact .inr ⟨i, by omega, k2, k3⟩
        · exact .inr ⟨m, by omega, h1, h2⟩
  have Aof : ∀ (m : Nat), m ≤ n → ∀ a ∈ (xs m).A, ∃ i, i < m ∧ Ap (wr i) a.id ∧ dOf l i = some a.d ∧ a.k = i := by
    intro m
    induction m with
    | zero => intro _ a ha; rw [q1] at ha; simp at ha
    | succ m ih =>
      intro hm a ha
      obtain ⟨io, hio, st⟩ := S m (by omega)
      rcases st.A2 a ha with h1 | ⟨h1, h2, h3⟩
      · obtain ⟨i, g1, g2⟩ := ih (by omega) a h1
        exact ⟨i, by omega, g2⟩
      · exact ⟨m, by omega, h1, by unfold dOf; rw [hio]; exact h2, h3⟩
  unfold apxOk at hok
  simp only [Bool.and_eq_true] at hok
  obtain ⟨hok1, hok2⟩ := hok
  have apEnt : ∀ k id, k < n → Ap (wr k) id → ∃ d anc, ⟨id, d, k, anc⟩ ∈ h.A ∧ dOf l k = some d ∧ (∀ j ∈ anc, (BB k).testBit j = true) ∧ avs k = .top ∧ lg = true := fun k id hk hap => by
    obtain ⟨io, hio, st⟩ := S k hk
    obtain ⟨a1, a2, _, d, anc, p, q, T, sz, a3, a4, a5⟩ := st.app id hap
    refine ⟨d, anc, ?_, by unfold dOf; rw [hio]; exact a3, fun j hj => hDr.anc k io p q T sz anc hk hio a4 j hj, a2, a1⟩
    have := (grow n (k + 1) (by omega) (Nat.le_refl _)).1 _ a5
    rwa [q2] at this
  have chk : ∀ a ∈ h.A, (∀ u ∈ h.U, u.1 = a.k ∨ (∀ v ∈ u.2, a.id ∉ v.ids) ∨ u.1 ∈ a.anc) ∧ (∀ c ∈ h.C, c.2 = a.id → c.1 ∈ a.anc) ∧ (∀ x ∈ h.p ++ h.s, a.id ∉ x.2.ids) := fun a ha => by
    have := List.all_eq_true.1 hok1 a ha
    simp only [Bool.and_eq_true] at this
    refine ⟨fun u hu => ?_, fun c hc he => ?_, fun x hx => ?_⟩
    · have := List.all_eq_true.1 this.1.1 u hu
      simp only [Bool.or_eq_true, beq_iff_eq] at this
      rcases this with (h1 | h1) | h1
      · exact .inl h1
      · exact .inr (.inl fun v hv => by simpa using List.all_eq_true.1 h1 v hv)
      · exact .inr (.inr (by simpa using h1))
    · have := List.all_eq_true.1 this.1.2 c hc
      simp only [Bool.or_eq_true, bne_iff_ne] at this
      rcases this with h1 | h1
      · exact absurd he h1
      · simpa using h1
    · simpa using List.all_eq_true.1 this.2 x hx
  have memOf : ∀ {t : Sto} {id : Id} {b : Blk}, t.lookup id = some b → ∃ x ∈ t, x.2 = b := fun hb => by
    obtain ⟨x, h1, _, h2⟩ := Z76 hb
    exact ⟨x, h1, h2⟩
  have pFin : ∀ k y, k < n → wr k = some y → h.p.lookup y.1 = some y.2.2 := fun k y hk hy => by
    obtain ⟨io, _, st⟩ := S k hk
    have := stay n (k + 1) (by omega) (Nat.le_refl _) y.1 y.2.2 (fun k' y' h1 h2 h3 h4 => by have := apart k' k y' y h2 hk h3 hy h4; omega) (st.wri y hy).2.1
    rwa [q2] at this
  have oldOf : ∀ k x, k < n → wr k = some x → s.lookup x.1 = some x.2.1 ∨ ∃ i, i < n ∧ (nw i).lookup x.1 = some x.2.1 ∧ (BB k).testBit i = true := fun k x hk hx => by
    obtain ⟨io, _, st⟩ := S k hk
    obtain ⟨_, _, w3, _, w5, _⟩ := st.wri x hx
    cases hb : x.2.1.isBox with
    | true => exact .inl (w5 hb).2
    | false =>
      cases hp : (xs k).p.lookup x.1 with
      | none => rw [hp] at w3; exact .inl w3
      | some b =>
        rw [hp] at w3
        simp at w3
        subst w3
        rcases whence k (by omega) _ _ hp with ⟨k', y, k1, k2, k3⟩ | ⟨i, k1, k2, k3⟩
        · have := apart k' k y x (by omega) hk k2 hx k3; omega
        · obtain ⟨d, anc, e1, _, e3, _, _⟩ := apEnt k x.1 hk ⟨x, hx, hb, rfl⟩
          have hC := (grow n (i + 1) (by omega) (Nat.le_refl _)).2.2.1 _ k3
          rw [q2] at hC
          exact .inr ⟨i, by omega, k2, e3 i ((chk _ e1).2.1 _ hC rfl)⟩
  have hidn : ∀ i x, i < n → wr i = some x → (xs n).s.lookup x.1 = none := fun i x hi hx => by
    obtain ⟨io, _, st⟩ := S i hi
    rw [q2]
    exact hasN _ (st.wri x hx).1
  have sub0 : ∀ id b, (xs 0).s.lookup id = some b → s.lookup id = some b := fun id b hb => by
    rw [q1] at hb
    simp only [lkH] at hb
    split at hb
    · exact hb
    · cases hb
  have kbIn : ∀ id b, (kbx lg s H).lookup id = some b → lg = true ∧ id ∈ H ∧ ∃ cs, b = .box false cs ∧ s.lookup id = some (.box false cs) ∧ ∃ r ∈ H, r ∈ (Blk.box false cs).ids := fun id b hb => by
    unfold kbx at hb
    split at hb
    case isFalse => cases hb
    rename_i hlg
    obtain ⟨y, hy, rfl, rfl⟩ := Z76 hb
    obtain ⟨id0, hid0, hm⟩ := List.mem_filterMap.1 hy
    split at hm
    case h_2 => cases hm
    rename_i cs hl
    split at hm
    case isFalse => cases hm
    rename_i hany
    simp only [Option.some.injEq] at hm
    subst hm
    obtain ⟨r, hr, hr2⟩ := List.any_eq_true.1 hany
    exact ⟨hlg, hid0, cs, rfl, hl, r, by simpa using hr2, hr⟩
  have wrOf : ∀ id, id ∈ H → (kbx lg s H).lookup id = none → ∃ i x, i < n ∧ wr i = some x ∧ x.1 = id := fun id hin hnK => by
    have := List.all_eq_true.1 hall id hin
    simp only [Bool.and_eq_true, hnK, Option.isSome_none, Bool.or_false] at this
    obtain ⟨b, hb⟩ := Fu this.1
    rw [← q2] at hb
    rcases whence n (Nat.le_refl _) id b hb with h1 | ⟨i, h1, h2, h3⟩
    · exact h1
    · have hC := (grow n (i + 1) (by omega) (Nat.le_refl _)).2.2.1 _ h3
      rw [q2] at hC
      have := List.all_eq_true.1 hok2 _ hC
      obtain ⟨a, ha, he⟩ := List.any_eq_true.1 this
      obtain ⟨k, k1, ⟨y, k2, _, k3⟩, _⟩ := Aof n (Nat.le_refl _) a (by rw [q2]; exact ha)
      exact ⟨k, y, k1, k2, k3.trans (by simpa using he)⟩
  have crt : ∀ i, i < n → ∀ id b, (nw i).lookup id = some b → s.lookup id = none ∧ (((xs n).s.lookup id = some b ∧ ∀ k x, k < n → wr k = some x → x.1 ≠ id) ∨ ∃ k x, k < n ∧ wr k = some x ∧ x.1 = id ∧ x.2.1 = b ∧ (BB k).testBit i = true) := fun i hi id b hb => by
    obtain ⟨io, _, st⟩ := S i hi
    rcases st.crt id b hb with ⟨c1, c2, c3⟩ | ⟨c1, c2, c3, c4, c5, c6⟩
    · have hn := (grow n (i + 1) (by omega) (Nat.le_refl _)).2.2.2 id b c1
      have hnH : id ∉ H := fun hin => by rw [q2, hasN id hin] at hn; cases hn
      refine ⟨?_, .inl ⟨hn, fun k x hk hx he => by rw [← he, hidn k x hk hx] at hn; cases hn⟩⟩
      cases hs0 : s.lookup id with
      | none => rfl
      | some b0 =>
        have h0 : (xs 0).s.lookup id = some b0 := by rw [q1]; simp only; rw [lkH, if_pos (by simpa using hnH)]; exact hs0
        rw [(grow i 0 (Nat.zero_le _) (by omega)).2.2.2 id b0 h0] at c2
        cases c2
    · refine ⟨c3, .inr ?_⟩
      have hnK : (kbx lg s H).lookup id = none := by
        cases hK : (kbx lg s H).lookup id with
        | none => rfl
        | some b => obtain ⟨_, _, cs, _, h4, _⟩ := kbIn id b hK; rw [c3] at h4; cases h4
      obtain ⟨k, x, hk, hx, rfl⟩ := wrOf id c2 hnK
      refine ⟨k, x, hk, hx, rfl, ?_⟩
      rcases oldOf k x hk hx with h1 | ⟨j, h1, h2, h3⟩
      · rw [c3] at h1; cases h1
      ·
        have hij : i = j := by
          have hx2 : (xs n).p.lookup x.1 = some x.2.2 := by rw [q2]; exact pFin k x hk hx
          obtain ⟨jo, _, sj⟩ := S j h1
          rcases sj.crt x.1 _ h2 with ⟨d1, _, d3⟩ | ⟨_, _, _, d4, d5, _⟩
          · exact absurd c2 (d3 c1)
          · rcases Nat.lt_trichotomy i j with hlt | he | hlt
            · obtain ⟨b', hb', _⟩ := kind j (i + 1) (by omega) (by omega) _ _ c5
              rw [d4] at hb'; cases hb'
            · exact he
            · obtain ⟨b', hb', _⟩ := kind i (j + 1) (by omega) (by omega) _ _ d5
              rw [c4] at hb'; cases hb'
        subst hij
        rw [hb] at h2
        exact ⟨(Option.some.inj h2).symm, h3⟩
  have nap : ∀ i j, i < n → j < n → ∀ id b b', (nw i).lookup id = some b → (nw j).lookup id = some b' → i = j := by
    have key : ∀ i j, i < j → j < n → ∀ id b b', (nw i).lookup id = some b → (nw j).lookup id = some b' → False := fun i j hij hj id b b' hb hb' => by
      obtain ⟨_, _, si⟩ := S i (by omega)
      obtain ⟨_, _, sj⟩ := S j hj
      rcases si.crt id b hb with ⟨c1, _, c3⟩ | ⟨c1, c2, _, _, c5, _⟩ <;> rcases sj.crt id b' hb' with ⟨d1, d2, d3⟩ | ⟨d1, d2, _, d4, d5, _⟩
      · rw [(grow j (i + 1) (by omega) (by omega)).2.2.2 id b c1] at d2; cases d2
      · exact c3 d1 d2
      · exact d3 c1 c2
      · obtain ⟨b2, hb2, _⟩ := kind j (i + 1) (by omega) (by omega) _ _ c5
        rw [d4] at hb2; cases hb2
    intro i j hi hj id b b' hb hb'
    rcases Nat.lt_trichotomy i j with hlt | he | hlt
    · exact (key i j hlt hj id b b' hb hb').elim
    · exact he
    · exact (key j i hlt hi id b' b hb' hb).elim
  have top : ∀ k id, k < n → Ap (wr k) id → avs k = .top := fun k id hk hap => by
    obtain ⟨_, _, _, _, _, h5, _⟩ := apEnt k id hk hap
    exact h5
  have kbF : ∀ id b, (kbx lg s H).lookup id = some b → s.lookup id = some b ∧ (∃ l cs, b = .box l cs) ∧ (∀ k x, k < n → wr k = some x → x.1 ≠ id) ∧ (xs n).s.lookup id = none := fun id b hb => by
    obtain ⟨hlg, hin, cs, rfl, hl, r, hr, hri⟩ := kbIn id b hb
    refine ⟨hl, ⟨_, _, rfl⟩, fun k x hk hx he => ?_, by rw [q2]; exact hasN id hin⟩
    obtain ⟨io, _, st⟩ := S k hk
    cases hbx : x.2.1.isBox with
    | true =>
      have h5 := ((st.wri x hx).2.2.2.2.1 hbx).2
      rw [he, hl] at h5
      simp only [Option.some.injEq] at h5
      have h6 := (st.wri x hx).2.2.2.2.2 hlg hbx r hr
      rw [← h5] at h6
      exact h6 hri
    | false =>
      rcases oldOf k x hk hx with h1 | ⟨j, h1, h2, _⟩
      · rw [he, hl] at h1
        simp only [Option.some.injEq] at h1
        rw [← h1] at hbx; cases hbx
      · have := (crt j h1 _ _ h2).1
        rw [he, hl] at this; cases this
  refine ⟨fun i => (xs i).e, fun i => (xs i).s, avs, nw, wr, fun i => es2 (i - n), fun i => ss2 (i - n), kr, ⟨fun i hi => ?_, fun i hi io hio => ?_, fun i hi => ?_, fun i hi => ?_, crt, nap, apart, hidn, sub0, fun id b hb => ?_, kbF, fun i x hi hx => ?_, oldOf, fun k id hk hap i io hi hne hio => ?_, top, fun k id hk hap => ?_, fun listed hli id => ?_, fun t av ht => ?_⟩, by simp only [q1], by simp only [← hrl]; exact t3, by simp only [← hrl]; exact t4⟩
  · obtain ⟨io, h1, st⟩ := S i hi
    exact ⟨io, h1, st.g⟩
  · have := t6 (i - n) (Nat.zero_le _) io (by rw [q0, List.getElem?_drop]; rw [show n + (i - n) = i by omega]; exact hio)
    rw [show i + 1 - n = i - n + 1 by omega]
    exact this
  · obtain ⟨_, _, st⟩ := S i hi; exact st.mono
  · obtain ⟨_, _, st⟩ := S i hi; exact st.inv
  · rw [Zz]
    cases hK : (kbx lg s H).lookup id with
    | some b2 =>
      obtain ⟨f1, _, f3, _⟩ := kbF id b2 hK
      rw [Z1b fun i x h1 h2 h3 => f3 i x h1 h2 h3]
      simp only
      rw [Z77 fun i => by
        cases hc : apL wr #[] n i with
        | false => rfl
        | true =>
          obtain ⟨k, _, hk, _⟩ := Z86.1 hc
          simp at hk]
      rw [← f1]; exact hb
    | none =>
    by_cases hin : id ∈ H
    · obtain ⟨i, x, h1, h2, rfl⟩ := wrOf id hin hK
      rw [Z01 apart h1 h2]
      rcases oldOf i x h1 h2 with h3 | ⟨j, h3, h4, _⟩
      · rw [hb] at h3; simp at h3; simp [h3]
      · rw [(crt j h3 _ _ h4).1] at hb; cases hb
    · rw [Z1b fun i x h1 h2 h3 => hin (by obtain ⟨_, _, st⟩ := S i h1; rw [← h3]; exact (st.wri x h2).1)]
      simp only [q1]
      rw [lkH, if_pos (by simpa using hin)]; exact hb
  · obtain ⟨io, hio, st⟩ := S i hi
    obtain ⟨h1, h2, d, h3⟩ := st.krd x hx
    exact ⟨h1, h2, d, by unfold dOf; rw [hio]; exact h3⟩
  · obtain ⟨d, anc, e1, _, e3, _, hlg⟩ := apEnt k id hk hap
    obtain ⟨io', hio', st⟩ := S i hi
    have : io' = io := by rw [hio] at hio'; exact (Option.some.inj hio').symm
    subst this
    obtain ⟨vs, v1, v2, v3⟩ := st.U2 hlg
    have hU := (grow n (i + 1) (by omega) (Nat.le_refl _)).2.1 _ v1
    rw [q2] at hU
    have c := (chk _ e1).1 _ hU
    simp only at c
    refine ⟨fun t ht av hav hin => ?_, fun t ht hin => ?_⟩
    · rcases c with c | c | c
      · exact absurd c hne
      · exact absurd hin (c av (v2 t ht av hav))
      · exact e3 i c
    · rcases c with c | c | c
      · exact absurd c hne
      · rcases v3 t ht with h1 | h1
        · exact absurd hin (c _ h1)
        · rw [h1] at hin; cases hin
      · exact e3 i c
  · obtain ⟨d, anc, e1, _, e30, _, hlg0⟩ := apEnt k id hk hap
    have c := (chk _ e1).2.2
    simp only at c
    refine ⟨fun j b hb => ?_, fun k' x hk' hx => ⟨?_, ?_⟩⟩
    · rw [q2] at hb
      obtain ⟨x, h1, rfl⟩ := memOf hb
      exact c x (by simp [h1])
    · cases hbx : x.2.1.isBox with
      | true =>
        obtain ⟨_, _, st⟩ := S k' hk'
        obtain ⟨_, _, sk⟩ := S k hk
        obtain ⟨z, hz, _, hzi⟩ := hap
        have hidH : id ∈ H := by rw [← hzi]; exact (sk.wri z hz).1
        exact .inl ((st.wri x hx).2.2.2.2.2 hlg0 hbx id hidH)
      | false =>
        refine .inl ?_
        cases hxx : x.2.1 <;> rw [hxx] at hbx <;> simp [Blk.isBox] at hbx
        simp [Blk.ids]
    · obtain ⟨y, h1, h2⟩ := memOf (pFin k' x hk' hx)
      rw [← h2]
      exact c y (by simp [h1])
  · simp only [Nat.sub_self, t2]
    rw [lookup_append, lookup_append, Zfw, Zz]
    by_cases hw : ∃ i x, i < n ∧ wr i = some x ∧ x.1 = id
    · obtain ⟨i, x, h1, h2, rfl⟩ := hw
      rw [Z01 apart h1 h2, hli i h1, pFin i x h1 h2]; rfl
    · rw [Z1b fun i x h1 h2 h3 => hw ⟨i, x, h1, h2, h3⟩]
      have hpq : (fun i => h.A.any fun a => a.id == i) = apL wr listed n := funext fun j => by
        rw [Bool.eq_iff_iff, Z86]
        constructor
        · intro hj
          obtain ⟨a, ha, he⟩ := List.any_eq_true.1 hj
          have he : a.id = j := by simpa using he
          obtain ⟨k, k1, k2, _⟩ := Aof n (Nat.le_refl _) a (by rw [q2]; exact ha)
          exact ⟨k, k1, hli k k1, by rw [← he]; exact k2⟩
        · rintro ⟨k, k1, _, k3⟩
          obtain ⟨d, anc, e1, _⟩ := apEnt k j k1 k3
          exact List.any_eq_true.2 ⟨_, e1, by simp⟩
      cases hp : h.p.lookup id with
      | none =>
        simp only
        cases hK : (kbx lg s H).lookup id with
        | some b => simp only [Option.map_some]; rw [hpq]
        | none => simp only [Option.map_none]; rw [q2]
      | some b =>
        rw [← q2] at hp
        rcases whence n (Nat.le_refl _) id b hp with h1 | ⟨i, h1, h2, h3⟩
        · exact absurd h1 hw
        · rcases (crt i h1 id b h2).2 with ⟨c1, _⟩ | ⟨k, x, k1, k2, k3, _⟩
          · have hnK : (kbx lg s H).lookup id = none := by
              cases hK : (kbx lg s H).lookup id with
              | none => rfl
              | some b2 => have := (kbF id b2 hK).2.2.2; rw [c1] at this; cases this
            simp only [hnK]
            rw [c1]
          · exact absurd ⟨k, x, k1, k2, k3⟩ hw
  · simp only [Nat.sub_self, t1] at ht
    simp only [q2]
    unfold apxE at ht
    split at ht
    · rename_i hA
      refine .inr ⟨av, ht, .inr ⟨rfl, fun k id hk hap => ?_⟩⟩
      obtain ⟨d, anc, e1, _⟩ := apEnt k id hk hap
      rw [hA] at e1; cases e1
    · rw [lookup_appX] at ht
      cases hA : (h.A.map fun a => (a.d, AV.ap a.id)).lookup t with
      | some v =>
        rw [hA] at ht
        simp at ht
        subst ht
        obtain ⟨x, hx, hx1, hx2⟩ := lookup_memX hA
        obtain ⟨a, ha, rfl⟩ := List.mem_map.1 hx
        obtain ⟨k, k1, k2, k3, _⟩ := Aof n (Nat.le_refl _) a (by rw [q2]; exact ha)
        exact .inl ⟨k, a.id, k1, k2, by rw [k3]; exact congrArg some hx1, hx2.symm⟩
      | none =>
        rw [hA] at ht
        simp only at ht
        rw [lookup_mapX (fun v => if (v.ids.any fun i => h.A.any fun a => a.id == i) = true then AV.top else v)] at ht
        obtain ⟨v, hv, rfl⟩ := map_some ht
        refine .inr ⟨v, hv, ?_⟩
        split
        · exact .inl rfl
        · rename_i hn
          refine .inr ⟨rfl, fun k id hk hap hin => hn ?_⟩
          obtain ⟨d, anc, e1, _⟩ := apEnt k id hk hap
          exact List.any_eq_true.2 ⟨id, hin, List.any_eq_true.2 ⟨_, e1, by simp⟩⟩
theorem region_draw (hE : FS P C) {ro : Option Nat} {kk : Nat} {Q : Exit → Act → World → Prop} {e' : Env} {s' : Sto} (h : evR C π n l e s = some (e', s')) (hm : mops P nt ops ops.toList l = true) (hd : drawB P ops l n = true) (hi : Inv P nt Z γ w X e s a)
    (hQ : ∀ a' w', After P nt Z γ w X s e' s' a' w' → Q .normal a' w') (hQ0 : ∀ e a w, Q e a w → e = .normal) : wpAnyIn (WR ro) kk P .any ops Q ops.size (Array.replicate ops.size false) a { w with drawn := w.drawn + 1 } := by
  obtain ⟨B, hDr⟩ := Zgk hd
  obtain ⟨hl, hm⟩ := Zh5 hm
  have main : ∀ (es : Nat → Env) (ss : Nat → Sto) (avs : Nat → AV) (nw : Nat → Sto) (wr : Nat → Wr) (et : Nat → Env) (ts : Nat → Sto) (KB : Sto) (kr : Nat → Option (Id × Nat × AV)), Run P C π ops nt l n B es ss avs nw wr et ts s KB kr → es 0 = e → et l.length = e' → ts l.length = s' → wpAnyIn (WR ro) kk P .any ops Q ops.size (Array.replicate ops.size false) a { w with drawn := w.drawn + 1 } := by
    intro es ss avs nw wr et ts KB kr R a1 a3 a4
    have hi2 : Inv P nt Z γ { w with drawn := w.drawn + 1 } X e s a := by
      have hm : ∀ b o v, CellAt w X b o v → CellAt { w with drawn := w.drawn + 1 } X b o v := fun b o v h => ⟨h.cell, h.free⟩
      have he : Evo γ w X γ { w with drawn := w.drawn + 1 } X := ⟨rfl, rfl, rfl, Nat.le_refl _, fun _ _ _ => rfl, hm, fun _ _ _ h => h, fun _ _ _ _ h => h, fun _ _ h => h⟩
      exact ⟨⟨fun id h hg => by
        obtain ⟨b, hb, hk⟩ := hi.sto.blk id h hg
        exact ⟨b, hb, hk.mono (fun _ _ => rfl) hm (fun _ _ _ => Iff.rfl) fun _ _ _ h => h⟩, hi.sto.apart, hi.sto.lt⟩, hi.full, hi.env.mono hm (fun _ _ h => h), hi.size, hi.defers.mono he⟩
    subst a1; subst a3; subst a4
    refine Zeu (γ0 := γ) (w0 := { w with drawn := w.drawn + 1 }) (X0 := X) (a0 := a) hE R hDr (by simpa using hl) (fun i o io ho hio => ?_) hi2 (fun a' w' hA => ?_) hQ0 n _ _ a _ ?_ (by simp) ?_ (fun j hj hij => ?_) ⟨fun j hj => ?_, γ, γ, X, Run.start R hi2 fun i => ?_⟩
    · obtain ⟨o', ho', hmo⟩ := hm i io hio
      have : o' = o := by
        have h1 : ops[i]? = some o' := by simpa using ho'
        rw [ho] at h1
        exact (Option.some.inj h1).symm
      subst this; exact hmo
    · obtain ⟨γ', X', h1, h2, h3⟩ := hA
      exact hQ a' w' ⟨γ', X', h1, ⟨h2.os, h2.tape, h2.output, h2.size, h2.block, fun b o v h => h2.cell b o v ⟨h.cell, h.free⟩, h2.less, h2.keep, h2.owned⟩, h3⟩
    · have : ∀ m, cnt (Array.replicate ops.size false) m ≤ m := fun m => by
        induction m with
        | zero => exact Nat.le_refl _
        | succ m ih => simp only [cnt]; split <;> omega
      exact this _
    · intro k o _ hlk
      rw [getD_replicate_false] at hlk
      cases hlk
    · obtain ⟨d, x, o, _, _, hjn, _⟩ := hij
      omega
    · rw [getD_replicate_false] at hj
      cases hj
    · exact getD_replicate_false _ _
  have hid : ∀ (lg : Bool) (H : List Id), evRH C π n l e s lg H = some (e', s') → wpAnyIn (WR ro) kk P .any ops Q ops.size (Array.replicate ops.size false) a { w with drawn := w.drawn + 1 } := fun lg H h => by
    unfold evRH at h
    split at h
    case h_2 => cases h
    rename_i hh r hs
    split at h
    case isFalse => cases h
    rename_i hall
    simp only [Bool.and_eq_true] at hall
    obtain ⟨es, ss, avs, nw, wr, et, ts, kr, R, a1, a3, a4⟩ := run_of (nt := nt) (ops := ops) hE hDr hs hall.1 hall.2 h
    exact main es ss avs nw wr et ts _ kr R a1 a3 a4
  unfold evR at h
  split at h
  · obtain ⟨es, ss, avs, nw, a1, a2, a3, a4, a5, a6⟩ := Z8c (P := P) (ops := ops) (nt := nt) hE n l e s e' s' h hDr.le
    have hno : ∀ (listed : Array Bool) (n : Nat), hidS (fun _ => none) listed n = [] := fun listed n => by
      induction n with
      | zero => rfl
      | succ n ih => unfold hidS; simpa using ih
    have nA : ∀ id, ¬ Ap none id := fun id ⟨x, hx, _⟩ => by cases hx
    have mono : ∀ i, i < n → ∀ id b, (ss i).lookup id = some b → (ss (i + 1)).lookup id = some b := fun i hi' id b hb => by
      obtain ⟨io, _, st⟩ := a5 i hi'
      rw [st.sto, lookup_append, Gi st.fresh hb]; exact hb
    have monos : ∀ (k i : Nat), i ≤ k → k ≤ n → ∀ id b, (ss i).lookup id = some b → (ss k).lookup id = some b := by
      intro k
      induction k with
      | zero => intro i hi' _ id b hb; have : i = 0 := by omega
                subst this; exact hb
      | succ k ih =>
        intro i hi' hk id b hb
        rcases Nat.lt_or_ge i (k + 1) with hlt | hge
        · exact mono k (by omega) id b (ih i (by omega) (by omega) id b hb)
        · have : i = k + 1 := by omega
          subst this; exact hb
    have nwIn : ∀ i, i < n → ∀ id b, (nw i).lookup id = some b → (ss (i + 1)).lookup id = some b ∧ (ss i).lookup id = none := fun i hi' id b hb => by
      obtain ⟨io, _, st⟩ := a5 i hi'
      refine ⟨by rw [st.sto, lookup_append, hb], ?_⟩
      cases hl : (ss i).lookup id with
      | none => rfl
      | some b' => rw [Gi st.fresh hl] at hb; cases hb
    have key : ∀ i j, i < j → j < n → ∀ id b b', (nw i).lookup id = some b → (nw j).lookup id = some b' → False := fun i j hij hj id b b' hb hb' => by
      have := (nwIn j hj id b' hb').2
      rw [monos j (i + 1) (by omega) (by omega) id b (nwIn i (by omega) id b hb).1] at this
      cases this
    refine main es ss avs nw (fun _ => none) es ss [] (fun _ => none) ⟨fun i hi' => ?_, a6, mono, fun i hi' id b hb => ?_, fun i hi' id b hb => ⟨?_, .inl ⟨monos n (i + 1) (by omega) (Nat.le_refl _) id b (nwIn i hi' id b hb).1, fun k x _ hx => (by cases hx)⟩⟩, fun i j hi' hj id b b' hb hb' => ?_, fun i j x y _ _ hx => (by cases hx), fun i x _ hx => (by cases hx),
      fun id b hb => (by rw [← a2]; exact hb), fun id b hb => ?_, fun id b hb => (by cases hb), fun i x _ hx => (by cases hx), fun k x _ hx => (by cases hx), fun k id _ hap => absurd hap (nA id), fun k id _ hap => absurd hap (nA id), fun k id _ hap => absurd hap (nA id), fun listed _ id => (by rw [Zz, hno]; rfl), fun t av ht => .inr ⟨av, ht, .inr ⟨rfl, fun k id _ hap => absurd hap (nA id)⟩⟩⟩ a1 a3 a4
    · obtain ⟨io, h1, h2⟩ := a5 i hi'
      exact ⟨io, h1, h2.g⟩
    · obtain ⟨io, _, st⟩ := a5 i hi'
      rw [st.sto, lookup_append] at hb
      cases hl : (nw i).lookup id with
      | some b' => rw [hl] at hb; exact .inr hb
      | none => rw [hl] at hb; exact .inl hb
    · rw [← a2]
      cases hl : (ss 0).lookup id with
      | none => rfl
      | some b0 =>
        have := monos i 0 (Nat.zero_le _) (by omega) id b0 hl
        rw [(nwIn i hi' id b hb).2] at this; cases this
    · rcases Nat.lt_trichotomy i j with hlt | he | hlt
      · exact (key i j hlt hj id b b' hb hb').elim
      · exact he
      · exact (key j i hlt hi' id b' b hb' hb).elim
    · rw [Zz, hno, a2]; exact hb
  · exact hid _ _ h
  · split at h
    · exact hid _ _ h
    · cases h
theorem drawB_mixed {ops : Array Oper} {l : List Ins} {n : Nat} (hd : drawB P ops l n = true) : P.follows .mixedOrders = true := (Zgk hd).elim fun _ h => h.mixed
end
theorem Z68 {p : Nat → Prop} (h : ∃ n, p n) : ∃ n, p n ∧ ∀ m, p m → n ≤ m := by
 obtain ⟨n, hn⟩ := h
 induction n using Nat.strongRecOn with
 | _ n ih =>
  by_cases hm : ∃ m, m < n ∧ p m
  ·obtain ⟨m, hlt, hpm⟩ := hm
   exact ih m hlt hpm
  ·exact ⟨n, hn, fun m hpm => Nat.le_of_not_lt fun hlt => hm ⟨m, hlt, hpm⟩⟩
open Classical in
theorem Zew {F : Fence} {P : Program} {k : Nat} {c : Code} {Q : Exit → Act → World → Prop} {R : Nat → Act → World → Prop} (h0 : ∀ a w, ¬ R 0 a w) (hs : ∀ n a w, R (n + 1) a w → c.wpIn F k P (Exit.then (R n) Q) a w) {n : Nat} {a : Act} {w : World} (h : R n a w) :
  (Code.loop c).wpIn F k P Q a w := by
 refine wpIn_loop (fun a w => ∃ n, R n a w) (fun a w => if h : ∃ n, R n a w then (Z68 h).choose else 0) ⟨n, h⟩ fun a w hI => ?_
 have hmin := (Z68 hI).choose_spec
 simp only [hI, dite_true]
 generalize (Z68 hI).choose = m at hmin
 obtain ⟨hm, hle⟩ := hmin
 cases m with
 | zero => exact absurd hm (h0 a w)
 | succ m =>
  refine wpIn_mono (hs m a w hm) fun e a' w' hq => ?_
  cases e with
  | normal =>
   have hq' : R m a' w' := hq
   have hI' : ∃ n, R n a' w' := ⟨m, hq'⟩
   refine ⟨hI', ?_⟩
   rw [dif_pos hI']
   have := (Z68 hI').choose_spec.2 m hq'
   omega
  | _ => exact hq
def Z60 (P : Program) (f : Nat) (g : Id → List AV → Sto → Option (AV × Sto)) : Prop := ∀ π args s r s', g π args s = some (r, s') → Z0q P f ∧
 ∀ (vals : Array Value) (γ : Hand) (w : World) (X : Own), vals.size = args.length → (∀ (i : Nat) v c, vals[i]? = some v → args[i]? = some c → RepA γ w X v c) → StoOk P γ w X s → Full γ s →
  Calls P f vals w fun e w' => ∃ v γ' X', Left P γ w X s r s' e w' v γ' X'
def OrcOk (P : Program) (O : Orc) : Prop := ∀ f g, O f = some g → Z60 P f g
def Ex.to : Ex → Exit
 | .nm => .normal
 | .ex id => .exit id
 | .rt => .ret
section
variable {P : Program} {C : Call} {π : Id} {γ γ' : Hand} {w w' : World} {X X' : Own} {s : Sto} {e : Env} {a : Act} {nt Z : Nat}
def AfterK (P : Program) (k0 : List Id) (nt Z : Nat) (γ : Hand) (w : World) (X : Own) (s : Sto) (e' : Env) (s' : Sto) (a' : Act) (w' : World) : Prop :=
 ∃ γ' X', Inv P nt Z γ' w' X' e' s' a' ∧ Evo γ w X γ' w' X' ∧ ∀ id ∈ k0, ∀ b, s.lookup id = some b → b.isBox = true → γ' id = γ id
theorem After.k {k0 : List Id} {e' : Env} {s' : Sto} {a' : Act} (h : After P nt Z γ w X s e' s' a' w') : AfterK P k0 nt Z γ w X s e' s' a' w' :=
 let ⟨γ', X', h1, h2, h3⟩ := h
 ⟨γ', X', h1, h2, fun id _ b hl hb => h3 id b hl hb⟩
theorem AfterK.trans {k0 : List Id} {γ1 : Hand} {w1 : World} {X1 : Own} {s1 : Sto} {e1 e2 : Env} {s2 : Sto} {a1 a2 : Act} {w2 : World} (hs : StoOk P γ w X s) (hf : Full γ s) (h1 : Inv P nt Z γ1 w1 X1 e1 s1 a1) (he : Evo γ w X γ1 w1 X1)
  (hb : ∀ id ∈ k0, ∀ b, s.lookup id = some b → b.isBox = true → γ1 id = γ id) (h2 : AfterK P k0 nt Z γ1 w1 X1 s1 e2 s2 a2 w2) : AfterK P k0 nt Z γ w X s e2 s2 a2 w2 := by
 obtain ⟨γ2, X2, i2, e2', b2⟩ := h2
 refine ⟨γ2, X2, i2, he.trans e2', fun id hid b hl hbx => ?_⟩
 obtain ⟨b', hb', hbx'⟩ := Z9n hs hf h1.sto hl hbx (hb id hid b hl hbx)
 rw [b2 id hid b' hb' hbx', hb id hid b hl hbx]
theorem has_some {s : Sto} {id : Id} (h : s.has id = true) : ∃ b, s.lookup id = some b := by
 unfold Sto.has at h
 exact Option.isSome_iff_exists.1 h
theorem sub_ok {p : Id → Bool} {s1 : Sto} (hs : StoOk P γ w X s) (hf : Full γ s) (hlk : ∀ i, s1.lookup i = if p i = true then s.lookup i else none) (hcl : ∀ i b, s1.lookup i = some b → ∀ j ∈ b.ids, s1.has j = true) :
  ∃ γ1, StoOk P γ1 w X s1 ∧ Full γ1 s1 ∧ Evo γ w X γ1 w X ∧ (∀ id, s1.has id = true → γ1 id = γ id) ∧ (∀ id v, γ1 id = some v → γ id = some v ∧ s1.has id = true) := by
 refine ⟨fun i => if s1.has i then γ i else none, ⟨fun i v hi => ?_, fun i j v u b hi hj hbi hbj => ?_, hs.lt⟩, fun i b hb => ?_, ⟨rfl, rfl, rfl, Nat.le_refl _, fun _ _ _ => rfl, fun _ _ _ h => h, fun _ _ _ h => h, fun _ _ _ _ h => h, fun b _ ⟨i, v, hi, hk'⟩ => ?_⟩, fun i hi => ?_, fun i v hi => ?_⟩
 ·have hi' : (if s1.has i = true then γ i else none) = some v := hi
  split at hi'
  case isFalse => cases hi'
  rename_i hh
  obtain ⟨b, hb, hbk⟩ := hs.blk i v hi'
  obtain ⟨b', hb'⟩ := has_some hh
  have : b' = b := by
   have h2 := hb'
   rw [hlk] at h2
   split at h2
   ·rw [hb] at h2; exact (Option.some.inj h2).symm
   ·cases h2
  subst this
  refine ⟨b', hb', hbk.mono (fun _ _ => rfl) (fun _ _ _ h => h) (fun _ _ _ => Iff.rfl) fun j hj u hu => ?_⟩
  have := hcl i b' hb' j hj
  show (if s1.has j = true then γ j else none) = some u
  rw [if_pos this]; exact hu
 ·have inv : ∀ i v, (if s1.has i = true then γ i else none) = some v → γ i = some v := fun i v h => by split at h; exact h; cases h
  exact hs.apart i j v u b (inv i v hi) (inv j u hj) hbi hbj
 ·have : s1.has i = true := by unfold Sto.has; rw [hb]; rfl
  show (if s1.has i = true then γ i else none).isSome = true
  rw [if_pos this]
  rw [hlk] at hb
  split at hb
  ·exact hf i b hb
  ·cases hb
 ·have hi' : (if s1.has i = true then γ i else none) = some v := hi
  split at hi'
  ·exact ⟨i, v, hi', hk'⟩
  ·cases hi'
 ·show (if s1.has i = true then γ i else none) = γ i
  rw [if_pos hi]
 ·have hi' : (if s1.has i = true then γ i else none) = some v := hi
  split at hi'
  ·rename_i h; exact ⟨hi', h⟩
  ·cases hi'
theorem gc_spec {roots : List Id} {s1 : Sto} (h : gc s roots = some s1) :
  (∃ p : Id → Bool, ∀ i, s1.lookup i = if p i = true then s.lookup i else none) ∧ (∀ i b, s1.lookup i = some b → ∀ j ∈ b.ids, s1.has j = true) ∧ ∀ i ∈ roots, s1.has i = true := by
 unfold gc at h
 simp only at h
 split at h
 case isFalse => cases h
 rename_i hc
 simp only [Option.some.injEq] at h
 generalize hk : Za6 s 12 roots = keep at h hc
 have hlk : ∀ i, s1.lookup i = if keep.contains i = true then s.lookup i else none := fun i => by rw [← h]; exact Yb (fun j => keep.contains j) i s
 rw [h] at hc
 simp only [Bool.and_eq_true] at hc
 exact ⟨⟨fun i => keep.contains i, hlk⟩, fun i b hb j hj => List.all_eq_true.1 (List.all_eq_true.1 hc.2 (i, b) (L4 hb)) j hj, fun i hi => List.all_eq_true.1 hc.1 i hi⟩
theorem gc_ok {roots : List Id} {s1 : Sto} (hs : StoOk P γ w X s) (hf : Full γ s) (h : gc s roots = some s1) :
  ∃ γ1, StoOk P γ1 w X s1 ∧ Full γ1 s1 ∧ Evo γ w X γ1 w X ∧ (∀ id ∈ roots, γ1 id = γ id) := by
 obtain ⟨⟨p, h1⟩, h2, h3⟩ := gc_spec h
 obtain ⟨γ1, a1, a2, a3, a4, _⟩ := sub_ok hs hf h1 h2
 exact ⟨γ1, a1, a2, a3, fun id hid => a4 id (h3 id hid)⟩
theorem Z8x {e : Env} {t : Nat} {b : AV} : ∀ {l : List Nat}, (Env.keep l e).lookup t = some b → e.lookup t = some b
 | [], h => by simp [Env.keep] at h
 | j :: l, h => by
  unfold Env.keep at h
  rw [List.filterMap_cons] at h
  cases hj : e.lookup j with
  | none => rw [hj] at h; exact Z8x h
  | some v =>
   rw [hj] at h
   simp only [Option.map_some, List.lookup_cons] at h
   split at h
   ·rename_i he
    have : t = j := by simpa using he
    subst this
    rw [hj]; exact h
   ·exact Z8x h
theorem Zd7 {e : Env} {t : Nat} {b : AV} (h : e.lookup t = some b) : (t, b) ∈ e := by
 induction e with
 | nil => simp at h
 | cons x r ih =>
  obtain ⟨j, c⟩ := x
  rw [List.lookup_cons] at h
  split at h
  ·rename_i he
   have h1 : t = j := by simpa using he
   have h2 : c = b := by simpa using h
   rw [h1, h2]; exact List.mem_cons_self
  ·exact List.mem_cons_of_mem _ (ih h)
theorem mask_ok {live : List Nat} {k0 : List Id} {r : Env × Sto} (hi : Inv P nt Z γ w X e s a) (h : mask live k0 (e, s) = some r) : AfterK P k0 nt Z γ w X s r.1 r.2 a w := by
 unfold mask at h
 simp only at h
 obtain ⟨s1, hs1, he⟩ := map_some h
 subst he
 obtain ⟨γ1, g1, g2, g3, g4⟩ := gc_ok hi.sto hi.full hs1
 refine ⟨γ1, X, ⟨g1, g2, fun t av ht => ?_, hi.size, hi.defers.mono g3⟩, g3, fun id hid b _ _ => g4 id (List.mem_append.2 (.inl hid))⟩
 simp only at ht
 have ht0 := Z8x ht
 obtain ⟨v, hv, hr⟩ := hi.env t av ht0
 refine ⟨v, hv, hr.mono (fun _ _ _ h => h) fun id hid u hu => ?_⟩
 rw [g4 id (List.mem_append.2 (.inr ?_))]
 ·exact hu
 ·obtain ⟨i, hi'⟩ := List.getElem?_of_mem (List.mem_map.2 ⟨(t, av), Zd7 ht, rfl⟩ : av ∈ (e.keep live).map (·.2))
  exact Zcf hi' id hid
theorem nil_val {v : Value} {sz : Nat} (h : Rep w X v (.sl sz (some true) [])) : v = .slice none 0 0 := by
 cases h with
 | slE b cap _ _ k1 k2 k0 km =>
  have := k1 rfl
  subst this
  rw [k0 rfl]
 | slC bb oo cap _ _ _ f k1 => exact absurd rfl k1
theorem thaw1_ok {x : Nat × (Nat ⊕ (Nat × Nat))} {r : Env × Sto} (hi : Inv P nt Z γ w X e s a) (h : thaw1 π (e, s) x = some r) : After P nt Z γ w X s r.1 r.2 a w := by
 have keep : After P nt Z γ w X s e s a w := ⟨γ, X, hi, Evo.refl _ _ _, fun _ _ _ _ => rfl⟩
 have addRow : ∀ (id : Id) (T sz : Nat) (s1 : Sto), ¬ s.has id = true → (∀ j, j ≠ id → γ j ≠ none → s1.lookup j = s.lookup j ∨ ∃ b b', s.lookup j = some b ∧ s1.lookup j = some b' ∧ ∀ h, γ j = some h → BlkOk P γ w X h b → BlkOk P (addH γ id (.slice none 0 0)) w X h b') →
   s1.lookup id = some (.row false T sz true []) → (∀ j b, s1.lookup j = some b → j ≠ id → ∃ b', s.lookup j = some b') → StoOk P (addH γ id (.slice none 0 0)) w X s1 ∧ Full (addH γ id (.slice none 0 0)) s1 ∧ Evo γ w X (addH γ id (.slice none 0 0)) w X ∧ (∀ i v, γ i = some v → addH γ id (.slice none 0 0) i = some v) := by
  intro id T sz s1 hno hoth hl hback
  have hγ := hi.sto.noHand (Q1 hno)
  have mono : ∀ i v, γ i = some v → addH γ id (.slice none 0 0) i = some v := fun i v hv => by
   unfold addH
   rw [if_neg]
   ·exact hv
   ·rintro rfl; rw [hγ] at hv; cases hv
  have inv : ∀ i v, addH γ id (.slice none 0 0) i = some v → i = id ∧ v = .slice none 0 0 ∨ i ≠ id ∧ γ i = some v := fun i v hv => by
   unfold addH at hv
   split at hv
   ·rename_i he; exact .inl ⟨he, (Option.some.inj hv).symm⟩
   ·rename_i he; exact .inr ⟨he, hv⟩
  refine ⟨⟨fun i v hv => ?_, fun i j v u b hv hu hbv hbu => ?_, hi.sto.lt⟩, fun i b hb => ?_, ⟨rfl, rfl, rfl, Nat.le_refl _, fun _ _ _ => rfl, fun _ _ _ h => h, fun _ _ _ h => h, fun _ _ _ _ h => h, fun b _ ⟨i, v, hv, hk⟩ => ?_⟩, mono⟩
  ·rcases inv i v hv with ⟨rfl, rfl⟩ | ⟨hne, hg⟩
   ·exact ⟨_, hl, [], ⟨by simp, .inr (Z8h (World.ownsRow_nil w 0 T sz)), ⟨fun _ => rfl, fun h => (by simp at h)⟩, by simp, by simp, by simp, fun b hb => by simp [hblk] at hb⟩⟩
   ·obtain ⟨b, hb, hk⟩ := hi.sto.blk i v hg
    rcases hoth i hne (by rw [hg]; simp) with h1 | ⟨b0, b1, h1, h2, h3⟩
    ·exact ⟨b, by rw [h1]; exact hb, hk.mono (fun _ _ => rfl) (fun _ _ _ h => h) (fun _ _ _ => Iff.rfl) fun j _ u hu => mono j u hu⟩
    ·rw [hb] at h1
     have := Option.some.inj h1
     subst this
     exact ⟨b1, h2, h3 v hg hk⟩
  ·rcases inv i v hv with ⟨rfl, rfl⟩ | ⟨_, hg⟩
   ·simp [hblk] at hbv
   ·rcases inv j u hu with ⟨rfl, rfl⟩ | ⟨_, hg'⟩
    ·simp [hblk] at hbu
    ·exact hi.sto.apart i j v u b hg hg' hbv hbu
  ·by_cases he : i = id
   ·unfold addH; simp [he]
   ·obtain ⟨b', hb'⟩ := hback i b hb he
    obtain ⟨v, hv⟩ := Option.isSome_iff_exists.1 (hi.full i b' hb')
    rw [mono i v hv]; rfl
  ·rcases inv i v hv with ⟨rfl, rfl⟩ | ⟨_, hg⟩
   ·simp [hblk] at hk
   ·exact ⟨i, v, hg, hk⟩
 have boxes : ∀ (id : Id), ¬ s.has id = true → ∀ j b, s.lookup j = some b → b.isBox = true → addH γ id (.slice none 0 0) j = γ j := fun id hno j b hb _ => by
  unfold addH
  rw [if_neg]
  rintro rfl
  rw [Q1 hno] at hb
  cases hb
 obtain ⟨T, x⟩ := x
 cases x with
 | inl t =>
  simp only [thaw1] at h
  split at h
  ·rename_i sz hl
   split at h
   ·cases h
   rename_i hno
   simp only [Option.some.injEq] at h
   subst h
   have hne : ∀ j, γ j ≠ none → j ≠ (1000 + t) :: π := fun j hj he => by subst he; exact hj (hi.sto.noHand (Q1 hno))
   obtain ⟨a1, a2, a3, a4⟩ := addRow ((1000 + t) :: π) T sz (((1000 + t) :: π, .row false T sz true []) :: s) hno (fun j hj _ => .inl (by
     rw [List.lookup_cons]
     have : (j == (1000 + t) :: π) = false := by simpa using hj
     simp only [this])) (by simp) (fun j b hb hj => by
     rw [List.lookup_cons] at hb
     have : (j == (1000 + t) :: π) = false := by simpa using hj
     simp only [this] at hb
     exact ⟨b, hb⟩)
   refine ⟨_, X, ⟨a1, a2, fun t' av ht => ?_, hi.size, hi.defers.mono a3⟩, a3, boxes _ hno⟩
   simp only [List.lookup_cons] at ht
   split at ht
   ·rename_i he
    have : t' = t := by simpa using he
    subst this
    simp only [Option.some.injEq] at ht
    subst ht
    obtain ⟨v, hv, hr⟩ := hi.env t' _ hl
    have := nil_val hr.ofP
    subst this
    exact ⟨_, hv, .ap _ _ (by simp [addH]) (Ne.symm Z2a)⟩
   ·obtain ⟨v, hv, hr⟩ := hi.env t' av ht
    exact ⟨v, hv, hr.mono (fun _ _ _ h => h) fun i _ u hu => a4 i u hu⟩
  ·simp only [Option.some.injEq] at h
   subst h
   exact keep
 | inr x =>
  obtain ⟨t, off⟩ := x
  simp only [thaw1] at h
  split at h
  ·rename_i id hl
   split at h
   ·rename_i cs hb
    split at h
    ·rename_i sz hcs
     split at h
     ·cases h
     rename_i hno
     simp only [Option.some.injEq] at h
     subst h
     generalize hnid : (100000 * (off + 1) + t) :: π = nid at hno
     have hne : id ≠ nid := fun he => by subst he; rw [Q1 hno] at hb; cases hb
     obtain ⟨a1, a2, a3, a4⟩ := addRow nid T sz ((nid, .row false T sz true []) :: s.put id (.box false (cs.set off (.ap nid)))) hno (fun j hj _ => by
       rw [List.lookup_cons]
       have : (j == nid) = false := by simpa using hj
       simp only [this, Zd]
       by_cases he : j = id
       ·subst he
        rw [if_pos rfl, hb]
        refine .inr ⟨_, _, rfl, rfl, fun h hg hk => ?_⟩
        obtain ⟨b, c, T', hk⟩ := hk
        refine ⟨b, c, T', hk.hand, hk.heap, by simpa using hk.size, hk.one, fun i v q hv hq => ?_, hk.own⟩
        rw [List.getElem?_set] at hq
        by_cases hio : off = i
        ·subst hio
         have hlt : off < cs.length := (List.getElem?_eq_some_iff.1 hcs).1
         simp [hlt] at hq
         subst hq
         have := nil_val (hk.rep off v _ hv hcs).ofP
         subst this
         exact .ap _ _ (by simp [addH]) (Ne.symm Z2a)
        ·rw [if_neg hio] at hq
         refine (hk.rep i v q hv hq).mono (fun _ _ _ h => h) fun k _ u hu => ?_
         unfold addH
         rw [if_neg]
         ·exact hu
         ·rintro rfl
          rw [hi.sto.noHand (Q1 hno)] at hu
          cases hu
       ·rw [if_neg he]; exact .inl rfl) (by simp) (fun j b hbj hj => by
       rw [List.lookup_cons] at hbj
       have : (j == nid) = false := by simpa using hj
       simp only [this, Zd] at hbj
       split at hbj
       ·rename_i he; subst he; exact ⟨_, hb⟩
       ·exact ⟨b, hbj⟩)
     refine ⟨_, X, ⟨a1, a2, fun t' av ht => ?_, hi.size, hi.defers.mono a3⟩, a3, boxes _ hno⟩
     obtain ⟨v, hv, hr⟩ := hi.env t' av ht
     exact ⟨v, hv, hr.mono (fun _ _ _ h => h) fun i _ u hu => a4 i u hu⟩
    ·simp only [Option.some.injEq] at h
     subst h
     exact keep
   ·simp only [Option.some.injEq] at h
    subst h
    exact keep
  ·simp only [Option.some.injEq] at h
   subst h
   exact keep
theorem thaw_ok : ∀ (th : List (Nat × (Nat ⊕ (Nat × Nat)))) (e : Env) (s : Sto) (γ : Hand) (X : Own) {r : Env × Sto}, Inv P nt Z γ w X e s a → thaw π th (e, s) = some r → After P nt Z γ w X s r.1 r.2 a w
 | [], e, s, γ, X, r, hi, h => by
  simp [thaw] at h
  subst h
  exact ⟨γ, X, hi, Evo.refl _ _ _, fun _ _ _ _ => rfl⟩
 | t :: th, e, s, γ, X, r, hi, h => by
  simp only [thaw] at h
  split at h
  case h_2 => cases h
  rename_i x hx
  obtain ⟨e1, s1⟩ := x
  obtain ⟨γ1, X1, i1, e2, b2⟩ := thaw1_ok hi hx
  exact After.trans hi.sto hi.full i1 e2 b2 (thaw_ok th e1 s1 γ1 X1 i1 h)
theorem get_rep {c : Operand} {c' : Opd} {av : AV} (hi : Inv P nt Z γ w X e s a) (hm : mopd c c' = true) (h : c'.get e = some av) : RepA γ w X (a.eval c) av :=
 (hi.env.ops [c']).x' rfl hm (by rw [← h]; cases c' <;> rfl) (List.mem_singleton.2 rfl)
def RoIn (ro : Option Nat) (k0 : List Id) (γ : Hand) (s : Sto) : Prop :=
 ∀ l, ro = some l → ∃ id ∈ k0, (∃ b, s.lookup id = some b ∧ b.isBox = true) ∧ γ id = some (.func (.yield l) #[] #[])
theorem RoIn.after {ro : Option Nat} {k0 : List Id} {γ1 : Hand} {w1 : World} {X1 : Own} {s1 : Sto} (hR : RoIn ro k0 γ s ∧ Z ≤ w.heap.size) (hs : StoOk P γ w X s) (hf : Full γ s) (hs1 : StoOk P γ1 w1 X1 s1) (he : Evo γ w X γ1 w1 X1)
  (hb : ∀ id ∈ k0, ∀ b, s.lookup id = some b → b.isBox = true → γ1 id = γ id) : RoIn ro k0 γ1 s1 ∧ Z ≤ w1.heap.size := by
 refine ⟨fun l hl => ?_, Nat.le_trans hR.2 he.size⟩
 obtain ⟨id, hid, ⟨b, hlb, hbx⟩, hg⟩ := hR.1 l hl
 obtain ⟨b', hb', hbx'⟩ := Z9n hs hf hs1 hlb hbx (hb id hid b hlb hbx)
 exact ⟨id, hid, ⟨b', hb', hbx'⟩, by rw [hb id hid b hlb hbx]; exact hg⟩
theorem fn_rep {v : Value} {av y : AV} {k : Nat} {args : List AV} (h : RepA γ w X v av) (hf : fnOf (some av) y = some (k, args)) :
  ∃ fs us, v = .func (.func k) fs us ∧ ∀ yv : Value, (fs ++ #[yv] ++ us).size = args.length ∧ ∀ (i : Nat) u c, (fs ++ #[yv] ++ us)[i]? = some u → args[i]? = some c → (u = yv ∧ c = y) ∨ RepA γ w X u c := by
 have caps : ∀ (us : Array Value) (cs : List AV), us.size = cs.length → (∀ (i : Nat) u c, us[i]? = some u → cs[i]? = some c → RepA γ w X u c) → ∀ yv : Value, (#[] ++ #[yv] ++ us).size = (y :: cs).length ∧ ∀ (i : Nat) u c, (#[] ++ #[yv] ++ us)[i]? = some u → (y :: cs)[i]? = some c → (u = yv ∧ c = y) ∨ RepA γ w X u c := by
  intro us cs hl hr yv
  refine ⟨by simp; omega, fun i u c hu hc => ?_⟩
  cases i with
  | zero =>
   rw [Array.getElem?_append_left (by simp)] at hu
   simp at hu hc
   exact .inl ⟨hu.symm, hc.symm⟩
  | succ i =>
   rw [Array.getElem?_append_right (by simp)] at hu
   exact .inr (hr i u c (by simpa using hu) (by simpa using hc))
 unfold fnOf at hf
 split at hf
 ·rename_i k' cs he
  simp only [Option.some.injEq, Prod.mk.injEq] at hf he
  obtain ⟨rfl, rfl⟩ := hf
  subst he
  have hp := h.ofP
  cases hp with
  | fn f vs _ hl hr => exact ⟨#[], vs, rfl, caps vs _ (by simpa using hl) fun i u c hu hc => by
    rw [List.getElem?_map] at hc
    obtain ⟨c', hc', rfl⟩ := map_some hc
    exact .p (hr i u c' hu hc')⟩
 ·rename_i k' cs he
  simp only [Option.some.injEq, Prod.mk.injEq] at hf he
  obtain ⟨rfl, rfl⟩ := hf
  subst he
  cases h with
  | fn f vs _ hl hr => exact ⟨#[], vs, rfl, caps vs _ hl hr⟩
 ·rename_i k' l he
  simp only [Option.some.injEq, Prod.mk.injEq] at hf he
  obtain ⟨rfl, rfl⟩ := hf
  subst he
  cases h with
  | mth f vs _ hl hr =>
   refine ⟨vs, #[], rfl, fun yv => ⟨by simp; omega, fun i u c hu hc => ?_⟩⟩
   rw [Array.append_empty] at hu
   by_cases hi : i < vs.size
   ·rw [Array.getElem?_append_left hi] at hu
    rw [List.getElem?_append_left (by rw [List.length_map]; omega), List.getElem?_map] at hc
    obtain ⟨c', hc', rfl⟩ := map_some hc
    exact .inr (.p (hr i u c' hu hc'))
   ·rw [Array.getElem?_append_right (by omega)] at hu
    rw [List.getElem?_append_right (by rw [List.length_map]; omega), List.length_map] at hc
    have h0 : i - vs.size = 0 := by
     have := (Array.getElem?_eq_some_iff.1 hu).1
     simp at this
     omega
    rw [h0] at hu
    rw [show i - l.length = 0 by omega] at hc
    simp at hu hc
    exact .inl ⟨hu.symm, hc.symm⟩
 ·cases hf
theorem enter_ok {ro : Option Nat} {k0 : List Id} (hs : StoOk P γ w X s) (hR : RoIn ro k0 γ s) (fn : FuncId) (tmps : Array Value) (ps : Array Tmp) (as bd : Code) :
  ∃ l mark w1 r, (Instr.enterLoop fn tmps ps as bd ro).run P w = .ok (l, mark) w1 ∧ Below w.heap.size w w1 ∧ w.heap.size ≤ l ∧ w1.heap[l]? = some (.loop r) ∧
   (r.state = .ready ∧ r.pending = none ∧ r.tmps = tmps ∧ r.params = ps ∧ r.assign = as ∧ r.body = bd) ∧
   (mark = [] ∨ ∃ D, mark = [{ target := .collected D, args := #[] }] ∧ w.heap.size ≤ D ∧ D ≠ l ∧ w1.heap[D]? = some (.deferred (some []))) := by
 cases ro with
 | none =>
  refine ⟨_, _, _, { state := .ready, pending := none, fn, tmps, params := ps, assign := as, body := bd, defers := w.heap.size }, run_enterLoop_outer fn tmps ps as bd, ((Below.refl _ w).alloc (Nat.le_refl _) _).alloc (by simp) _, by omega, ?_, ⟨rfl, rfl, rfl, rfl, rfl, rfl⟩, .inr ⟨_, rfl, Nat.le_refl _, by omega, ?_⟩⟩
  ·have := World.alloc_heap_new (w.alloc (.deferred (some []))) (.loop { state := .ready, pending := none, fn, tmps, params := ps, assign := as, body := bd, defers := w.heap.size })
   rwa [World.size_alloc] at this
  ·exact (Below.heap_alloc _ _ _ (by simp)).trans (World.alloc_heap_new w _)
 | some l0 =>
  obtain ⟨id, _, _, hg⟩ := hR l0 rfl
  obtain ⟨b, hb, hk⟩ := hs.blk id _ hg
  have : ∃ r0, w.heap[l0]? = some (.loop r0) := by
   cases b with
   | box lent cs => obtain ⟨bb, c, T, hk⟩ := hk; have := hk.hand; cases this
   | mpb => obtain ⟨r, es, cl, hk⟩ := hk; have := hk.hand; cases this
   | row q1 q2 q3 q4 q5 =>
    obtain ⟨xs, hk⟩ := hk
    rcases (hk.rows (by unfold zc; intro h; cases h)).2 with ⟨hh, _⟩ | ⟨g, oo, cap, cur, hh, _⟩ <;> cases hh
   | frm =>
    obtain ⟨l, r, hk⟩ := hk
    have h1 := hk.hand
    simp only [Value.func.injEq, Fn.yield.injEq, and_true] at h1
    subst h1
    exact ⟨r, hk.heap⟩
  obtain ⟨r0, hr0⟩ := this
  have hrun : (Instr.enterLoop fn tmps ps as bd (some l0)).run P w = .ok (w.heap.size, []) (w.alloc (.loop { state := .ready, pending := none, fn, tmps, params := ps, assign := as, body := bd, defers := r0.defers })) := by
   unfold Instr.enterLoop
   simp only [Sem.run_bind, run_getLoop hr0, run_newObj_alloc, Result.andThen, Sem.run_pure]
  exact ⟨_, _, _, { state := .ready, pending := none, fn, tmps, params := ps, assign := as, body := bd, defers := r0.defers }, hrun, (Below.refl _ w).alloc (Nat.le_refl _) _, Nat.le_refl _, World.alloc_heap_new w _, ⟨rfl, rfl, rfl, rfl, rfl, rfl⟩, .inl rfl⟩
theorem row_mem {i : Id} {s : Sto} {q1 : Bool} {q2 q3 : Nat} {q4 : Option Bool} {q5 : List PV} (h : s.lookup i = some (.row q1 q2 q3 q4 q5)) : i ∈ Z6t s := by
 unfold Z6t
 rw [List.mem_filterMap]
 exact ⟨_, L4 h, rfl⟩
theorem rf_ok (hE : FS P C) {ro : Option Nat} {kk : Nat} {k0 : List Id} {g : Operand} {g' : Opd} {ps : Array Tmp} {as bd : Code} {site nt' : Nat} {lv ps' : List Nat} {p q : IR} {L : Loop} {x : Ex} {e' : Env} {s' : Sto} {Q : Exit → Act → World → Prop}
  (hm : mcode P nt (.rangeFunc g ps as bd) (.rf g' nt' site lv ps' p q) = true) (h : evC C L π k0 (.rf g' nt' site lv ps' p q) e s = some (x, e', s')) (hi : Inv P nt Z γ w X e s a) (hR : RoIn ro k0 γ s ∧ Z ≤ w.heap.size)
  (hQ : ∀ a' w', AfterK P k0 nt Z γ w X s e' s' a' w' → Q x.to a' w') : (Code.rangeFunc g ps as bd).wpIn (WR ro) kk P Q a w := by
 simp only [mcode, Bool.and_eq_true, beq_iff_eq] at hm
 obtain ⟨⟨⟨⟨hg, hnt⟩, hps⟩, hma⟩, hmb⟩ := hm
 have hnt2 := hnt.symm
 subst hnt2
 simp only [evC] at h
 generalize hid0 : (2000000 + site) :: π = id at h
 split at h
 ·cases h
 rename_i hno
 split at h
 case h_2 => cases h
 rename_i k args hfn
 split at h
 ·cases h
 rename_i hk
 split at h
 case h_2 => cases h
 rename_i r1 s1 hc
 rcases hE _ _ _ _ _ _ hc with ⟨h1, _⟩ | ⟨_, hen, hcall⟩
 ·exact absurd h1 hk
 obtain ⟨av, hav⟩ : ∃ av, g'.get e = some av := by
  cases hg0 : g'.get e with
  | none => rw [hg0] at hfn; simp [fnOf] at hfn
  | some av => exact ⟨av, rfl⟩
 rw [hav] at hfn
 obtain ⟨fs, us, hfval, hargs⟩ := fn_rep (get_rep hi hg hav) hfn
 have hγ := hi.sto.noHand (Q1 hno)
 refine wpIn_rangeFunc fun fn _ => ?_
 obtain ⟨l, mark, w1, r, hrun, hbel, hl1, hlr, ⟨q1, q2, q3, q4, q5, q6⟩, hmark⟩ := enter_ok hi.sto hR.1 fn a.tmps ps as bd
 refine ⟨l, mark, w1, { target := .fn (.func k) us, args := fs ++ #[.func (.yield l) #[] #[]] }, w1, k, fs ++ #[.func (.yield l) #[] #[]] ++ us, w1, hrun, ?_, fun _ _ => trivial, ?_, fun hd => by simp [WR, Fence.wide] at hd, ?_⟩
 ·simp only [resolve, hfval]
  simp [Deferred.ofValue, go_sem]
 ·simp [invoke, Z1d hen]
 have hlt : l < w1.heap.size := (Array.getElem?_eq_some_iff.1 hlr).1
 have hm1 : ∀ b o v, CellAt w X b o v → CellAt w1 X b o v := fun b o v hc => ⟨(Y5 (hbel.block b hc.lt)).trans hc.cell, hc.free⟩
 have hne : ∀ j, γ j ≠ none → j ≠ id := fun j hj he => by subst he; exact hj hγ
 have hadd : ∀ j v, γ j = some v → addH γ id (.func (.yield l) #[] #[]) j = some v := fun j v hv => by
  unfold addH; rw [if_neg (hne j (by rw [hv]; simp))]; exact hv
 have hlkc : ∀ j, j ≠ id → (((id, Blk.frm π nt (e.keep lv) ps' p q .ready) :: s : Sto)).lookup j = s.lookup j := fun j hj => by
  rw [List.lookup_cons]
  have : (j == id) = false := by simpa using hj
  simp only [this]
 have hs0 : StoOk P γ w X ((id, .frm π nt (e.keep lv) ps' p q .ready) :: s) := ⟨fun j v hv => by
   obtain ⟨b, hb, hk⟩ := hi.sto.blk j v hv
   exact ⟨b, by rw [hlkc j (hne j (by rw [hv]; simp))]; exact hb, hk⟩, hi.sto.apart, hi.sto.lt⟩
 obtain ⟨gs, ge⟩ := grow (γ := γ) (γ' := addH γ id (.func (.yield l) #[] #[])) (w := w) (w' := w1) (X := X) (X' := X) hs0 hbel hadd (fun _ _ _ => Iff.rfl) (fun b o hx => Nat.lt_of_lt_of_le (hi.sto.lt b o hx) hbel.size)
  (fun j v hv hn => by
   unfold addH at hv
   split at hv
   ·rename_i he
    subst he
    simp only [Option.some.injEq] at hv
    subst hv
    refine ⟨⟨.frm π nt (e.keep lv) ps' p q .ready, by simp, l, r, rfl, hlr, by rw [q4]; exact hps, by rw [q5]; exact hma, by rw [q6]; exact hmb, by rw [q3]; exact hi.size, fun t av ht => ?_, q1, q2⟩, fun k hk' => by simp [hblk] at hk'; omega⟩
    obtain ⟨v, hv, hr⟩ := hi.env t av (Z8x ht)
    exact ⟨v, by rw [q3]; exact hv, hr.mono hm1 fun j _ u hu => hadd j u hu⟩
   ·rw [hn] at hv; cases hv)
  (fun i j v u b hni hnj hv hu _ _ => by
   unfold addH at hv hu
   split at hv
   ·split at hu
    ·rename_i h1 h2; rw [h1, h2]
    ·rw [hnj] at hu; cases hu
   ·rw [hni] at hv; cases hv)
 have gf : Full (addH γ id (.func (.yield l) #[] #[])) ((id, .frm π nt (e.keep lv) ps' p q .ready) :: s) := fun j b hb => by
  by_cases he : j = id
  ·subst he; simp [addH]
  ·rw [hlkc j he] at hb
   obtain ⟨v, hv⟩ := Option.isSome_iff_exists.1 (hi.full j b hb)
   rw [hadd j v hv]; rfl
 obtain ⟨hsz, har⟩ := hargs (.func (.yield l) #[] #[])
 have hC := hcall (fs ++ #[.func (.yield l) #[] #[]] ++ us) _ w1 X hsz (fun i v c hv hc => by
  rcases har i v c hv hc with ⟨rfl, rfl⟩ | h1
  ·exact .yld id l (by simp [addH])
  ·exact h1.mono hm1 fun j _ u hu => hadd j u hu) gs gf
 refine (callsIn_wide (n := kk - 1)).2 (hC.mono fun en w3 hL => ?_)
 obtain ⟨v, γ3, X3, hL⟩ := hL
 have hret := hL.ret
 subst hret
 unfold rfO at h
 split at h
 case h_2 => cases h
 rename_i ρ nt2 e2 ps2 a2 b2 st hl3
 split at h
 case h_2 => cases h
 rename_i x3 hst
 obtain ⟨s2, hgc, he3⟩ := map_some h
 simp only [Prod.mk.injEq] at he3
 obtain ⟨rfl, rfl, rfl⟩ := he3
 have hid3 : γ3 id = some (.func (.yield l) #[] #[]) := by rw [hL.box id (.frm π nt (e.keep lv) ps' p q .ready) (by simp) rfl]; simp [addH]
 obtain ⟨bk, hb1, hb2⟩ := hL.sto.blk id _ hid3
 rw [hl3] at hb1
 cases hb1
 obtain ⟨l', r3, hfr⟩ := hb2
 have e1l : l' = l := by have := hfr.hand; simp at this; exact this.symm
 subst e1l
 have hlt3 : l' < w3.heap.size := (Array.getElem?_eq_some_iff.1 hfr.heap).1
 obtain ⟨⟨pr, hp1⟩, hp2, hp3⟩ := gc_spec hgc
 have hlk2 : ∀ i, s2.lookup i = if (pr i && (i != id)) = true then s1.lookup i else none := fun i => by
  rw [hp1, Yb (fun j => j != id) i s1]
  cases pr i <;> simp
 obtain ⟨γ4, c1, c2, c3, c4, c5⟩ := sub_ok hL.sto hL.full hlk2 hp2
 have hid4 : ∀ j v, γ4 j = some v → hblk v ≠ some l' := fun j v hv hb => by
  obtain ⟨h1, h2⟩ := c5 j v hv
  have := hL.sto.apart j id v _ l' h1 hid3 hb rfl
  subst this
  obtain ⟨b, hb⟩ := has_some h2
  rw [hlk2] at hb
  simp at hb
 generalize hw4 : w3.putObj l' (.loop { r3 with state := .exhausted }) = w4
 have hcell4 : ∀ b o v, CellAt w3 X3 b o v → CellAt w4 X3 b o v := fun b o v hc => by
  subst hw4
  by_cases hb : b = l'
  ·subst hb
   have := hc.cell
   unfold World.cell? at this
   rw [hfr.heap] at this
   simp at this
  ·exact ⟨(Y5 (World.putObj_heap_other hb)).trans hc.cell, hc.free⟩
 have hoth4 : ∀ k, k ≠ l' → w4.heap[k]? = w3.heap[k]? := fun k hk => by subst hw4; exact World.putObj_heap_other hk
 have hsz4 : w4.heap.size = w3.heap.size := by subst hw4; simp
 have d1 : StoOk P γ4 w4 X3 s2 := ⟨fun j v hv => by
   obtain ⟨b, hb, hk⟩ := c1.blk j v hv
   exact ⟨b, hb, hk.mono (fun k hk' => hoth4 k fun he => hid4 j v hv (by rw [hk', he])) hcell4 (fun _ _ _ => Iff.rfl) fun _ _ _ h => h⟩, c1.apart, fun b o hx => by rw [hsz4]; exact c1.lt b o hx⟩
 have d2 : Evo γ3 w3 X3 γ4 w4 X3 := by
  refine ⟨?_, ?_, ?_, by omega, fun b _ ho => hoth4 b fun he => ho ⟨id, _, hid3, by rw [he]; rfl⟩, hcell4, fun _ _ _ h => h, fun _ _ _ _ h => h, fun b _ ⟨j, v, hv, hk⟩ => ⟨j, v, (c5 j v hv).1, hk⟩⟩
  all_goals (subst hw4; rfl)
 have d3 : Evo γ w X γ4 w4 X3 := ge.trans (hL.evo.trans d2)
 have noO : ∀ D, w.heap.size ≤ D → D ≠ l' → D < w1.heap.size → ¬ Owned γ3 D := fun D h1 h2 h3 ho => by
  obtain ⟨j, v, hv, hk⟩ := hL.evo.owned D h3 ho
  unfold addH at hv
  split at hv
  ·simp only [Option.some.injEq] at hv
   subst hv
   simp [hblk] at hk
   omega
  ·obtain ⟨b, _, hbk⟩ := hi.sto.blk j v hv
   have := hbk.lt D hk
   omega
 have noO1 : ∀ D, w.heap.size ≤ D → D ≠ l' → ¬ Owned (addH γ id (.func (.yield l') #[] #[])) D := fun D h1 h2 ⟨j, v, hv, hk⟩ => by
  unfold addH at hv
  split at hv
  ·simp only [Option.some.injEq] at hv
   subst hv
   simp [hblk] at hk
   omega
  ·obtain ⟨b, _, hbk⟩ := hi.sto.blk j v hv
   have := hbk.lt D hk
   omega
 have hmarks : Marks Z γ4 w4 (mark ++ a.defers) := by
  have hold : Marks Z γ4 w4 a.defers := hi.defers.mono d3
  rcases hmark with rfl | ⟨D, rfl, k1, k2, k3⟩
  ·exact hold
  ·have hDlt : D < w1.heap.size := (Array.getElem?_eq_some_iff.1 k3).1
   refine ⟨⟨D, rfl, by omega, ?_, fun ⟨j, v, hv, hk⟩ => noO D k1 k2 hDlt ⟨j, v, (c5 j v hv).1, hk⟩, fun d hd => ?_⟩, hold⟩
   ·rw [hoth4 D k2, hL.evo.block D hDlt (noO1 D k1 k2)]; exact k3
   ·have key : ∀ (ds : List Deferred), Marks Z γ w ds → ∀ d ∈ ds, d.target ≠ .collected D := by
     intro ds
     induction ds with
     | nil => intro _ d hd; cases hd
     | cons d0 ds ih =>
      intro hm d hd
      obtain ⟨⟨D', rfl, _, z3, _, _⟩, z6⟩ := hm
      rcases List.mem_cons.1 hd with rfl | hd
      ·intro he
       simp only [Target.collected.injEq] at he
       have := (Array.getElem?_eq_some_iff.1 z3).1
       omega
      ·exact ih z6 d hd
    exact key a.defers hi.defers d hd
 have hbox : ∀ j ∈ k0, ∀ b, s.lookup j = some b → b.isBox = true → γ4 j = γ j := fun j hj b hb hbx => by
  have hjn : j ≠ id := fun he => by subst he; rw [Q1 hno] at hb; cases hb
  rw [c4 j (hp3 j (List.mem_append.2 (.inl hj))), hL.box j b (by rw [hlkc j hjn]; exact hb) hbx]
  unfold addH
  rw [if_neg hjn]
 have henv : EnvOk γ4 w4 X3 (fun t => ((Z6t s).foldl Env.kill e).lookup t) a.tmps := fun t av ht => by
  have ht0 := ht
  simp only [Zdj] at ht
  obtain ⟨b, hb, rfl⟩ := map_some ht
  obtain ⟨v, hv, hr⟩ := hi.env t b hb
  have h3 : RepA γ3 w4 X3 v (killL (Z6t s) b) := Z8u hr (fun b o v hc => hcell4 b o v (hL.evo.cell b o v (hm1 b o v hc))) fun i u hi' hu => by
   obtain ⟨bb, hbb, _⟩ := hi.sto.blk i u hu
   have hin : i ≠ id := hne i (by rw [hu]; simp)
   have hbx : bb.isBox = true := by
    cases bb with
    | row => exact absurd (row_mem hbb) hi'
    | box => rfl
    | frm => rfl
    | mpb => rfl
   rw [hL.box i bb (by rw [hlkc i hin]; exact hbb) hbx]
   exact hadd i u hu
  refine ⟨v, hv, h3.mono (fun _ _ _ h => h) fun i hi' u hu => ?_⟩
  rw [c4 i (hp3 i (List.mem_append.2 (.inr ?_)))]
  ·exact hu
  ·obtain ⟨n, hn⟩ := List.getElem?_of_mem (List.mem_map.2 ⟨_, Zd7 ht0, rfl⟩ : killL (Z6t s) b ∈ ((Z6t s).foldl Env.kill e).map (·.2))
   exact Zcf hn i hi'
 have hfin : AfterK P k0 nt Z γ w X s ((Z6t s).foldl Env.kill e) s2 { a with defers := mark ++ a.defers } w4 :=
  ⟨γ4, X3, ⟨d1, c2, henv, hi.size, hmarks⟩, d3, hbox⟩
 have hq := hQ _ _ hfin
 have hsto := hfr.st
 refine ⟨r3.pending, w4, by rw [← hw4]; exact run_endLoop hfr.heap (fun hb => by
  rw [hb] at hsto
  cases st with
  | ready => exact absurd hsto.1 (by simp)
  | busy => simp [FSt.exit] at hst
  | done y => exact absurd hsto.1 (by simp)), ?_⟩
 cases st with
 | busy => simp [FSt.exit] at hst
 | ready =>
  simp only [FSt.exit, Option.some.injEq] at hst
  subst hst
  rw [hsto.2]
  exact hq
 | done y =>
  simp only [FSt.exit, Option.some.injEq] at hst
  subst hst
  rw [hsto.2.1]
  cases y with
  | nm => exact absurd rfl hsto.2.2
  | ex i => exact wpIn_exit hq
  | rt => exact wpIn_ret hq
theorem fz_ok : ∀ (ts : List Nat) (e : Env) (s : Sto) (X : Own), Inv P nt Z γ w X e s a → ∃ X', Inv P nt Z γ w X' (fzE ts (e, s)).1 (fzE ts (e, s)).2 a ∧ Evo γ w X γ w X'
 | [], e, s, X, hi => ⟨X, hi, Evo.refl _ _ _⟩
 | t :: ts, e, s, X, hi => by
  simp only [fzE]
  split
  case h_2 => exact fz_ok ts e s X hi
  rename_i v hv
  split
  case h_2 => exact fz_ok ts e s X hi
  rename_i y s1 hf
  obtain ⟨u, hu, hr⟩ := hi.env t v hv
  obtain ⟨X1, h1, h2, h3, h4, _, _⟩ := Z90 hi.sto hi.full hr hf
  have hi1 : Inv P nt Z γ w X1 ((t, .p y) :: e) s1 a := ⟨h1, h2, fun t' av ht => by
   simp only [List.lookup_cons] at ht
   split at ht
   ·rename_i he
    have : t' = t := by simpa using he
    subst this
    simp only [Option.some.injEq] at ht
    subst ht
    exact ⟨u, hu, .p h4⟩
   ·obtain ⟨u', hu', hr'⟩ := hi.env t' av ht
    exact ⟨u', hu', hr'.mono h3.cell fun _ _ _ h => h⟩, hi.size, hi.defers.mono h3⟩
  obtain ⟨X2, k1, k2⟩ := fz_ok ts _ s1 X1 hi1
  exact ⟨X2, k1, h3.trans k2⟩
theorem lk_ok : ∀ (ts : List Nat) (e : Env) (s : Sto) (X : Own), Inv P nt Z γ w X e s a → ∃ X', Inv P nt Z γ w X' e (lkE ts (e, s)) a ∧ Evo γ w X γ w X'
 | [], e, s, X, hi => ⟨X, hi, Evo.refl _ _ _⟩
 | t :: ts, e, s, X, hi => by
  simp only [lkE]
  split
  case h_2 => exact lk_ok ts e s X hi
  rename_i id hv
  obtain ⟨h1, h2, h3, _⟩ := Z9z hi.sto hi.full [id]
  have hi1 : Inv P nt Z γ w _ e (s.lend [id]) a := ⟨h1, h2, hi.env.mono h3.cell fun _ _ h => h, hi.size, hi.defers.mono h3⟩
  obtain ⟨X2, k1, k2⟩ := lk_ok ts e _ _ hi1
  exact ⟨X2, k1, h3.trans k2⟩
theorem Q2 (hE : FS P C) {ro : Option Nat} {kk : Nat} {L : Loop} (hL : ∀ f x r, L f x = some r → ∃ n, iterN n f x = some r) {k0 : List Id} : ∀ (ir : IR) (c : Code) (e : Env) (s : Sto) (x : Ex) (e' : Env) (s' : Sto) (γ : Hand) (w : World) (X : Own) (a : Act) (Q : Exit → Act → World → Prop), mcode P nt c ir = true → evC C L π k0 ir e s = some (x, e', s') →
  Inv P nt Z γ w X e s a → RoIn ro k0 γ s ∧ Z ≤ w.heap.size → (∀ a' w', AfterK P k0 nt Z γ w X s e' s' a' w' → Q x.to a' w') → c.wpIn (WR ro) kk P Q a w
 | .sk, c, e, s, x, e', s', γ, w, X, a, Q, hm, h, hi, hR, hQ => by
  simp only [evC, Option.some.injEq, Prod.mk.injEq] at h
  obtain ⟨rfl, rfl, rfl⟩ := h
  have hq := hQ a w ⟨γ, X, hi, Evo.refl _ _ _, fun _ _ _ _ _ => rfl⟩
  cases c <;> simp only [mcode] at hm <;> first | (cases hm; done) | exact wpIn_skip hq | exact wpIn_label hq
 | .sq p q, c, e, s, x, e', s', γ, w, X, a, Q, hm, h, hi, hR, hQ => by
  cases c <;> simp only [mcode] at hm <;> try (cases hm; done)
  rename_i c1 c2
  simp only [Bool.and_eq_true] at hm
  simp only [evC] at h
  refine wpIn_seq ?_
  cases hp : evC C L π k0 p e s with
  | none => rw [hp] at h; cases h
  | some r =>
   obtain ⟨x1, e1, s1⟩ := r
   rw [hp] at h
   cases x1 with
   | nm =>
    simp only at h
    refine Q2 hE hL p c1 e s .nm e1 s1 γ w X a _ hm.1 hp hi hR fun a1 w1 h1 => ?_
    obtain ⟨γ1, X1, i1, v1, b1⟩ := h1
    exact Q2 hE hL q c2 e1 s1 x e' s' γ1 w1 X1 a1 Q hm.2 h i1 (RoIn.after hR hi.sto hi.full i1.sto v1 b1) fun a2 w2 h2 => hQ a2 w2 (AfterK.trans hi.sto hi.full i1 v1 b1 h2)
   | ex id =>
    simp only [Option.some.injEq, Prod.mk.injEq] at h
    obtain ⟨rfl, rfl, rfl⟩ := h
    exact Q2 hE hL p c1 e s (.ex id) e1 s1 γ w X a _ hm.1 hp hi hR fun a1 w1 h1 => hQ a1 w1 h1
   | rt =>
    simp only [Option.some.injEq, Prod.mk.injEq] at h
    obtain ⟨rfl, rfl, rfl⟩ := h
    exact Q2 hE hL p c1 e s .rt e1 s1 γ w X a _ hm.1 hp hi hR fun a1 w1 h1 => hQ a1 w1 h1
 | .cd k p q, c, e, s, x, e', s', γ, w, X, a, Q, hm, h, hi, hR, hQ => by
  cases c <;> simp only [mcode] at hm <;> try (cases hm; done)
  rename_i c0 c1 c2
  simp only [Bool.and_eq_true] at hm
  simp only [evC] at h
  split at h
  case h_2 => cases h
  rename_i b hb
  have hv := (get_rep hi hm.1.1 hb).ofP.boolI
  cases b with
  | true =>
   simp only [cond_true] at h
   exact wpIn_cond_true hv (Q2 hE hL p c1 e s x e' s' γ w X a Q hm.1.2 h hi hR hQ)
  | false =>
   simp only [cond_false] at h
   exact wpIn_cond_false hv (Q2 hE hL q c2 e s x e' s' γ w X a Q hm.2 h hi hR hQ)
 | .bk id p, c, e, s, x, e', s', γ, w, X, a, Q, hm, h, hi, hR, hQ => by
  cases c <;> simp only [mcode] at hm <;> try (cases hm; done)
  rename_i id' c1
  simp only [Bool.and_eq_true, beq_iff_eq] at hm
  obtain ⟨rfl, hm⟩ := hm
  simp only [evC] at h
  refine wpIn_block ?_
  cases hp : evC C L π k0 p e s with
  | none => rw [hp] at h; cases h
  | some r =>
   obtain ⟨x1, e1, s1⟩ := r
   rw [hp] at h
   cases x1 with
   | nm =>
    simp only [Option.some.injEq, Prod.mk.injEq] at h
    obtain ⟨rfl, rfl, rfl⟩ := h
    exact Q2 hE hL p c1 e s .nm e1 s1 γ w X a _ hm hp hi hR fun a1 w1 h1 => hQ a1 w1 h1
   | ex i =>
    simp only at h
    refine Q2 hE hL p c1 e s (.ex i) e1 s1 γ w X a _ hm hp hi hR fun a1 w1 h1 => ?_
    simp only [Ex.to, Exit.inBlock]
    split at h
    ·rename_i he
     simp only [Option.some.injEq, Prod.mk.injEq] at h
     obtain ⟨rfl, rfl, rfl⟩ := h
     rw [if_pos he]
     exact hQ a1 w1 h1
    ·rename_i he
     simp only [Option.some.injEq, Prod.mk.injEq] at h
     obtain ⟨rfl, rfl, rfl⟩ := h
     rw [if_neg he]
     exact hQ a1 w1 h1
   | rt =>
    simp only [Option.some.injEq, Prod.mk.injEq] at h
    obtain ⟨rfl, rfl, rfl⟩ := h
    exact Q2 hE hL p c1 e s .rt e1 s1 γ w X a _ hm hp hi hR fun a1 w1 h1 => hQ a1 w1 h1
 | .lp th live p, c, e, s, x, e', s', γ, w, X, a, Q, hm, h, hi, hR, hQ => by
  cases c <;> simp only [mcode] at hm <;> try (cases hm; done)
  rename_i c1
  simp only [evC] at h
  split at h
  case h_2 => cases h
  rename_i st hth
  obtain ⟨e0, s0⟩ := st
  obtain ⟨γ0, X0, i0, v0, b0⟩ := thaw_ok th e s γ X hi hth
  obtain ⟨m, h⟩ := hL _ _ _ h
  refine Zew (n := m) (R := fun n a w' => ∃ γ1 X1 e1 s1, iterN n (fun x => match mask live k0 x with | some x => evC C L π k0 p x.1 x.2 | none => none) (e1, s1) = some (x, e', s') ∧ Inv P nt Z γ1 w' X1 e1 s1 a ∧ Evo γ w X γ1 w' X1 ∧ (∀ id ∈ k0, ∀ b, s.lookup id = some b → b.isBox = true → γ1 id = γ id))
   (fun a w ⟨_, _, _, _, h, _⟩ => by simp [iterN] at h) ?_ ⟨γ0, X0, e0, s0, h, i0, v0, fun id _ b hl hb => b0 id b hl hb⟩
  rintro n a1 w1 ⟨γ1, X1, e1, s1, h1, i1, v1, b1⟩
  simp only [iterN] at h1
  cases hmk : mask live k0 (e1, s1) with
  | none => rw [hmk] at h1; simp at h1
  | some r =>
   obtain ⟨e2, s2⟩ := r
   rw [hmk] at h1
   simp only at h1
   obtain ⟨γ2, X2, i2, v2, b2⟩ := mask_ok i1 hmk
   have tr : ∀ {e3 s3 a3 w3}, AfterK P k0 nt Z γ2 w1 X2 s2 e3 s3 a3 w3 → AfterK P k0 nt Z γ w X s e3 s3 a3 w3 := fun h3 =>
    AfterK.trans hi.sto hi.full i1 v1 b1 (AfterK.trans i1.sto i1.full i2 v2 b2 h3)
   cases hp : evC C L π k0 p e2 s2 with
   | none => rw [hp] at h1; simp at h1
   | some r =>
    obtain ⟨x3, e3, s3⟩ := r
    rw [hp] at h1
    cases x3 with
    | nm =>
     simp only at h1
     refine Q2 hE hL p c1 e2 s2 .nm e3 s3 γ2 w1 X2 a1 _ hm hp i2 (RoIn.after (RoIn.after hR hi.sto hi.full i1.sto v1 b1) i1.sto i1.full i2.sto v2 b2) fun a3 w3 h3 => ?_
     obtain ⟨γ3, X3, i3, v3, b3⟩ := tr h3
     exact ⟨γ3, X3, e3, s3, h1, i3, v3, b3⟩
    | ex i =>
     simp only [Option.some.injEq, Prod.mk.injEq] at h1
     obtain ⟨rfl, rfl, rfl⟩ := h1
     exact Q2 hE hL p c1 e2 s2 (.ex i) e3 s3 γ2 w1 X2 a1 _ hm hp i2 (RoIn.after (RoIn.after hR hi.sto hi.full i1.sto v1 b1) i1.sto i1.full i2.sto v2 b2) fun a3 w3 h3 => hQ a3 w3 (tr h3)
    | rt =>
     simp only [Option.some.injEq, Prod.mk.injEq] at h1
     obtain ⟨rfl, rfl, rfl⟩ := h1
     exact Q2 hE hL p c1 e2 s2 .rt e3 s3 γ2 w1 X2 a1 _ hm hp i2 (RoIn.after (RoIn.after hR hi.sto hi.full i1.sto v1 b1) i1.sto i1.full i2.sto v2 b2) fun a3 w3 h3 => hQ a3 w3 (tr h3)
 | .op n l keep, c, e, s, x, e', s', γ, w, X, a, Q, hm, h, hi, hR, hQ => by
  cases c <;> simp only [mcode] at hm <;> try (cases hm; done)
  rename_i id ops draw
  simp only [Bool.and_eq_true] at hm
  simp only [evC] at h
  split at h
  case h_2 => cases h
  rename_i e1 s1 hst
  have fin : ∀ a' w', After P nt Z γ w X s e1 s1 a' w' → Q .normal a' w' := by
   intro a' w' hA
   split at h
   ·simp only [Option.some.injEq, Prod.mk.injEq] at h
    obtain ⟨rfl, rfl, rfl⟩ := h
    exact hQ a' w' hA.k
   ·rename_i k
    simp only [Option.some.injEq, Prod.mk.injEq] at h
    obtain ⟨rfl, rfl, rfl⟩ := h
    obtain ⟨γ1, X1, i1, v1, b1⟩ := hA
    refine hQ a' w' ⟨γ1, X1, ⟨i1.sto, i1.full, fun t av ht => ?_, i1.size, i1.defers⟩, v1, fun id _ b hl hb => b1 id b hl hb⟩
    exact i1.env t av (Z8x ht)
  cases draw with
  | false =>
   have hn : n = 0 := by simpa using hm.2
   subst hn
   have hst' : steps C π 0 l e s = some (e1, s1) := by unfold evR at hst; simpa [hidOf] using hst
   exact wpIn_region (region_seq hE hst' hm.1 hi fin)
  | true =>
   have hd : drawB P ops l n = true := by simpa using hm.2
   have h := wpIn_region_any (id := id) (F := WR ro) (n := kk) (Q := fun e a w => e = .normal ∧ Q e a w) (drawB_mixed hd) (region_draw hE hst hm.1 hd hi (fun a' w' hA => ⟨rfl, fin a' w' hA⟩) (fun _ _ _ h => h.1))
   exact fun b k cs h1 h2 h3 => let ⟨e1, a1, w1, hq, harr⟩ := h b k cs h1 h2 h3; ⟨e1, a1, w1, hq.2, harr⟩
 | .ex id, c, e, s, x, e', s', γ, w, X, a, Q, hm, h, hi, hR, hQ => by
  simp only [evC, Option.some.injEq, Prod.mk.injEq] at h
  obtain ⟨rfl, rfl, rfl⟩ := h
  cases c <;> simp only [mcode] at hm <;> try (cases hm; done)
  simp only [beq_iff_eq] at hm
  subst hm
  exact wpIn_exit (hQ a w ⟨γ, X, hi, Evo.refl _ _ _, fun _ _ _ _ _ => rfl⟩)
 | .rt, c, e, s, x, e', s', γ, w, X, a, Q, hm, h, hi, hR, hQ => by
  simp only [evC, Option.some.injEq, Prod.mk.injEq] at h
  obtain ⟨rfl, rfl, rfl⟩ := h
  cases c <;> simp only [mcode] at hm <;> try (cases hm; done)
  exact wpIn_ret (hQ a w ⟨γ, X, hi, Evo.refl _ _ _, fun _ _ _ _ _ => rfl⟩)
 | .bad, c, e, s, x, e', s', γ, w, X, a, Q, hm, h, hi, hR, hQ => by simp [evC] at h
 | .rf g' nt' site lv ps' p q, c, e, s, x, e', s', γ, w, X, a, Q, hm, h, hi, hR, hQ => by
  cases c with
  | rangeFunc g ps as bd => exact rf_ok hE hm h hi hR hQ
  | _ => simp [mcode] at hm
 | .fz ts p, c, e, s, x, e', s', γ, w, X, a, Q, hm, h, hi, hR, hQ => by
  have hm' : mcode P nt c p = true := by cases c <;> simpa only [mcode] using hm
  simp only [evC] at h
  obtain ⟨X1, i1, v1⟩ := fz_ok ts e s X hi
  exact Q2 hE hL p c _ _ x e' s' γ w X1 a Q hm' h i1 (RoIn.after hR hi.sto hi.full i1.sto v1 fun _ _ _ _ _ => rfl) fun a1 w1 h1 => hQ a1 w1 (AfterK.trans hi.sto hi.full i1 v1 (fun _ _ _ _ _ => rfl) h1)
 | .fk ts p, c, e, s, x, e', s', γ, w, X, a, Q, hm, h, hi, hR, hQ => by
  have hm' : mcode P nt c p = true := by cases c <;> simpa only [mcode] using hm
  simp only [evC] at h
  obtain ⟨X1, i1, v1⟩ := lk_ok ts e s X hi
  exact Q2 hE hL p c _ _ x e' s' γ w X1 a Q hm' h i1 (RoIn.after hR hi.sto hi.full i1.sto v1 fun _ _ _ _ _ => rfl) fun a1 w1 h1 => hQ a1 w1 (AfterK.trans hi.sto hi.full i1 v1 (fun _ _ _ _ _ => rfl) h1)
 | .tw th p, c, e, s, x, e', s', γ, w, X, a, Q, hm, h, hi, hR, hQ => by
  have hm' : mcode P nt c p = true := by cases c <;> simpa only [mcode] using hm
  simp only [evC] at h
  split at h
  case h_2 => cases h
  rename_i st hth
  obtain ⟨e0, s0⟩ := st
  obtain ⟨γ0, X0, i0, v0, b0⟩ := thaw_ok th e s γ X hi hth
  exact Q2 hE hL p c _ _ x e' s' γ0 w X0 a Q hm' h i0 (RoIn.after hR hi.sto hi.full i0.sto v0 fun id _ b hl hb => b0 id b hl hb) fun a1 w1 h1 => hQ a1 w1 (AfterK.trans hi.sto hi.full i0 v0 (fun id _ b hl hb => b0 id b hl hb) h1)
 | .fe ts p, c, e, s, x, e', s', γ, w, X, a, Q, hm, h, hi, hR, hQ => by
  have hm' : mcode P nt c p = true := by cases c <;> simpa only [mcode] using hm
  simp only [evC] at h
  cases hp : evC C L π k0 p e s with
  | none => rw [hp] at h; cases h
  | some r =>
   obtain ⟨x1, e1, s1⟩ := r
   rw [hp] at h
   cases x1 with
   | nm =>
    simp only [Option.some.injEq, Prod.mk.injEq] at h
    obtain ⟨rfl, h⟩ := h
    refine Q2 hE hL p c e s .nm e1 s1 γ w X a _ hm' hp hi hR fun a1 w1 ⟨γ1, X1, i1, v1, b1⟩ => hQ a1 w1 ?_
    obtain ⟨X2, i2, v2⟩ := fz_ok ts e1 s1 X1 i1
    rw [h] at i2
    exact ⟨γ1, X2, i2, v1.trans v2, b1⟩
   | rt =>
    simp only [Option.some.injEq, Prod.mk.injEq] at h
    obtain ⟨rfl, rfl, rfl⟩ := h
    exact Q2 hE hL p c e s .rt e1 s1 γ w X a _ hm' hp hi hR fun a1 w1 h1 => hQ a1 w1 h1
   | ex i =>
    simp only [Option.some.injEq, Prod.mk.injEq] at h
    obtain ⟨rfl, rfl, rfl⟩ := h
    exact Q2 hE hL p c e s (.ex i) e1 s1 γ w X a _ hm' hp hi hR fun a1 w1 h1 => hQ a1 w1 h1
 | .kp k kr p, c, e, s, x, e', s', γ, w, X, a, Q, hm, h, hi, hR, hQ => by
  have hm' : mcode P nt c p = true := by cases c <;> simpa only [mcode] using hm
  simp only [evC] at h
  have fin : ∀ (l : List Nat) (x1 : Ex) (e1 : Env) (s1 : Sto), (mask l k0 (e1, s1)).map (fun y => (x1, y.1, y.2)) = some (x, e', s') → x = x1 ∧ ∀ a1 w1, AfterK P k0 nt Z γ w X s e1 s1 a1 w1 → AfterK P k0 nt Z γ w X s e' s' a1 w1 := by
   intro l x1 e1 s1 h1
   obtain ⟨y, hy, he⟩ := map_some h1
   simp only [Prod.mk.injEq] at he
   obtain ⟨rfl, rfl, rfl⟩ := he
   refine ⟨rfl, fun a1 w1 ⟨γ1, X1, i1, v1, b1⟩ => ?_⟩
   exact AfterK.trans hi.sto hi.full i1 v1 b1 (mask_ok i1 hy)
  cases hp : evC C L π k0 p e s with
  | none => rw [hp] at h; cases h
  | some r =>
   obtain ⟨x1, e1, s1⟩ := r
   rw [hp] at h
   cases x1 with
   | nm =>
    obtain ⟨rfl, k1⟩ := fin _ _ _ _ h
    exact Q2 hE hL p c e s .nm e1 s1 γ w X a _ hm' hp hi hR fun a1 w1 h1 => hQ a1 w1 (k1 a1 w1 h1)
   | rt =>
    obtain ⟨rfl, k1⟩ := fin _ _ _ _ h
    exact Q2 hE hL p c e s .rt e1 s1 γ w X a _ hm' hp hi hR fun a1 w1 h1 => hQ a1 w1 (k1 a1 w1 h1)
   | ex i =>
    simp only [Option.some.injEq, Prod.mk.injEq] at h
    obtain ⟨rfl, rfl, rfl⟩ := h
    exact Q2 hE hL p c e s (.ex i) e1 s1 γ w X a _ hm' hp hi hR fun a1 w1 h1 => hQ a1 w1 h1
end
end Go.Proofs.YteecfnfjlclhdaaGreat.V
