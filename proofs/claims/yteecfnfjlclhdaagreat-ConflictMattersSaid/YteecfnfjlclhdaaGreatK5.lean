/- Functions: their results, their frames; all calls, in so many steps and in however many. Rounds of ranges over functions. The evaluator in however many steps: its equation, its soundness. Rewriting rules for proofs that run the evaluator: each rule does one step at the head. The evaluator with so mu -/
import Derived.Test.YteecfnfjlclhdaaGreatK4
import GoSem.Machine.Return
import Derived.RangeFuncLeaves
import Derived.IntWalk
import Derived.Sort.OwnSortedInts
import Derived.Lib.Join
import Derived.Lib.ItoaNum
import Derived.Lib.SlicesCompact
import Derived.OpenShut
import Derived.Carry

set_option linter.unusedSimpArgs false
set_option linter.unusedVariables false

/- Functions: their results, their frames; all calls, in so many steps and in however many. -/
namespace Go.Proofs.YteecfnfjlclhdaaGreat.V
open Go Go.RowKit
section
variable {P : Program} {C : Call} {π : Id} {γ γ' : Hand} {w w' : World} {X X' : Own} {s : Sto} {e : Env} {a : Act} {nt Z : Nat}
theorem mapM_run {α β : Type} {f : α → Sem β} {w : World} : ∀ (l : List α) (vs : List β), l.length = vs.length → (∀ (i : Nat) x y, l[i]? = some x → vs[i]? = some y → (f x).run P w = .ok y w) → (l.mapM f).run P w = .ok vs w
 | [], [], _, _ => by simp
 | x :: l, y :: vs, hl, h => by
  have h0 := h 0 x y (by simp) (by simp)
  have hr := mapM_run l vs (by simpa using hl) fun i a b ha hb => h (i + 1) a b (by simpa using ha) (by simpa using hb)
  simp only [List.mapM_cons, Sem.run_bind, h0, Result.andThen_ok, hr, Sem.run_pure]
 | [], _ :: _, hl, _ => by simp at hl
 | _ :: _, [], hl, _ => by simp at hl
def Zfl (tmps : Array Value) : ResultVar → Sem Value
 | .tmp t => pure (tmps.getD t undef)
 | .cell a t => do loadVar t (← asAddr (tmps.getD a undef))
theorem results_eq (fn : Func) (tmps : Array Value) : results fn tmps = (do
  let vs ← fn.results.mapM (Zfl tmps)
  pure (if h : vs.size = 1 then vs[0] else .tuple vs)) := rfl
theorem res_run (hi : Inv P nt Z γ w X e s a) {x : ResultVar} {y : RV} {av : AV} (hm : mres P x y = true) (h : resOf e s y = some av) :
  ∃ v, (Zfl a.tmps x).run P w = .ok v w ∧ RepA γ w X v av := by
 cases x with
 | tmp t =>
  cases y with
  | c => simp [mres] at hm
  | t t' =>
   simp only [mres, beq_iff_eq] at hm
   subst hm
   exact ⟨_, rfl, get_rep (c := .tmp t) (c' := .t t) hi (by simp [mopd]) h⟩
 | cell t T =>
  cases y with
  | t => simp [mres] at hm
  | c t' sz ag =>
   simp only [mres, Bool.and_eq_true, beq_iff_eq] at hm
   obtain ⟨⟨rfl, hsz⟩, hag⟩ := hm
   simp only [resOf] at h
   split at h
   case h_2 => cases h
   rename_i id o hl
   split at h
   case h_2 => cases h
   rename_i lent cs hb
   obtain ⟨v, hv, hr⟩ := hi.env t _ hl
   have hv' : a.tmps.getD t undef = v := by simp [hv]
   cases hr with
   | ref id off b hγ =>
    obtain ⟨blk, hb1, hb2⟩ := hi.sto.blk id _ hγ
    rw [hb] at hb1
    simp at hb1
    subst hb1
    obtain ⟨b', c, T', hbox⟩ := hb2
    have hbb := hbox.hand
    simp at hbb
    subst hbb
    have hcell : ∀ j, j < cs.length → ∃ u, c[j]? = some u ∧ w.cell? ⟨b, j, none⟩ = some u ∧ ∀ q, cs[j]? = some q → RepA γ w X u q := by
     intro j hj
     have hj' : j < c.size := by rw [hbox.size]; exact hj
     refine ⟨c[j], Array.getElem?_eq_getElem hj', ?_, fun q hq => hbox.rep j _ q (Array.getElem?_eq_getElem hj') hq⟩
     rw [cell_of_row w b j c T' (0, 0) hbox.heap]
     exact Array.getElem?_eq_getElem hj'
    cases ag with
    | true =>
     simp only [cond_true] at h
     split at h
     case isFalse => cases h
     rename_i hle
     simp at h; subst h
     refine ⟨.agg ((List.range sz).map fun j => c.getD (o + j) undef).toArray, ?_, RepA.mkAgg ?_ fun i v q hv' hq => ?_⟩
     ·have := Z2h hsz hag w b o (fun j => c.getD (o + j) undef) fun j hj => by
       obtain ⟨u, hu, hcu, _⟩ := hcell (o + j) (by omega)
       rw [hcu]; simp [hu]
      simp [Zfl, hv', asAddr, this]
     ·rw [Z2g hle (by omega)]; simp
     ·obtain ⟨hq1, hq2⟩ := Z73 hq
      obtain ⟨u, hu, hcu, hrep⟩ := hcell (o + i) (by omega)
      have hlt : i < sz := by omega
      simp [hlt, hu] at hv'
      subst hv'
      exact hrep q hq1
    | false =>
     simp only [cond_false] at h
     obtain ⟨u, hu, hcu, hrep⟩ := hcell o ((List.getElem?_eq_some_iff.1 h).1)
     exact ⟨u, by simp [Zfl, hv', asAddr, Z4x hag w b o u hcu], hrep av h⟩
theorem mresL_len : ∀ {xs : List ResultVar} {ys : List RV}, mresL P xs ys = true → xs.length = ys.length ∧ ∀ (i : Nat) x y, xs[i]? = some x → ys[i]? = some y → mres P x y = true
 | [], [], _ => by simp
 | x :: xs, y :: ys, h => by
  simp only [mresL, Bool.and_eq_true] at h
  obtain ⟨h1, h2⟩ := mresL_len h.2
  refine ⟨by simp [h1], fun i a b ha hb => ?_⟩
  cases i with
  | zero => simp at ha hb; subst ha; subst hb; exact h.1
  | succ i => exact h2 i a b (by simpa using ha) (by simpa using hb)
 | [], _ :: _, h => by simp [mresL] at h
 | _ :: _, [], h => by simp [mresL] at h
theorem exists_list {α β : Type} {p : Nat → β → Prop} : ∀ (l : List α), (∀ i, i < l.length → ∃ b, p i b) → ∃ vs : List β, vs.length = l.length ∧ ∀ (i : Nat) b, vs[i]? = some b → p i b := by
 intro l
 induction l generalizing p with
 | nil => exact fun _ => ⟨[], by simp⟩
 | cons a r ih =>
  intro h
  obtain ⟨b, hb⟩ := h 0 (by simp)
  obtain ⟨vs, h1, h2⟩ := ih (p := fun i b => p (i + 1) b) fun i hi => h (i + 1) (by simpa using hi)
  refine ⟨b :: vs, by simp [h1], fun i c hc => ?_⟩
  cases i with
  | zero => simp at hc; subst hc; exact hb
  | succ i => exact h2 i c (by simpa using hc)
theorem results_ok {fn : Func} {rs : List RV} {vs : List AV} (hi : Inv P nt Z γ w X e s a) (hm : mresL P fn.results.toList rs = true) (h : rs.mapM (resOf e s) = some vs) :
  ∃ v, (results fn a.tmps).run P w = .ok v w ∧ RepA γ w X v (G6 vs) := by
 obtain ⟨hl, hp⟩ := mresL_len hm
 obtain ⟨hl2, hp2⟩ := Uz h
 have step : ∀ i, i < vs.length → ∃ v, (∀ x, fn.results.toList[i]? = some x → (Zfl a.tmps x).run P w = .ok v w) ∧ ∀ c, vs[i]? = some c → RepA γ w X v c := by
  intro i hi'
  have hc : vs[i]? = some vs[i] := List.getElem?_eq_getElem hi'
  obtain ⟨y, hy⟩ := getElem?_same hl2 hc
  obtain ⟨x, hx⟩ := getElem?_same (l := fn.results.toList) (r := rs) hl.symm hy
  obtain ⟨v, hv, hr⟩ := res_run hi (hp i x y hx hy) (hp2 i y _ hy hc)
  exact ⟨v, fun x' hx' => by rw [hx] at hx'; cases hx'; exact hv, fun c hc' => by rw [hc] at hc'; cases hc'; exact hr⟩
 obtain ⟨us, hu1, hu2⟩ := exists_list vs step
 have hrun : (fn.results.toList.mapM (Zfl a.tmps)).run P w = .ok us w :=
  mapM_run _ _ (by rw [hl, ← hl2, hu1]) fun i x y hx hy => (hu2 i y hy).1 x hx
 have hres : (results fn a.tmps).run P w = .ok (if h : us.toArray.size = 1 then us.toArray[0] else .tuple us.toArray) w := by
  rw [results_eq]
  simp only [Array.mapM_eq_mapM_toList]
  simp [hrun]
 refine ⟨_, hres, ?_⟩
 match vs, us, hu1, hu2 with
 | [c], [u], _, hu2 => simpa [G6] using (hu2 0 u (by simp)).2 c (by simp)
 | [], [], _, hu2 =>
  have : RepA γ w X (.tuple #[]) (AV.mkTup []) := RepA.mkTup (by simp) fun i v c hv hc => by simp at hc
  exact this
 | c1 :: c2 :: cs, u1 :: u2 :: us, hl, hu2 =>
  simp only [G6]
  rw [dif_neg (by simp)]
  exact RepA.mkTup (by simpa using hl) fun i v c hv hc => (hu2 i v (by simpa using hv)).2 c hc
theorem envOf_ok : ∀ (args : List AV) (i : Nat) (t : Nat) (av : AV), (envOf i args).lookup t = some av → i ≤ t ∧ args[t - i]? = some av
 | [], i, t, av, h => by simp [envOf] at h
 | v :: r, i, t, av, h => by
  simp only [envOf, List.lookup_cons] at h
  split at h
  ·rename_i he
   have : t = i := by simpa using he
   subst this
   simp at h
   subst h
   exact ⟨Nat.le_refl _, by simp⟩
  ·obtain ⟨h1, h2⟩ := envOf_ok r (i + 1) t av h
   refine ⟨by omega, ?_⟩
   have : t - i = (t - (i + 1)) + 1 := by omega
   rw [this]
   simpa using h2
theorem leaves_ok {fn : Func} {R : Ending → World → Prop} {B : Nat} {γ0 : Hand} {w0 : World} {X0 : Own} (h0 : w0.heap.size ≤ B) {tmps : Array Value}
  (hfin : ∀ w', StoOk P γ w' X s → EnvOk γ w' X (fun t => e.lookup t) tmps → Evo γ0 w0 X0 γ w' X → ∃ v, (results fn tmps).run P w' = .ok v w' ∧ R (.returned v) w') :
  ∀ (ds : List Deferred) (w : World), Marks B γ w ds → StoOk P γ w X s → EnvOk γ w X (fun t => e.lookup t) tmps → Evo γ0 w0 X0 γ w X → LeavesInM Fence.wide 0 P fn tmps R ds .returning w
 | [], w, _, hs, he, hv => by
  obtain ⟨v, hv, hR⟩ := hfin w hs he hv
  exact ⟨v, hv, hR⟩
 | d :: ds, w, hm, hs, he, hv => by
  obtain ⟨⟨D, rfl, hB, hD, hno, hne⟩, hrest⟩ := hm
  have hlt : D < w.heap.size := (Array.getElem?_eq_some_iff.1 hD).1
  have hcell : ∀ b o v, CellAt w X b o v → CellAt (w.putObj D (.deferred none)) X b o v := fun b o v hc => by
   by_cases hb : b = D
   ·subst hb
    have := hc.cell
    unfold World.cell? at this
    rw [hD] at this
    simp at this
   ·exact ⟨(Y5 (World.putObj_heap_other hb)).trans hc.cell, hc.free⟩
  refine ⟨by simp, .inl ⟨D, w.putObj D (.deferred none), rfl, run_takeDeferred hD, ?_⟩⟩
  have he' : EnvOk γ (w.putObj D (.deferred none)) X (fun t => e.lookup t) tmps := fun t av ht => by
   obtain ⟨v, hv, hr⟩ := he t av ht
   exact ⟨v, hv, hr.mono hcell fun _ _ _ h => h⟩
  refine leaves_ok h0 hfin ds _ ?_ ?_ he' ?_
  ·have key : ∀ (l : List Deferred), (∀ d' ∈ l, d'.target ≠ .collected D) → Marks B γ w l → Marks B γ (w.putObj D (.deferred none)) l := by
    intro l
    induction l with
    | nil => intro _ _; trivial
    | cons d' l ih =>
     intro hn hm
     obtain ⟨⟨D', rfl, h2, h3, h4, h5⟩, h6⟩ := hm
     have hne' : D' ≠ D := fun h => hn _ List.mem_cons_self (by rw [h])
     exact ⟨⟨D', rfl, h2, (World.putObj_heap_other hne').trans h3, h4, h5⟩, ih (fun d hd => hn d (List.mem_cons_of_mem _ hd)) h6⟩
   exact key ds hne hrest
  ·exact ⟨fun i h hi => by
    obtain ⟨b, hb, hk⟩ := hs.blk i h hi
    refine ⟨b, hb, hk.mono (fun k hk' => World.putObj_heap_other fun h' => hno ⟨i, h, hi, by rw [hk', h']⟩) hcell (fun _ _ _ => Iff.rfl) fun _ _ _ h => h⟩, hs.apart, fun b o hx => by simpa using hs.lt b o hx⟩
  ·exact ⟨hv.os, hv.tape, hv.output, by simpa using hv.size, fun b hb ho => (World.putObj_heap_other (by omega)).trans (hv.block b hb ho), fun b o v hc => hcell b o v (hv.cell b o v hc), hv.less, hv.keep, hv.owned⟩
theorem runF_ok (hE : FS P C) {f : Nat} {fn : Func} {F : FnIR} {L : Loop} (hL : ∀ f x r, L f x = some r → ∃ n, iterN n f x = some r) {args : List AV} {r : AV} {s' : Sto} (hf : P.funcs[f]? = some fn) (hm : mfn P fn F = true) (h : runF C L F π args s = some (r, s')) : Z0q P f ∧
  ∀ (vals : Array Value) (γ : Hand) (w : World) (X : Own), vals.size = args.length → (∀ (i : Nat) v c, vals[i]? = some v → args[i]? = some c → RepA γ w X v c) → StoOk P γ w X s → Full γ s →
   Calls P f vals w fun e w' => ∃ v γ' X', Left P γ w X s r s' e w' v γ' X' := by
 unfold mfn at hm
 simp only [Bool.and_eq_true, beq_iff_eq, Bool.not_eq_true'] at hm
 obtain ⟨⟨⟨hb, hnt⟩, hres⟩, hname⟩ := hm
 cases hbd : fn.body with
 | none => rw [hbd] at hb; cases hb
 | some c =>
  rw [hbd] at hb
  refine ⟨⟨fn, hf, by rw [hbd]; rfl, hname⟩, fun vals γ w X hsz hargs hs hfull => ?_⟩
  refine (callsIn_wide (n := 0)).1 (callsIn_of_wp_marks hf hbd trivial ?_)
  rw [← WR_none]
  unfold runF at h
  split at h
  case isFalse => cases h
  rename_i hle
  have hi : Inv P F.nt w.heap.size γ w X (envOf 0 args) s { tmps := vals ++ Array.replicate (fn.ntmps - vals.size) undef, defers := [] } := by
   refine ⟨hs, hfull, fun t av ht => ?_, by simp; omega, trivial⟩
   obtain ⟨_, h2⟩ := envOf_ok args 0 t av ht
   simp only [Nat.sub_zero] at h2
   have hlt : t < vals.size := by have := (List.getElem?_eq_some_iff.1 h2).1; omega
   refine ⟨vals[t], by simp [Array.getElem?_append, hlt], hargs t _ av (Array.getElem?_eq_getElem hlt) h2⟩
  have fin : ∀ (x : Ex) (e1 : Env) (s1 : Sto), (match F.res.mapM (resOf e1 s1) with | some vs => bif (G6 vs).keeps then none else (gc s1 (s.map (·.1) ++ (G6 vs).ids)).map (G6 vs, ·) | none => none) = some (r, s') →
    ∀ a' w', AfterK P (s.map (·.1)) F.nt w.heap.size γ w X s e1 s1 a' w' → LeavesInM Fence.wide 0 P fn a'.tmps (fun e w' => ∃ v' γ' X', Left P γ w X s r s' e w' v' γ' X') a'.defers .returning w' := by
   intro x e1 s1 h1 a' w' ⟨γ1, X1, i1, v1, b1⟩
   split at h1
   case h_2 => cases h1
   rename_i vs hvs
   cases hkp : (G6 vs).keeps with
   | true => rw [hkp] at h1; cases h1
   | false =>
   rw [hkp, cond_false] at h1
   obtain ⟨s2, hg, he⟩ := map_some h1
   simp only [Prod.mk.injEq] at he
   obtain ⟨rfl, rfl⟩ := he
   refine leaves_ok (X := X1) (γ := γ1) (s := s1) (e := e1) (γ0 := γ) (w0 := w) (X0 := X) (Nat.le_refl _) (fun w2 hs2 he2 hv2 => ?_) a'.defers w' i1.defers i1.sto i1.env v1
   have i2 : Inv P F.nt 0 γ1 w2 X1 e1 s1 { tmps := a'.tmps, defers := [] } := ⟨hs2, i1.full, he2, i1.size, trivial⟩
   obtain ⟨v, hv, hr⟩ := results_ok i2 hres hvs
   obtain ⟨γ2, g1, g2, g3, g4⟩ := gc_ok hs2 i1.full hg
   refine ⟨v, hv, v, γ2, X1, ⟨rfl, hr.mono (fun _ _ _ h => h) fun id hid u hu => ?_, g1, g2, hv2.trans g3, fun id b hl hbx => ?_, fun hk => by rw [hkp] at hk; cases hk⟩⟩
   ·rw [g4 id (List.mem_append.2 (.inr hid))]; exact hu
   ·have hmem : id ∈ s.map (·.1) := List.mem_map.2 ⟨(id, b), L4 hl, rfl⟩
    rw [g4 id (List.mem_append.2 (.inl hmem)), b1 id hmem b hl hbx]
  split at h
  ·cases h
  ·rename_i x e1 s1 hx hev
   refine Q2 hE hL F.body c _ s x e1 s1 γ w X _ _ hb hev hi ⟨fun l hl => (by cases hl), Nat.le_refl _⟩ fun a' w' hA => ?_
   have := fin x e1 s1 h a' w' hA
   cases x with
   | nm => exact this
   | rt => exact this
   | ex id => exact absurd rfl (hx id)
  ·cases h
end
section
variable {P : Program} {C : Call} {π : Id} {γ γ' : Hand} {w w' : World} {X X' : Own} {s : Sto} {e : Env} {a : Act} {nt Z : Nat}
theorem frm_upd {id : Id} {l : Nat} {ρ : Id} {ps : List Nat} {as bd : IR} {st st' : FSt} {r : Go.Loop} {ls : LoopState} {pd : Option Code} (hs : StoOk P γ w X s) (hf : Full γ s) (hid : γ id = some (.func (.yield l) #[] #[])) (hl : s.lookup id = some (.frm ρ nt e ps as bd st))
  (hr : w.heap[l]? = some (.loop r)) (hst : st'.ok ls pd) :
  StoOk P γ (w.putObj l (.loop { r with state := ls, pending := pd })) X (s.put id (.frm ρ nt e ps as bd st')) ∧ Full γ (s.put id (.frm ρ nt e ps as bd st')) ∧ Evo γ w X γ (w.putObj l (.loop { r with state := ls, pending := pd })) X := by
 have hlt : l < w.heap.size := (Array.getElem?_eq_some_iff.1 hr).1
 have hno : ∀ o v, ¬ CellAt w X l o v := fun o v hc => by
  have := hc.cell
  unfold World.cell? at this
  rw [hr] at this
  simp at this
 have hsame : ∀ k, k < w.heap.size → hblk (.func (.yield l) #[] #[]) ≠ some k → (w.putObj l (.loop { r with state := ls, pending := pd })).heap[k]? = w.heap[k]? := fun k _ hne => World.putObj_heap_other fun he => hne (by simp [hblk, he])
 have hm : ∀ b o v, CellAt w X b o v → CellAt (w.putObj l (.loop { r with state := ls, pending := pd })) X b o v := fun b o v hc => by
  by_cases hb : b = l
  ·subst hb; exact absurd hc (hno o v)
  ·exact ⟨(Y5 (World.putObj_heap_other hb)).trans hc.cell, hc.free⟩
 obtain ⟨bk, hb1, hb2⟩ := hs.blk id _ hid
 rw [hl] at hb1
 cases hb1
 obtain ⟨l', r', hfr⟩ := hb2
 have e1 : l' = l := by have := hfr.hand; simp at this; exact this.symm
 subst e1
 have e2 : r' = r := by have := hfr.heap; rw [hr] at this; simpa using this.symm
 subst e2
 obtain ⟨u1, u2, u3, _, _⟩ := upd (γ := γ) (w := w) (w' := w.putObj l' (.loop { r' with state := ls, pending := pd })) (X := X) (X' := X) (s := s) (id := id) (h := .func (.yield l') #[] #[]) (h' := .func (.yield l') #[] #[])
  (blk' := .frm ρ nt e ps as bd st') (s' := s.put id (.frm ρ nt e ps as bd st')) hs hf hid rfl rfl rfl (by simp) hsame (fun _ _ _ _ => Iff.rfl) (fun b o v hb hc => by
   simp [hblk] at hb; subst hb; exact absurd hc (hno o v)) (fun _ _ _ h => h)
  (fun b o hx => by simpa using hs.lt b o hx) (.inl rfl)
  (by
   rw [Ws hid]
   refine ⟨l', _, rfl, World.putObj_heap_same hlt, hfr.params, hfr.assign, hfr.body, hfr.size, fun t av ht => ?_, hst⟩
   obtain ⟨v, hv, hr'⟩ := hfr.env t av ht
   exact ⟨v, hv, hr'.mono hm fun _ _ _ h => h⟩)
  (by rw [Zd, if_pos rfl, hl]; rfl) (fun i hne => .inr ⟨by rw [Zd, if_neg hne], rfl⟩)
 rw [Ws hid] at u1 u2 u3
 exact ⟨u1, u2, u3⟩
theorem zip_none {t : Nat} : ∀ {ps : List Nat} {vs : List AV}, t ∉ ps → (ps.zip vs).lookup t = none
 | [], _, _ => by simp
 | _ :: _, [], _ => by simp
 | p :: ps, v :: vs, h => by
  have h1 : (t == p) = false := by simpa using fun he => h (by rw [he]; exact List.mem_cons_self)
  simp only [List.zip_cons_cons, List.lookup_cons, h1]
  exact zip_none fun hm => h (List.mem_cons_of_mem _ hm)
theorem zip_set : ∀ (ps : List Nat) (vs : List AV) (vals : List Value) (tmps : Array Value) (e : Env), ps.length = vs.length → vs.length = vals.length → ps.Nodup → (∀ t ∈ ps, t < tmps.size) →
  (∀ (i : Nat) v c, vals[i]? = some v → vs[i]? = some c → RepA γ w X v c) → (∀ t av, e.lookup t = some av → ∃ v, tmps[t]? = some v ∧ RepA γ w X v av) →
  ((ps.zip vals).foldl (fun t x => t.setIfInBounds x.1 x.2) tmps).size = tmps.size ∧ ∀ t av, (ps.zip vs ++ e).lookup t = some av → ∃ v, ((ps.zip vals).foldl (fun t x => t.setIfInBounds x.1 x.2) tmps)[t]? = some v ∧ RepA γ w X v av
 | [], _, _, tmps, e, _, _, _, _, _, he => by simpa using he
 | p :: ps, v :: vs, x :: vals, tmps, e, h1, h2, hn, hlt, hr, he => by
  simp only [List.nodup_cons] at hn
  have hp := hlt p List.mem_cons_self
  obtain ⟨k1, k2⟩ := zip_set ps vs vals (tmps.setIfInBounds p x) ((p, v) :: e) (by simpa using h1) (by simpa using h2) hn.2 (fun t ht => by simpa using hlt t (List.mem_cons_of_mem _ ht)) (fun i a b ha hb => hr (i + 1) a b (by simpa using ha) (by simpa using hb)) (fun t av ht => by
   rw [List.lookup_cons] at ht
   split at ht
   ·rename_i hh
    have : t = p := by simpa using hh
    subst this
    simp at ht; subst ht
    exact ⟨x, by simp [hp], hr 0 x v (by simp) (by simp)⟩
   ·rename_i hh
    have : t ≠ p := by simpa using hh
    obtain ⟨u, hu, hru⟩ := he t av ht
    exact ⟨u, by rw [Array.getElem?_setIfInBounds_ne (Ne.symm this)]; exact hu, hru⟩)
  refine ⟨by simpa using k1, fun t av ht => ?_⟩
  simp only [List.zip_cons_cons, List.foldl_cons]
  refine k2 t av ?_
  simp only [List.zip_cons_cons, List.cons_append, List.lookup_cons] at ht
  rw [List.lookup_append, List.lookup_cons]
  split at ht
  ·rename_i hh
   have : t = p := by simpa using hh
   subst this
   rw [zip_none hn.1]
   simpa using ht
  ·rename_i hh
   rw [List.lookup_append] at ht
   exact ht
 | _ :: _, [], _, _, _, h, _, _, _, _, _ => by simp at h
 | _ :: _, _ :: _, [], _, _, _, h, _, _, _, _ => by simp at h
theorem runY_ok (hE : FS P C) {L : Loop} (hL : ∀ f x r, L f x = some r → ∃ n, iterN n f x = some r) {args : List AV} {r : AV} {s' : Sto} (h : runY C L args s = some (r, s')) : RoundC P args s r s' := by
 unfold runY at h
 split at h
 case h_2 => cases h
 rename_i id rvs hrev
 split at h
 case h_2 => cases h
 rename_i ρ nt e ps as bd hl
 have hl0 := hl
 split at h
 case isFalse => cases h
 rename_i hps
 obtain ⟨hp1, hp2, hp3⟩ := hps
 split at h
 case h_2 => cases h
 rename_i e1 s1 hev1
 split at h
 case h_2 => cases h
 rename_i ρ1 nt1 f1 ps1 a1 b1 hl1
 split at h
 case h_2 => cases h
 rename_i x e2 s2 hev2
 split at h
 case h_2 => cases h
 rename_i ρ2 nt2 f2 ps2 a2 b2 hl2
 obtain ⟨s3, hg, he⟩ := map_some h
 simp only [Prod.mk.injEq] at he
 obtain ⟨rfl, rfl⟩ := he
 have hargs : args = rvs.reverse ++ [.yld id] := by
  have := congrArg List.reverse hrev
  simpa using this
 refine ⟨rvs.reverse, id, hargs, fun ro kk vals l γ w X hsz hrep hid hs hf => ?_⟩
 obtain ⟨bk, hb1, hb2⟩ := hs.blk id _ hid
 rw [hl] at hb1
 cases hb1
 obtain ⟨l', rc, hfr⟩ := hb2
 have e1l : l' = l := by have := hfr.hand; simp at this; exact this.symm
 subst e1l
 have hps' : rc.params.size = ps.length := by rw [← hfr.params]; simp
 have hvl : vals.size = rc.params.size := by rw [hsz, hps', List.length_reverse, hp1]
 refine ⟨rc.fn, _, rc.assign, rc.body, run_yield hfr.heap hvl, roundIn_of_wpIn (F := WR ro) trivial ?_⟩
 have hfold : (rc.params.zip vals).foldl (fun tmps (x : Nat × Value) => tmps.setIfInBounds x.1 x.2) rc.tmps = (ps.zip vals.toList).foldl (fun tmps x => tmps.setIfInBounds x.1 x.2) rc.tmps := by
  rw [← Array.foldl_toList, Array.toList_zip, hfr.params]
 obtain ⟨z1, z2⟩ := zip_set (γ := γ) (w := w) (X := X) ps rvs.reverse vals.toList rc.tmps e (by simpa using hp1.symm) (by simpa using hsz.symm) hp2 (fun t ht => by
  have := List.all_eq_true.1 hp3 t ht
  rw [hfr.size]; simpa using this) (fun i v c hv hc => hrep i v c (by simpa using hv) hc) hfr.env
 have hi0 : Inv P nt 0 γ w X (ps.zip rvs.reverse ++ e) s { tmps := (rc.params.zip vals).foldl (fun tmps (x : Nat × Value) => tmps.setIfInBounds x.1 x.2) rc.tmps, defers := [] } := by
  refine ⟨hs, hf, fun t av ht => ?_, ?_, trivial⟩
  ·obtain ⟨v, hv, hr⟩ := z2 t av ht
   exact ⟨v, by rw [hfold]; exact hv, hr⟩
  ·rw [hfold, z1]; exact hfr.size
 have hk0 : id ∈ s.map (·.1) := List.mem_map.2 ⟨(id, _), L4 hl, rfl⟩
 show rc.assign.wpIn (WR (some l')) _ P _ _ w
 refine Q2 hE hL as rc.assign _ s .nm e1 s1 γ w X _ _ hfr.assign hev1 hi0 ⟨fun l hl => ⟨id, hk0, ⟨_, hl0, rfl⟩, by simp only [Option.some.injEq] at hl; rw [← hl]; exact hid⟩, Nat.zero_le _⟩ fun a3 w3 ⟨γ3, X3, i3, v3, b3⟩ => ?_
 have hid3 : γ3 id = some (.func (.yield l') #[] #[]) := by rw [b3 id hk0 _ hl rfl]; exact hid
 obtain ⟨bk, hb1, hb2⟩ := i3.sto.blk id _ hid3
 rw [hl1] at hb1
 cases hb1
 obtain ⟨l'', rc3, hfr3⟩ := hb2
 have e2l : l'' = l' := by have := hfr3.hand; simp at this; exact this.symm
 subst e2l
 obtain ⟨g1, g2, g3⟩ := frm_upd (st' := .busy) (ls := .busy) (pd := rc3.pending) i3.sto i3.full hid3 hl1 hfr3.heap rfl
 refine ⟨_, run_beginRound hfr3.heap hfr3.st.1, ?_⟩
 have hi4 : Inv P nt 0 γ3 (w3.putObj l'' (.loop { rc3 with state := .busy })) X3 e1 (s1.put id (.frm ρ1 nt1 f1 ps1 a1 b1 .busy)) a3 :=
  ⟨g1, g2, i3.env.mono g3.cell fun _ _ h => h, i3.size, i3.defers.mono g3⟩
 show rc.body.wpIn (WR (some l'')) _ P _ _ _
 refine Q2 hE hL bd rc.body e1 _ x e2 s2 γ3 _ X3 a3 _ hfr.body hev2 hi4 ⟨fun l hl => ⟨id, hk0, ⟨_, by rw [Zd, if_pos rfl, hl1]; rfl, rfl⟩, by simp only [Option.some.injEq] at hl; rw [← hl]; exact hid3⟩, Nat.zero_le _⟩ fun a5 w5 ⟨γ5, X5, i5, v5, b5⟩ => ?_
 have hl1' : (s1.put id (.frm ρ1 nt1 f1 ps1 a1 b1 .busy)).lookup id = some (.frm ρ1 nt1 f1 ps1 a1 b1 .busy) := by rw [Zd, if_pos rfl, hl1]; rfl
 have hid5 : γ5 id = some (.func (.yield l'') #[] #[]) := by rw [b5 id hk0 _ hl1' rfl]; exact hid3
 obtain ⟨bk, hb1, hb2⟩ := i5.sto.blk id _ hid5
 rw [hl2] at hb1
 cases hb1
 obtain ⟨l3, rc5, hfr5⟩ := hb2
 have e3l : l3 = l'' := by have := hfr5.hand; simp at this; exact this.symm
 subst e3l
 have fin : ∀ (j : Option Code), j = x.code → ∃ v w', (Instr.endRound l3 j).run P w5 = .ok v w' ∧ ∃ v' γ' X', Left P γ w X s (.p (.bool (decide (x = .nm)))) s3 (.returned v) w' v' γ' X' := by
  intro j hj
  have hjn : j.isNone = decide (x = .nm) := by subst hj; cases x <;> rfl
  obtain ⟨q1, q2, q3⟩ := frm_upd (st' := if x = .nm then .ready else .done x) (ls := if j.isNone then .ready else .done) (pd := j) i5.sto i5.full hid5 hl2 hfr5.heap (by
   subst hj
   cases x <;> simp [FSt.ok, Ex.code])
  obtain ⟨γ6, y1, y2, y3, y4⟩ := gc_ok q1 q2 hg
  refine ⟨_, _, run_endRound j hfr5.heap, _, γ6, X5, rfl, ?_, y1, y2, ?_, fun i b hi hb => ?_, fun h => by cases h⟩
  ·rw [hjn]; exact .p (.bool _)
  ·exact v3.trans (g3.trans (v5.trans (q3.trans y3)))
  ·have him : i ∈ s.map (·.1) := List.mem_map.2 ⟨(i, b), L4 hi, rfl⟩
   have h3 := b3 i him b hi hb
   obtain ⟨b', hb', hbx'⟩ := Z9n hs hf i3.sto hi hb h3
   obtain ⟨b'', hb'', hbx''⟩ : ∃ b'', (s1.put id (.frm ρ1 nt1 f1 ps1 a1 b1 .busy)).lookup i = some b'' ∧ b''.isBox = true := by
    rw [Zd]
    by_cases hii : i = id
    ·subst hii; rw [if_pos rfl, hl1]; exact ⟨_, rfl, rfl⟩
    ·rw [if_neg hii]; exact ⟨b', hb', hbx'⟩
   rw [y4 i him, b5 i him b'' hb'' hbx'', h3]
 cases x with
 | nm => exact fin none rfl
 | ex i => exact fin (some (.exit i)) rfl
 | rt => exact fin (some .ret) rfl
end
open Go
theorem Zfx {f : Env × Sto → Option (Ex × Env × Sto)} {r : Ex × Env × Sto} : ∀ (n : Nat) (x : Env × Sto), iterN n f x = some r → iterN (n + 1) f x = some r
 | 0, x, h => by simp [iterN] at h
 | n + 1, x, h => by
  rw [iterN] at h ⊢
  split at h
  ·exact Zfx n _ h
  ·exact h
theorem iterN_le {f : Env × Sto → Option (Ex × Env × Sto)} {r : Ex × Env × Sto} {n m : Nat} {x : Env × Sto} (h : n ≤ m) (hn : iterN n f x = some r) : iterN m f x = some r := by
 induction h with
 | refl => exact hn
 | step _ ih => exact Zfx _ _ ih
theorem Nc {f : Env × Sto → Option (Ex × Env × Sto)} {x : Env × Sto} {r : Ex × Env × Sto} : iter f x = some r ↔ ∃ n, iterN n f x = some r := by
 unfold iter
 split
 ·rename_i h
  have hs := h.choose_spec.choose_spec
  constructor
  ·intro he
   rw [Option.some.inj he] at hs
   exact ⟨_, hs⟩
  ·intro ⟨m, hm⟩
   have h1 := iterN_le (Nat.le_max_left h.choose m) hs
   have h2 := iterN_le (Nat.le_max_right h.choose m) hm
   rw [h1] at h2
   exact h2
 ·rename_i h
  constructor
  ·intro he; cases he
  ·intro ⟨n, hn⟩; exact absurd ⟨n, r, hn⟩ h
theorem iter_eq (f : Env × Sto → Option (Ex × Env × Sto)) (x : Env × Sto) : iter f x = match f x with | some (.nm, y) => iter f y | r => r := by
 apply Option.ext
 intro r
 rw [Nc]
 constructor
 ·rintro ⟨n, hn⟩
  cases n with
  | zero => simp [iterN] at hn
  | succ n =>
   rw [iterN] at hn
   split at hn
   ·rename_i y hy; simp only [hy]; exact Nc.2 ⟨n, hn⟩
   ·rename_i hno
    split
    ·rename_i y hy; exact absurd hy (hno y)
    ·exact hn
 ·intro h
  split at h
  ·rename_i y hy
   obtain ⟨n, hn⟩ := Nc.1 h
   exact ⟨n + 1, by rw [iterN, hy]; exact hn⟩
  ·rename_i hno
   refine ⟨1, ?_⟩
   rw [iterN]
   split
   ·rename_i y hy; exact absurd hy (hno y)
   ·exact h
theorem Z19 {f g : Env × Sto → Option (Ex × Env × Sto)} (hfg : ∀ x r, f x = some r → g x = some r) {r : Ex × Env × Sto} : ∀ (n : Nat) (x : Env × Sto), iterN n f x = some r → iterN n g x = some r
 | 0, x, h => by simp [iterN] at h
 | n + 1, x, h => by
  rw [iterN] at h ⊢
  cases hf : f x with
  | none => rw [hf] at h; cases h
  | some y =>
   rw [hf] at h
   rw [hfg x y hf]
   obtain ⟨e, y⟩ := y
   cases e with
   | nm => exact Z19 hfg n y h
   | _ => exact h
theorem iter_mono {f g : Env × Sto → Option (Ex × Env × Sto)} (hfg : ∀ x r, f x = some r → g x = some r) {r : Ex × Env × Sto} {x : Env × Sto} (h : iter f x = some r) : iter g x = some r := by
 obtain ⟨n, hn⟩ := Nc.1 h
 exact Nc.2 ⟨n, Z19 hfg n x hn⟩
def Lim (C : Call) (D : Nat → Call) : Prop := ∀ π f args s r, C π f args s = some r → ∃ n, D n π f args s = some r
def Le (C D : Call) : Prop := ∀ π f args s r, C π f args s = some r → D π f args s = some r
theorem Le.lim {C D : Call} (h : Le C D) : Lim C fun _ => D := fun π f args s r hr => ⟨0, h π f args s r hr⟩
section
variable {C : Call} {D : Nat → Call} {π : Id} {e : Env} {s : Sto}
theorem evA_lim (h : Lim C D) {g : Bool} {d : Nat} {op : IOp} {r : AV × Sto} (hr : evA C π e s g d op = some r) : ∃ n, evA (D n) π e s g d op = some r := by
 cases op with
 | callV rd f args =>
  simp only [evA] at hr
  split at hr
  case h_2 => cases hr
  rename_i fv vs h1 h2
  split at hr
  case h_2 => cases hr
  rename_i k caps ps h3 h4
  split at hr
  case h_2 => cases hr
  rename_i r' n' hc
  obtain ⟨n, hn⟩ := h _ _ _ _ _ hc
  exact ⟨n, by simp only [evA, h1, h2, h3, h4, hn]; exact hr⟩
 | _ => exact ⟨0, hr⟩
theorem evA_same {C D : Call} {g : Bool} {d : Nat} {op : IOp} (h : op.isCall = false) : evA C π e s g d op = evA D π e s g d op := by
 cases op with
 | callV => simp [IOp.isCall] at h
 | _ => rfl
theorem evT_lim (h : Lim C D) {d : Nat} {op : IOp} {r : AV × Env × Sto} (hr : evT C π e s d op = some r) : ∃ n, evT (D n) π e s d op = some r := by
 cases op with
 | callV rd f args =>
  simp only [evT] at hr
  split at hr
  case h_2 => cases hr
  rename_i fv vs h1 h2
  split at hr
  ·cases hr
  rename_i hc0
  split at hr
  case h_2 => cases hr
  rename_i k caps s1 h3
  split at hr
  case h_2 => cases hr
  rename_i ps s2 h4
  split at hr
  case h_2 => cases hr
  rename_i r' n' hc
  obtain ⟨n, hn⟩ := h _ _ _ _ _ hc
  exact ⟨n, by simp only [evT, h1, h2, if_neg hc0, h3, h4, hn]; exact hr⟩
 | callB f args => simp [evT] at hr
 | callS f args =>
  simp only [evT] at hr
  split at hr
  case h_2 => cases hr
  rename_i fv vs h1 h2
  split at hr
  case h_2 => cases hr
  rename_i k caps h3
  split at hr
  case h_2 => cases hr
  rename_i r' n' hc
  obtain ⟨n, hn⟩ := h _ _ _ _ _ hc
  refine ⟨n, ?_⟩
  simp only [evT, h1, h2]
  split
  case h_2 hno => rw [h3] at hno; cases hno
  rename_i k' caps' h3'
  rw [h3] at h3'
  simp only [Option.some.injEq, Prod.mk.injEq] at h3'
  obtain ⟨rfl, rfl⟩ := h3'
  rw [hn]
  exact hr
 | slc str x lo hi sz => cases str <;> exact ⟨0, hr⟩
 | _ => exact ⟨0, hr⟩
theorem Z4t (h : Lim C D) {o : Ins} {r : Env × Sto} (hr : stepA C π o e s = some r) : ∃ n, stepA (D n) π o e s = some r := by
 unfold stepA at hr
 split at hr
 ·rename_i hg
  obtain ⟨y, hy, rfl⟩ := map_some hr
  obtain ⟨n, hn⟩ := evA_lim h hy
  refine ⟨n, ?_⟩
  unfold stepA
  simp only [hg, hn, Option.map_some]
 ·rename_i t want hg
  split at hr
  ·rename_i gb hgb
   split at hr
   ·rename_i hc
    refine ⟨0, ?_⟩
    unfold stepA
    simp only [hg]
    rw [hgb]
    simp only
    rw [if_pos hc]; exact hr
   ·rename_i hc
    by_cases hcall : o.op.isCall = true
    ·have : gb = true := by cases gb <;> simp_all
     subst this
     split at hr
     ·rename_i v hv
      obtain ⟨n, hn⟩ := evA_lim h hv
      refine ⟨n, ?_⟩
      unfold stepA
      simp only [hg]
      rw [hgb]
      simp only
      rw [if_neg hc, hn]; exact hr
     ·rename_i v news hne hv
      obtain ⟨n, hn⟩ := evA_lim h hv
      refine ⟨n, ?_⟩
      unfold stepA
      simp only [hg]
      rw [hgb]
      simp only
      rw [if_neg hc, hn]
      cases news with
      | nil => exact absurd rfl hne
      | cons => exact hr
     ·simp at hr
    ·refine ⟨0, ?_⟩
     unfold stepA
     simp only [hg]
     rw [hgb]
     simp only
     rw [if_neg hc, ← evA_same (C := C) (D := D 0) (by simpa using hcall)]; exact hr
  ·rename_i hgb
   refine ⟨0, ?_⟩
   unfold stepA
   simp only [hg]
   rw [hgb]
   exact hr
  ·cases hr
theorem Zg0 {C D : Call} {d : Nat} {op : IOp} {r : AV × Env × Sto} (hr : evT C π e s d op = some r) (h0 : evA C π e s true d op = none) : evA D π e s true d op = none := by
 cases op with
 | callV rd f args =>
  simp only [evT] at hr
  split at hr
  case h_2 => cases hr
  rename_i fv vs h1 h2
  split at hr
  ·cases hr
  rename_i hc0
  have h1' : evA.x' e true f = some fv := h1
  have h2' : args.mapM (evA.x' e true) = some vs := h2
  simp only [evA, h1', h2']
  split
  ·split
   ·simp only [Bool.or_eq_true, not_or, Bool.not_eq_true] at hc0
    rw [hc0.1, hc0.2]
    simp
   ·rfl
  ·rfl
 | _ => exact h0
theorem step_lim (h : Lim C D) {o : Ins} {r : Env × Sto} (hr : step C π o e s = some r) : ∃ n, step (D n) π o e s = some r := by
 unfold step at hr
 split at hr
 ·rename_i y hy
  obtain ⟨n, hn⟩ := Z4t h hy
  refine ⟨n, ?_⟩
  unfold step
  rw [hn]; exact hr
 ·rename_i hn
  split at hr
  ·rename_i hg
   obtain ⟨y, hy, rfl⟩ := map_some hr
   have h0 : evA C π e s true (o.d.getD 0) o.op = none := by
    unfold stepA at hn
    simpa only [hg, Option.map_eq_none_iff] using hn
   obtain ⟨n, hn'⟩ := evT_lim h hy
   have h1 : stepA (D n) π o e s = none := by
    unfold stepA
    simp only [hg, Zg0 hy h0, Option.map_none]
   refine ⟨n, ?_⟩
   unfold step
   rw [h1]
   simp only [hg, hn', Option.map_some]
  ·rename_i t want hg
   split at hr
   case h_2 => cases hr
   rename_i b hb
   by_cases hw : (b == want) = true
   ·simp only [hw, cond_true] at hr
    obtain ⟨y, hy, rfl⟩ := map_some hr
    have h0 : evA C π e s true (o.d.getD 0) o.op = none := by
     unfold stepA at hn
     simp only [hg, hb, hw] at hn
     simp only [Bool.true_eq_false, and_false, if_false] at hn
     split at hn
     ·cases hn
     ·cases hn
     ·assumption
    obtain ⟨n, hn'⟩ := evT_lim h hy
    have h1 : stepA (D n) π o e s = none := by
     unfold stepA
     simp only [hg, hb, hw, Bool.true_eq_false, and_false, if_false, Zg0 hy h0]
     rfl
    refine ⟨n, ?_⟩
    unfold step
    rw [h1]
    simp only [hg, hb, hw, cond_true, hn', Option.map_some]
   ·simp only [Bool.not_eq_true] at hw
    rw [hw] at hr
    cases hr
theorem H5 {C D : Call} (h : Le C D) {o : Ins} {r : Env × Sto} (hr : stepA C π o e s = some r) : stepA D π o e s = some r := (Z4t h.lim hr).choose_spec
theorem step_mono {C D : Call} (h : Le C D) {o : Ins} {r : Env × Sto} (hr : step C π o e s = some r) : step D π o e s = some r := (step_lim h.lim hr).choose_spec
theorem H2 {C D : Call} (h : Le C D) : ∀ (n : Nat) (l : List Ins) (e : Env) (s : Sto) (r : Env × Sto), steps C π n l e s = some r → steps D π n l e s = some r
 | _, [], e, s, r, hr => by simpa [steps] using hr
 | 0, o :: l, e, s, r, hr => by
  rw [steps] at hr ⊢
  split at hr
  case h_2 => cases hr
  rename_i e1 s1 h1
  rw [step_mono h h1]
  exact H2 h 0 l e1 s1 r hr
 | n + 1, o :: l, e, s, r, hr => by
  rw [steps] at hr ⊢
  split at hr
  case h_2 => cases hr
  rename_i e1 s1 h1
  rw [H5 h h1]
  exact H2 h n l e1 s1 r hr
def Chain (D : Nat → Call) : Prop := ∀ n, Le (D n) (D (n + 1))
theorem Chain.le (h : Chain D) {n m : Nat} (hnm : n ≤ m) : Le (D n) (D m) := by
 induction hnm with
 | refl => exact fun _ _ _ _ _ h => h
 | step _ ih => exact fun π f args s r hr => h _ π f args s r (ih π f args s r hr)
theorem Z8d (h : Lim C D) (hD : Chain D) : ∀ (n : Nat) (l : List Ins) (e : Env) (s : Sto) (r : Env × Sto), steps C π n l e s = some r → ∃ k, steps (D k) π n l e s = some r
 | _, [], e, s, r, hr => ⟨0, by simpa [steps] using hr⟩
 | 0, o :: l, e, s, r, hr => by
  rw [steps] at hr
  split at hr
  case h_2 => cases hr
  rename_i e1 s1 h1
  obtain ⟨k1, q1⟩ := step_lim h h1
  obtain ⟨k2, q2⟩ := Z8d h hD 0 l e1 s1 r hr
  exact ⟨max k1 k2, by rw [steps, step_mono (hD.le (Nat.le_max_left k1 k2)) q1]; exact H2 (hD.le (Nat.le_max_right k1 k2)) 0 l e1 s1 r q2⟩
 | n + 1, o :: l, e, s, r, hr => by
  rw [steps] at hr
  split at hr
  case h_2 => cases hr
  rename_i e1 s1 h1
  obtain ⟨k1, q1⟩ := Z4t h h1
  obtain ⟨k2, q2⟩ := Z8d h hD n l e1 s1 r hr
  exact ⟨max k1 k2, by rw [steps, H5 (hD.le (Nat.le_max_left k1 k2)) q1]; exact H2 (hD.le (Nat.le_max_right k1 k2)) n l e1 s1 r q2⟩
theorem callW_lim (h : Lim C D) {s0 : Sto} {p : List (Id × Blk)} {H : List Id} {o : Ins} {e : Env} {x : PV × Id × List (PV × PV) × List (PV × PV)} (hx : callW C π s0 p H o e = some x) : ∃ n, callW (D n) π s0 p H o e = some x := by
 unfold callW at hx
 split at hx
 case h_2 => cases hx
 rename_i d id h1 h2 h3
 split at hx
 case h_2 => cases hx
 rename_i l h4 h5
 split at hx
 case isFalse => cases hx
 rename_i h6
 split at hx
 case h_2 => cases hx
 rename_i h7
 obtain ⟨n, hn⟩ := evT_lim h h7
 refine ⟨n, ?_⟩
 unfold callW
 simp only [h1, h2, h3, h4, h5, h6, hn, if_true]
 exact hx
theorem Zgo {C D : Call} (h : Le C D) {s0 : Sto} {p : List (Id × Blk)} {H : List Id} {o : Ins} {e : Env} {x : PV × Id × List (PV × PV) × List (PV × PV)} (hx : callW C π s0 p H o e = some x) : callW D π s0 p H o e = some x := (callW_lim h.lim hx).choose_spec
theorem Wh {C D : Call} (h : Le C D) {s0 : Sto} {H : List Id} {lg : Bool} : ∀ (n k : Nat) (l : List Ins) (e : Env) (s : Sto) (p : List (Id × Blk)) (A : List Apx) (U : List (Nat × List AV)) (Cc : List (Nat × Id)) (r : HSt × List Ins), Yi C π s0 H lg k n l e s p A U Cc = some r → Yi D π s0 H lg k n l e s p A U Cc = some r
 | 0, k, l, e, s, p, A, U, Cc, r, hr => by simpa [Yi] using hr
 | n + 1, k, [], e, s, p, A, U, Cc, r, hr => by simpa [Yi] using hr
 | n + 1, k, o :: l, e, s, p, A, U, Cc, r, hr => by
  rw [Yi] at hr ⊢
  split at hr
  ·split at hr
   ·rename_i hc; rw [if_pos hc]; exact Wh h n _ l _ _ _ _ _ _ r hr
   ·cases hr
  ·split at hr
   ·split at hr
    ·rename_i hc; rw [if_pos hc]; exact Wh h n _ l _ _ _ _ _ _ r hr
    ·cases hr
   ·split at hr
    ·exact Wh h n _ l _ _ _ _ _ _ r hr
    split at hr
    ·split at hr
     ·rename_i hcs _ x hx
      rw [if_pos hcs, Zgo h hx]
      exact Wh h n _ l _ _ _ _ _ _ r hr
     ·cases hr
    rename_i hcs
    rw [if_neg hcs]
    split at hr
    ·rename_i y hy
     rw [H5 h hy]
     simp only
     split at hr
     ·rename_i hl
      rw [if_pos hl]
      split at hr
      ·rename_i hc; rw [if_pos hc]; exact Wh h n _ l _ _ _ _ _ _ r hr
      ·cases hr
     ·rename_i hl; rw [if_neg hl]; exact Wh h n _ l _ _ _ _ _ _ r hr
    ·cases hr
theorem H3 (h : Lim C D) (hD : Chain D) {s0 : Sto} {H : List Id} {lg : Bool} : ∀ (n k : Nat) (l : List Ins) (e : Env) (s : Sto) (p : List (Id × Blk)) (A : List Apx) (U : List (Nat × List AV)) (Cc : List (Nat × Id)) (r : HSt × List Ins), Yi C π s0 H lg k n l e s p A U Cc = some r → ∃ m, Yi (D m) π s0 H lg k n l e s p A U Cc = some r
 | 0, k, l, e, s, p, A, U, Cc, r, hr => ⟨0, by simpa [Yi] using hr⟩
 | n + 1, k, [], e, s, p, A, U, Cc, r, hr => ⟨0, by simpa [Yi] using hr⟩
 | n + 1, k, o :: l, e, s, p, A, U, Cc, r, hr => by
  rw [Yi] at hr
  split at hr
  ·rename_i x hx
   split at hr
   ·rename_i hc
    obtain ⟨m, hm⟩ := H3 h hD n _ l _ _ _ _ _ _ r hr
    exact ⟨m, by rw [Yi, hx]; simp only [hc, if_true]; exact hm⟩
   ·cases hr
  ·rename_i hx
   split at hr
   ·rename_i x hy
    split at hr
    ·rename_i hc
     obtain ⟨m, hm⟩ := H3 h hD n _ l _ _ _ _ _ _ r hr
     exact ⟨m, by rw [Yi, hx, hy]; simp only [hc, if_true]; exact hm⟩
    ·cases hr
   ·rename_i hy
    split at hr
    ·rename_i z hld
     obtain ⟨m, hm⟩ := H3 h hD n _ l _ _ _ _ _ _ r hr
     exact ⟨m, by rw [Yi, hx, hy, hld]; exact hm⟩
    rename_i hld
    split at hr
    ·rename_i hcs
     split at hr
     ·rename_i x hx2
      obtain ⟨k1, q1⟩ := callW_lim h hx2
      obtain ⟨k2, q2⟩ := H3 h hD n _ l _ _ _ _ _ _ r hr
      exact ⟨max k1 k2, by rw [Yi, hx, hy, hld]; simp only; rw [if_pos hcs, Zgo (hD.le (Nat.le_max_left k1 k2)) q1]; exact Wh (hD.le (Nat.le_max_right k1 k2)) n _ l _ _ _ _ _ _ r q2⟩
     ·cases hr
    rename_i hcs
    split at hr
    ·rename_i y hz
     obtain ⟨k1, q1⟩ := Z4t h hz
     split at hr
     ·rename_i hl
      split at hr
      ·rename_i hc
       obtain ⟨k2, q2⟩ := H3 h hD n _ l _ _ _ _ _ _ r hr
       exact ⟨max k1 k2, by rw [Yi, hx, hy, hld]; simp only; rw [if_neg hcs, H5 (hD.le (Nat.le_max_left k1 k2)) q1]; simp only [hl, hc, if_true]; exact Wh (hD.le (Nat.le_max_right k1 k2)) n _ l _ _ _ _ _ _ r (by simpa only [hl] using q2)⟩
      ·cases hr
     ·rename_i hl
      obtain ⟨k2, q2⟩ := H3 h hD n _ l _ _ _ _ _ _ r hr
      exact ⟨max k1 k2, by rw [Yi, hx, hy, hld]; simp only; rw [if_neg hcs, H5 (hD.le (Nat.le_max_left k1 k2)) q1]; simp only; rw [if_neg hl]; exact Wh (hD.le (Nat.le_max_right k1 k2)) n _ l _ _ _ _ _ _ r q2⟩
    ·cases hr
theorem Z02 {C D : Call} (h : Le C D) : ∀ (n : Nat) (l : List Ins) (e : Env) (s : Sto) (acc r : List Id), hidA C π n l e s acc = some r → hidA D π n l e s acc = some r
 | 0, l, e, s, acc, r, hr => by simpa [hidA] using hr
 | n + 1, [], e, s, acc, r, hr => by simpa [hidA] using hr
 | n + 1, o :: l, e, s, acc, r, hr => by
  unfold hidA at hr ⊢
  split at hr
  ·split at hr
   ·exact Z02 h n l _ _ _ r hr
   ·cases hr
  ·exact Z02 h n l _ _ _ r hr
  ·split at hr
   ·exact Z02 h n l _ _ _ r hr
   ·cases hr
  ·split at hr
   ·rename_i y hy; rw [H5 h hy]; exact Z02 h n l _ _ _ r hr
   ·cases hr
theorem Z8z (h : Lim C D) (hD : Chain D) : ∀ (n : Nat) (l : List Ins) (e : Env) (s : Sto) (acc r : List Id), hidA C π n l e s acc = some r → ∃ k, hidA (D k) π n l e s acc = some r
 | 0, l, e, s, acc, r, hr => ⟨0, by simpa [hidA] using hr⟩
 | n + 1, [], e, s, acc, r, hr => ⟨0, by simpa [hidA] using hr⟩
 | n + 1, o :: l, e, s, acc, r, hr => by
  unfold hidA at hr
  split at hr
  ·rename_i hop
   split at hr
   ·rename_i hx
    obtain ⟨k, hk⟩ := Z8z h hD n l _ _ _ r hr
    exact ⟨k, by unfold hidA; rw [hop]; simp only [hx]; exact hk⟩
   ·cases hr
  ·rename_i hop
   obtain ⟨k, hk⟩ := Z8z h hD n l _ _ _ r hr
   exact ⟨k, by unfold hidA; rw [hop]; exact hk⟩
  ·rename_i hop
   split at hr
   ·rename_i hg hx
    obtain ⟨k, hk⟩ := Z8z h hD n l _ _ _ r hr
    exact ⟨k, by unfold hidA; rw [hop]; simp only [hg, hx]; exact hk⟩
   ·cases hr
  ·rename_i hn1 hn0 hn2
   split at hr
   ·rename_i y hy
    obtain ⟨k1, q1⟩ := Z4t h hy
    obtain ⟨k2, q2⟩ := Z8z h hD n l _ _ _ r hr
    refine ⟨max k1 k2, ?_⟩
    unfold hidA
    split
    ·rename_i hop; exact absurd hop (hn1 _ _ _ _ _)
    ·rename_i hop; exact absurd hop (hn0 _ _)
    ·rename_i hop; exact absurd hop (hn2 _ _ _)
    ·rw [H5 (hD.le (Nat.le_max_left k1 k2)) q1]
     exact Z02 (hD.le (Nat.le_max_right k1 k2)) n l _ _ _ r q2
   ·cases hr
theorem Zdi {C D : Call} (h : Le C D) {n : Nat} {l : List Ins} {r : Env × Sto} {lg : Bool} {H : List Id} (hr : evRH C π n l e s lg H = some r) : evRH D π n l e s lg H = some r := by
 unfold evRH at hr ⊢
 split at hr
 ·rename_i hh r' hH
  rw [Wh h _ _ _ _ _ _ _ _ _ _ hH]
  split at hr
  ·rename_i hc
   simp only [hc, if_true]
   exact H2 h 0 r' _ _ r hr
  ·cases hr
 ·cases hr
theorem evRH_lim (h : Lim C D) (hD : Chain D) {n : Nat} {l : List Ins} {r : Env × Sto} {lg : Bool} {H : List Id} (hr : evRH C π n l e s lg H = some r) : ∃ k, evRH (D k) π n l e s lg H = some r := by
 unfold evRH at hr
 split at hr
 ·rename_i hh r' hH
  split at hr
  ·rename_i hc
   obtain ⟨k1, q1⟩ := H3 h hD _ _ _ _ _ _ _ _ _ _ hH
   obtain ⟨k2, q2⟩ := Z8d h hD 0 r' _ _ r hr
   refine ⟨max k1 k2, ?_⟩
   unfold evRH
   rw [Wh (hD.le (Nat.le_max_left k1 k2)) _ _ _ _ _ _ _ _ _ _ q1]
   simp only [hc, if_true]
   exact H2 (hD.le (Nat.le_max_right k1 k2)) 0 r' _ _ r q2
  ·cases hr
 ·cases hr
theorem evR_mono {C D : Call} (h : Le C D) {n : Nat} {l : List Ins} {r : Env × Sto} (hr : evR C π n l e s = some r) : evR D π n l e s = some r := by
 unfold evR at hr ⊢
 split at hr
 ·exact H2 h n l e s r hr
 ·exact Zdi h hr
 ·split at hr
  ·rename_i H hH
   rw [Z02 h _ _ _ _ _ _ hH]
   exact Zdi h hr
  ·cases hr
theorem evR_lim (h : Lim C D) (hD : Chain D) {n : Nat} {l : List Ins} {r : Env × Sto} (hr : evR C π n l e s = some r) : ∃ k, evR (D k) π n l e s = some r := by
 unfold evR at hr
 split at hr
 ·rename_i hH
  obtain ⟨k, hk⟩ := Z8d h hD n l e s r hr
  exact ⟨k, by unfold evR; rw [hH]; exact hk⟩
 ·rename_i H hne hH
  obtain ⟨k, hk⟩ := evRH_lim h hD hr
  refine ⟨k, ?_⟩
  unfold evR
  rw [hH]
  split
  ·rename_i h0; exact absurd (Option.some.inj h0) hne
  ·rename_i h0; cases h0; exact hk
  ·rename_i h0; cases h0
 ·rename_i hH
  split at hr
  ·rename_i H hA
   obtain ⟨k1, q1⟩ := Z8z h hD _ _ _ _ _ _ hA
   obtain ⟨k2, q2⟩ := evRH_lim h hD hr
   refine ⟨max k1 k2, ?_⟩
   unfold evR
   rw [hH]
   simp only
   rw [Z02 (hD.le (Nat.le_max_left k1 k2)) _ _ _ _ _ _ q1]
   exact Zdi (hD.le (Nat.le_max_right k1 k2)) q2
  ·cases hr
theorem Xw {C D : Call} (h : Le C D) {k0 : List Id} : ∀ (ir : IR) (e : Env) (s : Sto) (r : Ex × Env × Sto), evC C iter π k0 ir e s = some r → evC D iter π k0 ir e s = some r
 | .sk, _, _, _, hr => hr
 | .ex _, _, _, _, hr => hr
 | .rt, _, _, _, hr => hr
 | .bad, _, _, _, hr => by simp [evC] at hr
 | .sq a b, e, s, r, hr => by
  rw [evC] at hr ⊢
  cases ha : evC C iter π k0 a e s with
  | none => rw [ha] at hr; cases hr
  | some y =>
   rw [ha] at hr
   rw [Xw h a e s y ha]
   obtain ⟨x, e1, s1⟩ := y
   cases x with
   | nm => exact Xw h b e1 s1 r hr
   | _ => exact hr
 | .cd c a b, e, s, r, hr => by
  rw [evC] at hr ⊢
  split at hr
  case h_2 => cases hr
  rename_i q hq
  cases q with
  | true => exact Xw h a e s r hr
  | false => exact Xw h b e s r hr
 | .bk id a, e, s, r, hr => by
  rw [evC] at hr ⊢
  cases ha : evC C iter π k0 a e s with
  | none => rw [ha] at hr; cases hr
  | some y =>
   rw [ha] at hr
   rw [Xw h a e s y ha]
   exact hr
 | .lp th live a, e, s, r, hr => by
  rw [evC] at hr ⊢
  split at hr
  case h_2 => cases hr
  rename_i x hx
  refine iter_mono (fun x r hx => ?_) hr
  split at hx
  case h_2 => cases hx
  rename_i y hy
  exact Xw h a _ _ r hx
 | .op n l keep, e, s, r, hr => by
  rw [evC] at hr ⊢
  split at hr
  case h_2 => cases hr
  rename_i e1 s1 h1
  rw [evR_mono h h1]
  exact hr
 | .rf g nt site lv ps a b, e, s, r, hr => by
  rw [evC] at hr ⊢
  split at hr
  ·cases hr
  rename_i h1
  rw [if_neg h1]
  split at hr
  case h_2 => cases hr
  rename_i k caps h2
  split at hr
  ·cases hr
  rename_i h3
  split at hr
  case h_2 => cases hr
  rename_i q s1 h4
  simp only [h3, if_false, h _ _ _ _ _ h4]
  exact hr
 | .fz ts a, e, s, r, hr => by
  rw [evC] at hr ⊢
  exact Xw h a _ _ r hr
 | .fk ts a, e, s, r, hr => by
  rw [evC] at hr ⊢
  exact Xw h a _ _ r hr
 | .tw th a, e, s, r, hr => by
  rw [evC] at hr ⊢
  cases ht : thaw π th (e, s) with
  | none => rw [ht] at hr; cases hr
  | some y =>
   rw [ht] at hr
   exact Xw h a _ _ r hr
 | .fe ts a, e, s, r, hr => by
  rw [evC] at hr ⊢
  cases ha : evC C iter π k0 a e s with
  | none => rw [ha] at hr; cases hr
  | some y =>
   rw [ha] at hr
   rw [Xw h a e s y ha]
   exact hr
 | .kp k kr a, e, s, r, hr => by
  rw [evC] at hr ⊢
  cases ha : evC C iter π k0 a e s with
  | none => rw [ha] at hr; cases hr
  | some y =>
   rw [ha] at hr
   rw [Xw h a e s y ha]
   exact hr
theorem Lr (h : Lim C D) (hD : Chain D) {k0 : List Id} : ∀ (ir : IR) (e : Env) (s : Sto) (r : Ex × Env × Sto), evC C iter π k0 ir e s = some r → ∃ n, evC (D n) iter π k0 ir e s = some r
 | .sk, _, _, _, hr => ⟨0, hr⟩
 | .ex _, _, _, _, hr => ⟨0, hr⟩
 | .rt, _, _, _, hr => ⟨0, hr⟩
 | .bad, _, _, _, hr => by simp [evC] at hr
 | .sq a b, e, s, r, hr => by
  rw [evC] at hr
  cases ha : evC C iter π k0 a e s with
  | none => rw [ha] at hr; cases hr
  | some y =>
   rw [ha] at hr
   obtain ⟨n1, q1⟩ := Lr h hD a e s y ha
   obtain ⟨x, e1, s1⟩ := y
   cases x with
   | nm =>
    obtain ⟨n2, q2⟩ := Lr h hD b e1 s1 r hr
    exact ⟨max n1 n2, by rw [evC, Xw (hD.le (Nat.le_max_left n1 n2)) a e s _ q1]; exact Xw (hD.le (Nat.le_max_right n1 n2)) b e1 s1 r q2⟩
   | _ => exact ⟨n1, by rw [evC, q1]; exact hr⟩
 | .cd c a b, e, s, r, hr => by
  rw [evC] at hr
  split at hr
  case h_2 => cases hr
  rename_i q hq
  cases q with
  | true => obtain ⟨n, hn⟩ := Lr h hD a e s r hr; exact ⟨n, by rw [evC, hq]; exact hn⟩
  | false => obtain ⟨n, hn⟩ := Lr h hD b e s r hr; exact ⟨n, by rw [evC, hq]; exact hn⟩
 | .bk id a, e, s, r, hr => by
  rw [evC] at hr
  cases ha : evC C iter π k0 a e s with
  | none => rw [ha] at hr; cases hr
  | some y =>
   rw [ha] at hr
   obtain ⟨n, hn⟩ := Lr h hD a e s y ha
   exact ⟨n, by rw [evC, hn]; exact hr⟩
 | .lp th live a, e, s, r, hr => by
  rw [evC] at hr
  split at hr
  case h_2 => cases hr
  rename_i x hx
  obtain ⟨m, hm⟩ := Nc.1 hr
  have key : ∀ (m : Nat) (x : Env × Sto), iterN m (fun x => match mask live k0 x with | some x => evC C iter π k0 a x.1 x.2 | none => none) x = some r →
    ∃ n, iterN m (fun x => match mask live k0 x with | some x => evC (D n) iter π k0 a x.1 x.2 | none => none) x = some r := by
   intro m
   induction m with
   | zero => intro x hx; simp [iterN] at hx
   | succ m ih =>
    intro x hx
    rw [iterN] at hx
    cases hmk : mask live k0 x with
    | none => rw [hmk] at hx; simp at hx
    | some y =>
     rw [hmk] at hx
     simp only at hx
     cases hc : evC C iter π k0 a y.1 y.2 with
     | none => rw [hc] at hx; simp at hx
     | some z =>
      obtain ⟨n1, q1⟩ := Lr h hD a _ _ z hc
      obtain ⟨ex, z⟩ := z
      rw [hc] at hx
      cases ex with
      | nm =>
       obtain ⟨n2, q2⟩ := ih z hx
       refine ⟨max n1 n2, ?_⟩
       rw [iterN, hmk]
       simp only
       rw [Xw (hD.le (Nat.le_max_left n1 n2)) a _ _ _ q1]
       refine Z19 (fun x r hx => ?_) m z q2
       split at hx
       case h_2 => cases hx
       exact Xw (hD.le (Nat.le_max_right n1 n2)) a _ _ r hx
      | _ => exact ⟨n1, by rw [iterN, hmk]; simp only; rw [q1]; exact hx⟩
  obtain ⟨n, hn⟩ := key m x hm
  exact ⟨n, by rw [evC, hx]; exact Nc.2 ⟨m, hn⟩⟩
 | .op n l keep, e, s, r, hr => by
  rw [evC] at hr
  split at hr
  case h_2 => cases hr
  rename_i e1 s1 h1
  obtain ⟨k, hk⟩ := evR_lim h hD h1
  exact ⟨k, by rw [evC, hk]; exact hr⟩
 | .rf g nt site lv ps a b, e, s, r, hr => by
  rw [evC] at hr
  split at hr
  ·cases hr
  rename_i h1
  split at hr
  case h_2 => cases hr
  rename_i k caps h2
  split at hr
  ·cases hr
  rename_i h3
  split at hr
  case h_2 => cases hr
  rename_i q s1 h4
  obtain ⟨n, hn⟩ := h _ _ _ _ _ h4
  exact ⟨n, by rw [evC, if_neg h1, h2]; simp only [h3, if_false, hn]; exact hr⟩
 | .fz ts a, e, s, r, hr => by
  rw [evC] at hr
  obtain ⟨n, hn⟩ := Lr h hD a _ _ r hr
  exact ⟨n, by rw [evC]; exact hn⟩
 | .fk ts a, e, s, r, hr => by
  rw [evC] at hr
  obtain ⟨n, hn⟩ := Lr h hD a _ _ r hr
  exact ⟨n, by rw [evC]; exact hn⟩
 | .tw th a, e, s, r, hr => by
  rw [evC] at hr
  cases ht : thaw π th (e, s) with
  | none => rw [ht] at hr; cases hr
  | some y =>
   rw [ht] at hr
   obtain ⟨n, hn⟩ := Lr h hD a _ _ r hr
   exact ⟨n, by rw [evC, ht]; exact hn⟩
 | .fe ts a, e, s, r, hr => by
  rw [evC] at hr
  cases ha : evC C iter π k0 a e s with
  | none => rw [ha] at hr; cases hr
  | some y =>
   rw [ha] at hr
   obtain ⟨n, hn⟩ := Lr h hD a e s y ha
   exact ⟨n, by rw [evC, hn]; exact hr⟩
 | .kp k kr a, e, s, r, hr => by
  rw [evC] at hr
  cases ha : evC C iter π k0 a e s with
  | none => rw [ha] at hr; cases hr
  | some y =>
   rw [ha] at hr
   obtain ⟨n, hn⟩ := Lr h hD a e s y ha
   exact ⟨n, by rw [evC, hn]; exact hr⟩
theorem Z8g {C D : Call} (h : Le C D) {F : FnIR} {args : List AV} {r : AV × Sto} (hr : runF C iter F π args s = some r) : runF D iter F π args s = some r := by
 unfold runF at hr ⊢
 split at hr
 case isFalse => cases hr
 rename_i hle
 rw [if_pos hle]
 cases hv : evC C iter π (s.map (·.1)) F.body (envOf 0 args) s with
 | none => rw [hv] at hr; cases hr
 | some y =>
  rw [hv] at hr
  rw [Xw h _ _ _ _ hv]
  exact hr
theorem runF_lim (h : Lim C D) (hD : Chain D) {F : FnIR} {args : List AV} {r : AV × Sto} (hr : runF C iter F π args s = some r) : ∃ n, runF (D n) iter F π args s = some r := by
 unfold runF at hr
 split at hr
 case isFalse => cases hr
 rename_i hle
 cases hv : evC C iter π (s.map (·.1)) F.body (envOf 0 args) s with
 | none => rw [hv] at hr; cases hr
 | some y =>
  rw [hv] at hr
  obtain ⟨n, hn⟩ := Lr h hD _ _ _ _ hv
  refine ⟨n, ?_⟩
  unfold runF
  rw [if_pos hle, hn]
  exact hr
theorem Z8f {C D : Call} (h : Le C D) {args : List AV} {r : AV × Sto} (hr : runY C iter args s = some r) : runY D iter args s = some r := by
 unfold runY at hr ⊢
 split at hr
 case h_2 => cases hr
 split at hr
 case h_2 => cases hr
 split at hr
 case isFalse => cases hr
 rename_i hc
 rw [if_pos hc]
 split at hr
 case h_2 => cases hr
 rename_i e1 s1 h1
 rw [Xw h _ _ _ _ h1]
 simp only
 split at hr
 case h_2 => cases hr
 split at hr
 case h_2 => cases hr
 rename_i x e2 s2 h2
 rw [Xw h _ _ _ _ h2]
 exact hr
theorem runY_lim (h : Lim C D) (hD : Chain D) {args : List AV} {r : AV × Sto} (hr : runY C iter args s = some r) : ∃ n, runY (D n) iter args s = some r := by
 unfold runY at hr
 split at hr
 case h_2 => cases hr
 rename_i id rvs h0
 split at hr
 case h_2 => cases hr
 rename_i hl
 split at hr
 case isFalse => cases hr
 rename_i hc
 split at hr
 case h_2 => cases hr
 rename_i e1 s1 h1
 split at hr
 case h_2 => cases hr
 rename_i hl1
 split at hr
 case h_2 => cases hr
 rename_i x e2 s2 h2
 obtain ⟨n1, q1⟩ := Lr h hD _ _ _ _ h1
 obtain ⟨n2, q2⟩ := Lr h hD _ _ _ _ h2
 refine ⟨max n1 n2, ?_⟩
 unfold runY
 rw [h0]
 simp only
 rw [hl]
 simp only
 rw [if_pos hc, Xw (hD.le (Nat.le_max_left n1 n2)) _ _ _ _ q1]
 simp only
 rw [hl1]
 simp only
 rw [Xw (hD.le (Nat.le_max_right n1 n2)) _ _ _ _ q2]
 exact hr
end
noncomputable def bodyE (T : Tab) (O : Orc) (C : Call) : Call := fun π f args s => if f = Z2 then runY C iter args s else match O f with
 | some g => g π args s
 | none => match T f with
  | some F => runF C iter F π args s
  | none => none
noncomputable def EN (T : Tab) (O : Orc) : Nat → Call
 | 0 => fun _ _ _ _ => none
 | m + 1 => bodyE T O (EN T O m)
theorem bodyE_mono {T : Tab} {O : Orc} {C D : Call} (h : Le C D) : Le (bodyE T O C) (bodyE T O D) := fun π f args s r hr => by
 unfold bodyE at hr ⊢
 by_cases hy : f = Z2
 ·rw [if_pos hy] at hr ⊢
  exact Z8f h hr
 ·rw [if_neg hy] at hr ⊢
  cases hO : O f with
  | some g => rw [hO] at hr; exact hr
  | none =>
   rw [hO] at hr
   cases hT : T f with
   | some F => rw [hT] at hr; exact Z8g h hr
   | none => rw [hT] at hr; cases hr
open Classical in
noncomputable def E (T : Tab) (O : Orc) : Call := fun π f args s => if h : ∃ n r, EN T O n π f args s = some r then some h.choose_spec.choose else none
theorem Z9s (T : Tab) (O : Orc) : Chain (EN T O)
 | 0 => fun π f args s r h => by simp [EN] at h
 | m + 1 => bodyE_mono (Z9s T O m)
theorem Z9r {T : Tab} {O : Orc} {π : Id} {f : Nat} {args : List AV} {s : Sto} {r : AV × Sto} : E T O π f args s = some r ↔ ∃ n, EN T O n π f args s = some r := by
 unfold E
 split
 ·rename_i h
  have hs := h.choose_spec.choose_spec
  constructor
  ·intro he
   rw [Option.some.inj he] at hs
   exact ⟨_, hs⟩
  ·intro ⟨m, hm⟩
   have h1 := (Z9s T O).le (Nat.le_max_left h.choose m) _ _ _ _ _ hs
   have h2 := (Z9s T O).le (Nat.le_max_right h.choose m) _ _ _ _ _ hm
   rw [h1] at h2
   exact h2
 ·rename_i h
  constructor
  ·intro he; cases he
  ·intro ⟨n, hn⟩; exact absurd ⟨n, r, hn⟩ h
theorem E_fn {T : Tab} {O : Orc} {π : Id} {f : Nat} {args : List AV} {s : Sto} {F : FnIR} (hy : f ≠ Z2) (hO : O f = none) (hT : T f = some F) : E T O π f args s = runF (E T O) iter F π args s := by
 apply Option.ext
 intro r
 rw [Z9r]
 constructor
 ·rintro ⟨n, hn⟩
  cases n with
  | zero => simp [EN] at hn
  | succ n =>
   simp only [EN, bodyE, if_neg hy, hO, hT] at hn
   exact Z8g (fun π f args s r h => Z9r.2 ⟨n, h⟩) hn
 ·intro h
  obtain ⟨n, hn⟩ := runF_lim (D := EN T O) (fun π f args s r h => Z9r.1 h) (Z9s T O) h
  exact ⟨n + 1, by simp only [EN, bodyE, if_neg hy, hO, hT]; exact hn⟩
theorem E_yld {T : Tab} {O : Orc} {π : Id} {args : List AV} {s : Sto} : E T O π Z2 args s = runY (E T O) iter args s := by
 apply Option.ext
 intro r
 rw [Z9r]
 constructor
 ·rintro ⟨n, hn⟩
  cases n with
  | zero => simp [EN] at hn
  | succ n =>
   simp only [EN, bodyE, if_true] at hn
   exact Z8f (fun π f args s r h => Z9r.2 ⟨n, h⟩) hn
 ·intro h
  obtain ⟨n, hn⟩ := runY_lim (D := EN T O) (fun π f args s r h => Z9r.1 h) (Z9s T O) h
  exact ⟨n + 1, by simp only [EN, bodyE, if_true]; exact hn⟩
theorem E_orc {T : Tab} {O : Orc} {π : Id} {f : Nat} {args : List AV} {s : Sto} {g : Id → List AV → Sto → Option (AV × Sto)} (hy : f ≠ Z2) (hO : O f = some g) : E T O π f args s = g π args s := by
 apply Option.ext
 intro r
 rw [Z9r]
 constructor
 ·rintro ⟨n, hn⟩
  cases n with
  | zero => simp [EN] at hn
  | succ n => simp only [EN, bodyE, if_neg hy, hO] at hn; exact hn
 ·intro h; exact ⟨1, by simp only [EN, bodyE, if_neg hy, hO]; exact h⟩
theorem EN_ok {P : Program} {T : Tab} {O : Orc} (hT : TabOk P T) (hO : OrcOk P O) : ∀ m, FS P (EN T O m)
 | 0 => fun π f args s r s' h => by simp [EN] at h
 | m + 1 => fun π f args s r s' h => by
  simp only [EN, bodyE] at h
  split at h
  ·rename_i hy
   exact .inl ⟨hy, runY_ok (EN_ok hT hO m) (fun f x r h => Nc.1 h) h⟩
  rename_i hy
  split at h
  ·rename_i g hg
   exact .inr ⟨hy, hO f g hg π args s r s' h⟩
  ·split at h
   ·rename_i F hF
    obtain ⟨fn, hf, hm⟩ := hT f F hF
    exact .inr ⟨hy, runF_ok (EN_ok hT hO m) (fun f x r h => Nc.1 h) hf hm h⟩
   ·cases h
theorem E_ok {P : Program} {T : Tab} {O : Orc} (hT : TabOk P T) (hO : OrcOk P O) : FS P (E T O) := fun π f args s r s' h =>
 let ⟨n, hn⟩ := Z9r.1 h
 EN_ok hT hO n π f args s r s' hn
open Go (IntKind BinOp UnOp)
@[simp] theorem cons_beq_self (a : Nat) (l : Id) : (a :: l == l) = false := by
 rw [beq_eq_false_iff_ne]; intro h; have := congrArg List.length h; simp only [List.length_cons] at this; omega
@[simp] theorem self_beq_cons (a : Nat) (l : Id) : (l == a :: l) = false := by
 rw [beq_eq_false_iff_ne]; intro h; have := congrArg List.length h; simp only [List.length_cons] at this; omega
@[simp] theorem cons2_beq_self (a b : Nat) (l : Id) : (a :: b :: l == l) = false := by
 rw [beq_eq_false_iff_ne]; intro h; have := congrArg List.length h; simp only [List.length_cons] at this; omega
@[simp] theorem self_beq_cons2 (a b : Nat) (l : Id) : (l == a :: b :: l) = false := by
 rw [beq_eq_false_iff_ne]; intro h; have := congrArg List.length h; simp only [List.length_cons] at this; omega
theorem L6 {n : Int} (h1 : -9223372036854775808 ≤ n) (h2 : n ≤ 9223372036854775807) : IntKind.i64.wrap n = n := by
 exact Go.IntWalk.i64_in n ⟨h1, h2⟩
section
variable {C : Call} {L : Loop} {π : Id} {k0 : List Id} {e : Env} {s : Sto} {d : Option Nat} {op : IOp} {o : Ins} {l r : List Ins} {n : Nat}
def sqO (C : Call) (L : Loop) (π : Id) (k0 : List Id) (b : IR) : Option (Ex × Env × Sto) → Option (Ex × Env × Sto)
 | some (.nm, e, s) => evC C L π k0 b e s
 | x => x
@[simp] theorem sqO_nm (b : IR) : sqO C L π k0 b (some (.nm, e, s)) = evC C L π k0 b e s := rfl
@[simp] theorem sqO_rt (b : IR) : sqO C L π k0 b (some (.rt, e, s)) = some (.rt, e, s) := rfl
@[simp] theorem sqO_ex (b : IR) (i : Nat) : sqO C L π k0 b (some (.ex i, e, s)) = some (.ex i, e, s) := rfl
@[simp] theorem evC_sq (a b : IR) : evC C L π k0 (.sq a b) e s = sqO C L π k0 b (evC C L π k0 a e s) := by
 rw [evC]
 cases evC C L π k0 a e s with
 | none => rfl
 | some y => obtain ⟨x, y⟩ := y; cases x <;> rfl
@[simp] theorem evC_sk : evC C L π k0 .sk e s = some (.nm, e, s) := rfl
@[simp] theorem evC_rt : evC C L π k0 .rt e s = some (.rt, e, s) := rfl
@[simp] theorem evC_ex (i : Nat) : evC C L π k0 (.ex i) e s = some (.ex i, e, s) := rfl
def cdO (C : Call) (L : Loop) (π : Id) (k0 : List Id) (a b : IR) (e : Env) (s : Sto) : Option AV → Option (Ex × Env × Sto)
 | some (.p (.bool c)) => bif c then evC C L π k0 a e s else evC C L π k0 b e s
 | _ => none
@[simp] theorem cdO_true (a b : IR) : cdO C L π k0 a b e s (some (.p (.bool true))) = evC C L π k0 a e s := rfl
@[simp] theorem cdO_false (a b : IR) : cdO C L π k0 a b e s (some (.p (.bool false))) = evC C L π k0 b e s := rfl
@[simp] theorem evC_cd (c : Opd) (a b : IR) : evC C L π k0 (.cd c a b) e s = cdO C L π k0 a b e s (c.get e) := by
 rw [evC]
 rfl
def bkO (id : Nat) : Option (Ex × Env × Sto) → Option (Ex × Env × Sto)
 | some (.ex i, e, s) => if i = id then some (.nm, e, s) else some (.ex i, e, s)
 | r => r
@[simp] theorem bkO_nm (i : Nat) : bkO i (some (.nm, e, s)) = some (.nm, e, s) := rfl
@[simp] theorem bkO_rt (i : Nat) : bkO i (some (.rt, e, s)) = some (.rt, e, s) := rfl
@[simp] theorem bkO_ex (i j : Nat) : bkO i (some (.ex j, e, s)) = if j = i then some (.nm, e, s) else some (.ex j, e, s) := rfl
@[simp] theorem evC_bk (i : Nat) (a : IR) : evC C L π k0 (.bk i a) e s = bkO i (evC C L π k0 a e s) := by
 rw [evC]
 cases evC C L π k0 a e s with
 | none => rfl
 | some y => obtain ⟨x, y⟩ := y; cases x <;> rfl
def kpO (k kr : List Nat) (k0 : List Id) : Option (Ex × Env × Sto) → Option (Ex × Env × Sto)
 | some (.nm, e, s) => (mask k k0 (e, s)).map fun x => (.nm, x.1, x.2)
 | some (.rt, e, s) => (mask kr k0 (e, s)).map fun x => (.rt, x.1, x.2)
 | r => r
@[simp] theorem kpO_nm (k kr : List Nat) : kpO k kr k0 (some (.nm, e, s)) = (mask k k0 (e, s)).map fun x => (.nm, x.1, x.2) := rfl
@[simp] theorem kpO_rt (k kr : List Nat) : kpO k kr k0 (some (.rt, e, s)) = (mask kr k0 (e, s)).map fun x => (.rt, x.1, x.2) := rfl
@[simp] theorem kpO_ex (k kr : List Nat) (i : Nat) : kpO k kr k0 (some (.ex i, e, s)) = some (.ex i, e, s) := rfl
@[simp] theorem evC_fz (ts : List Nat) (a : IR) : evC C L π k0 (.fz ts a) e s = evC C L π k0 a (fzE ts (e, s)).1 (fzE ts (e, s)).2 := rfl
def twO (C : Call) (L : Loop) (π : Id) (k0 : List Id) (a : IR) : Option (Env × Sto) → Option (Ex × Env × Sto)
 | some x => evC C L π k0 a x.1 x.2
 | none => none
@[simp] theorem twO_some (a : IR) (x : Env × Sto) : twO C L π k0 a (some x) = evC C L π k0 a x.1 x.2 := rfl
@[simp] theorem evC_tw (th : List (Nat × (Nat ⊕ (Nat × Nat)))) (a : IR) : evC C L π k0 (.tw th a) e s = twO C L π k0 a (thaw π th (e, s)) := by
 rw [evC]
 cases thaw π th (e, s) <;> rfl
@[simp] theorem evC_fk (ts : List Nat) (a : IR) : evC C L π k0 (.fk ts a) e s = evC C L π k0 a e (lkE ts (e, s)) := rfl
@[simp] theorem fzE_nil (x : Env × Sto) : fzE [] x = x := rfl
@[simp] theorem fzE_cons (t : Nat) (r : List Nat) : fzE (t :: r) (e, s) = match e.lookup t with
  | some v => match Z4 s v with
   | some (y, s1) => fzE r ((t, .p y) :: e, s1)
   | none => fzE r (e, s)
  | none => fzE r (e, s) := rfl
def feO (ts : List Nat) : Option (Ex × Env × Sto) → Option (Ex × Env × Sto)
 | some (.nm, x) => some (.nm, fzE ts x)
 | r => r
@[simp] theorem feO_nm (ts : List Nat) (x : Env × Sto) : feO ts (some (.nm, x)) = some (.nm, fzE ts x) := rfl
@[simp] theorem feO_rt (ts : List Nat) (x : Env × Sto) : feO ts (some (.rt, x)) = some (.rt, x) := rfl
@[simp] theorem feO_ex (ts : List Nat) (i : Nat) (x : Env × Sto) : feO ts (some (.ex i, x)) = some (.ex i, x) := rfl
@[simp] theorem evC_fe (ts : List Nat) (a : IR) : evC C L π k0 (.fe ts a) e s = feO ts (evC C L π k0 a e s) := by
 rw [evC]
 cases evC C L π k0 a e s with
 | none => rfl
 | some y => obtain ⟨x, y⟩ := y; cases x <;> rfl
theorem evC_kp (k kr : List Nat) (a : IR) : evC C L π k0 (.kp k kr a) e s = kpO k kr k0 (evC C L π k0 a e s) := by
 rw [evC]
 cases evC C L π k0 a e s with
 | none => rfl
 | some y => obtain ⟨x, y⟩ := y; cases x <;> rfl
def round (C : Call) (L : Loop) (π : Id) (k0 : List Id) (live : List Nat) (a : IR) (x : Env × Sto) : Option (Ex × Env × Sto) :=
 match mask live k0 x with | some x => evC C L π k0 a x.1 x.2 | none => none
def lpO (C : Call) (L : Loop) (π : Id) (k0 : List Id) (live : List Nat) (a : IR) : Option (Env × Sto) → Option (Ex × Env × Sto)
 | some x => L (round C L π k0 live a) x
 | none => none
@[simp] theorem lpO_some (live : List Nat) (a : IR) (x : Env × Sto) : lpO C L π k0 live a (some x) = L (round C L π k0 live a) x := rfl
theorem evC_lp (th : List (Nat × (Nat ⊕ (Nat × Nat)))) (live : List Nat) (a : IR) : evC C L π k0 (.lp th live a) e s = lpO C L π k0 live a (thaw π th (e, s)) := by
 rw [evC]
 cases thaw π th (e, s) <;> rfl
noncomputable def nextO (f : Env × Sto → Option (Ex × Env × Sto)) : Option (Ex × Env × Sto) → Option (Ex × Env × Sto)
 | some (.nm, x) => iter f x
 | r => r
@[simp] theorem nextO_nm (f : Env × Sto → Option (Ex × Env × Sto)) (x : Env × Sto) : nextO f (some (.nm, x)) = iter f x := rfl
@[simp] theorem nextO_rt (f : Env × Sto → Option (Ex × Env × Sto)) (x : Env × Sto) : nextO f (some (.rt, x)) = some (.rt, x) := rfl
@[simp] theorem nextO_ex (f : Env × Sto → Option (Ex × Env × Sto)) (i : Nat) (x : Env × Sto) : nextO f (some (.ex i, x)) = some (.ex i, x) := rfl
theorem Z3 {live : List Nat} {a : IR} {x y : Env × Sto} (h : mask live k0 x = some y) : iter (round C iter π k0 live a) x = nextO (round C iter π k0 live a) (evC C iter π k0 a y.1 y.2) := by
 rw [iter_eq]
 have : round C iter π k0 live a x = evC C iter π k0 a y.1 y.2 := by unfold round; rw [h]
 rw [this]
 cases evC C iter π k0 a y.1 y.2 with
 | none => rfl
 | some z => obtain ⟨x, z⟩ := z; cases x <;> rfl
def opO (keep : Option (List Nat)) : Option (Env × Sto) → Option (Ex × Env × Sto)
 | some (e, s) => match keep with
  | none => some (.nm, e, s)
  | some k => some (.nm, e.keep k, s)
 | none => none
@[simp] theorem opO_none : opO none (some (e, s)) = some (.nm, e, s) := rfl
@[simp] theorem opO_some (k : List Nat) : opO (some k) (some (e, s)) = some (.nm, e.keep k, s) := rfl
def stp (C : Call) (π : Id) : Nat → List Ins → Option (Env × Sto) → Option (Env × Sto)
 | n, l, some (e, s) => steps C π n l e s
 | _, _, none => none
@[simp] theorem stp_nil : stp C π n [] (some (e, s)) = some (e, s) := by cases n <;> rfl
@[simp] theorem stp_0 : stp C π 0 (o :: r) (some (e, s)) = stp C π 0 r (step C π o e s) := by
 simp only [stp, steps]; cases step C π o e s <;> rfl
@[simp] theorem stp_n : stp C π (n + 1) (o :: r) (some (e, s)) = stp C π n r (stepA C π o e s) := by
 simp only [stp, steps]; cases stepA C π o e s <;> rfl
@[simp] theorem evC_op0 (keep : Option (List Nat)) : evC C L π k0 (.op 0 l keep) e s = opO keep (stp C π 0 l (some (e, s))) := by
 rw [evC]
 simp only [evR, hidOf, stp]
 cases steps C π 0 l e s <;> rfl
def evHO (C : Call) (π : Id) (n : Nat) (l : List Ins) (e : Env) (s : Sto) (lg : Bool) (H : List Id) : Option (Env × Sto) :=
 match Yi C π s H lg 0 n l e (s.filter fun x => !H.contains x.1) [] [] [] [] with
 | some (h, r) => if (H.all fun id => ((h.p.lookup id).isSome || ((kbx lg s H).lookup id).isSome) && !h.s.has id) && apxOk s h then stp C π 0 r (some (apxE h, h.p ++ (kbS (kbx lg s H) (fun i => h.A.any fun a => a.id == i) ++ h.s))) else none
 | none => none
def evRO (C : Call) (π : Id) (n : Nat) (l : List Ins) (e : Env) (s : Sto) : Option (List Id) → Option (Env × Sto)
 | some [] => stp C π n l (some (e, s))
 | some H => evHO C π n l e s false H
 | none => match hidA C π n l e s [] with
  | some H => evHO C π n l e s true (dd H)
  | none => none
@[simp] theorem evRO_nil : evRO C π n l e s (some []) = stp C π n l (some (e, s)) := rfl
theorem evC_opn (n : Nat) (keep : Option (List Nat)) : evC C L π k0 (.op n l keep) e s = opO keep (evRO C π n l e s (hidOf e n l [])) := by
 rw [evC]
 have : evR C π n l e s = evRO C π n l e s (hidOf e n l []) := by
  unfold evR evRO
  cases hidOf e n l [] with
  | none => cases hidA C π n l e s [] <;> rfl
  | some H => cases H <;> rfl
 rw [this]
 cases evRO C π n l e s (hidOf e n l []) <;> rfl
def st1 (C : Call) (π : Id) (d : Option Nat) (op : IOp) (e : Env) (s : Sto) : Option (AV × Sto) → Option (Env × Sto)
 | some r => some (e.set d r.1, r.2 ++ s)
 | none => (evT C π e s (d.getD 0) op).map fun r => (r.2.1.set d r.1, r.2.2)
@[simp] theorem st1_some (r : AV × Sto) : st1 C π d op e s (some r) = some (e.set d r.1, r.2 ++ s) := rfl
@[simp] theorem st1_none : st1 C π d op e s none = (evT C π e s (d.getD 0) op).map fun r => (r.2.1.set d r.1, r.2.2) := rfl
@[simp] theorem step_un : step C π ⟨d, none, op⟩ e s = st1 C π d op e s (evA C π e s true (d.getD 0) op) := by
 unfold step stepA
 simp only
 cases evA C π e s true (d.getD 0) op <;> rfl
@[simp] theorem stepA_un : stepA C π ⟨d, none, op⟩ e s = (evA C π e s true (d.getD 0) op).map fun r => (e.set d r.1, r.2 ++ s) := rfl
def gd (want : Bool) : Option AV → Option (Option Bool)
 | some (.p (.bool b)) => some (some (b == want))
 | some (.wh c (.p (.bool b))) => some (some (c && b == want))
 | some (.p .und) => some none
 | _ => none
@[simp] theorem gd_b (want b : Bool) : gd want (some (.p (.bool b))) = some (some (b == want)) := rfl
@[simp] theorem gd_w (want b c : Bool) : gd want (some (.wh c (.p (.bool b)))) = some (some (c && b == want)) := rfl
@[simp] theorem gd_u (want : Bool) : gd want (some (.p .und)) = some none := rfl
def sgB (g : Bool) (d : Option Nat) (e : Env) (s : Sto) : Option (AV × Sto) → Option (Env × Sto)
 | some (v, []) => some (e.set d (.wh g v), s)
 | some (v, news) => bif g then some (e.set d v, news ++ s) else some (e.set d (.p .und), s)
 | none => bif g then none else some (e.set d (.p .und), s)
@[simp] theorem sgB_some (g : Bool) (v : AV) : sgB g d e s (some (v, [])) = some (e.set d (.wh g v), s) := rfl
@[simp] theorem sgB_news (v : AV) (x : Id × Blk) (news : Sto) : sgB true d e s (some (v, x :: news)) = some (e.set d v, x :: news ++ s) := rfl
@[simp] theorem sgB_none : sgB false d e s none = some (e.set d (.p .und), s) := rfl
@[simp] theorem sgB_false (v : AV) (x : Id × Blk) (news : Sto) : sgB false d e s (some (v, x :: news)) = some (e.set d (.p .und), s) := rfl
def sgA (C : Call) (π : Id) (d : Option Nat) (op : IOp) (e : Env) (s : Sto) : Option (Option Bool) → Option (Env × Sto)
 | some (some g) => if g = false then some (e.set d (.p .und), s) else sgB g d e s (evA C π e s g (d.getD 0) op)
 | some none => some (e.set d (.p .und), s)
 | none => none
@[simp] theorem sgA_f : sgA C π d op e s (some (some false)) = some (e.set d (.p .und), s) := rfl
@[simp] theorem sgA_t : sgA C π d op e s (some (some true)) = sgB true d e s (evA C π e s true (d.getD 0) op) := rfl
@[simp] theorem sgA_u : sgA C π d op e s (some none) = some (e.set d (.p .und), s) := rfl
@[simp] theorem stepA_gd (t : Nat) (want : Bool) : stepA C π ⟨d, some (t, want), op⟩ e s = sgA C π d op e s (gd want (e.lookup t)) := by
 have : stepA C π ⟨d, some (t, want), op⟩ e s = match gd want (e.lookup t) with
   | some (some g) => if g = false then some (e.set d (.p .und), s) else match evA C π e s g (d.getD 0) op with
    | some (v, []) => some (e.set d (.wh g v), s)
    | some (v, news) => bif g then some (e.set d v, news ++ s) else some (e.set d (.p .und), s)
    | none => bif g then none else some (e.set d (.p .und), s)
   | some none => some (e.set d (.p .und), s)
   | none => none := rfl
 rw [this]
 rcases gd want (e.lookup t) with _ | _ | g
 ·rfl
 ·rfl
 ·simp only [sgA]
  split
  ·rfl
  ·cases evA C π e s g (d.getD 0) op with
   | none => rfl
   | some y => obtain ⟨v, nw⟩ := y; cases nw <;> rfl
def st2 (C : Call) (π : Id) (o : Ins) (e : Env) (s : Sto) : Option (Env × Sto) → Option (Env × Sto)
 | some r => some r
 | none => match o.g with
  | none => (evT C π e s (o.d.getD 0) o.op).map fun r => (r.2.1.set o.d r.1, r.2.2)
  | some (t, want) => match e.lookup t with
   | some (.p (.bool b)) => bif b == want then (evT C π e s (o.d.getD 0) o.op).map fun r => (r.2.1.set o.d r.1, r.2.2) else none
   | _ => none
@[simp] theorem st2_some (r : Env × Sto) : st2 C π o e s (some r) = some r := rfl
@[simp] theorem step_gd (t : Nat) (want : Bool) : step C π ⟨d, some (t, want), op⟩ e s = st2 C π ⟨d, some (t, want), op⟩ e s (sgA C π d op e s (gd want (e.lookup t))) := by
 rw [← stepA_gd]
 unfold step st2
 cases stepA C π ⟨d, some (t, want), op⟩ e s <;> rfl
def resO (s s' : Sto) : Option (List AV) → Option (AV × Sto)
 | some vs => bif (G6 vs).keeps then none else (gc s' (s.map (·.1) ++ (G6 vs).ids)).map (G6 vs, ·)
 | none => none
@[simp] theorem resO_some (s' : Sto) (vs : List AV) : resO s s' (some vs) = bif (G6 vs).keeps then none else (gc s' (s.map (·.1) ++ (G6 vs).ids)).map (G6 vs, ·) := rfl
def outO (rs : List RV) (s : Sto) : Option (Ex × Env × Sto) → Option (AV × Sto)
 | some (.nm, e, s') => resO s s' (rs.mapM (resOf e s'))
 | some (.rt, e, s') => resO s s' (rs.mapM (resOf e s'))
 | _ => none
@[simp] theorem outO_nm (rs : List RV) (s' : Sto) : outO rs s (some (.nm, e, s')) = resO s s' (rs.mapM (resOf e s')) := rfl
@[simp] theorem outO_rt (rs : List RV) (s' : Sto) : outO rs s (some (.rt, e, s')) = resO s s' (rs.mapM (resOf e s')) := rfl
theorem Z0 (F : FnIR) (args : List AV) : runF C L F π args s = if args.length ≤ F.nt then outO F.res s (evC C L π (s.map (·.1)) F.body (envOf 0 args) s) else none := by
 unfold runF
 split
 ·cases evC C L π (s.map (·.1)) F.body (envOf 0 args) s with
  | none => rfl
  | some y => obtain ⟨x, y⟩ := y; cases x <;> rfl
 ·rfl
@[simp] theorem x'_t (g : Bool) (i : Nat) : evA.x' e g (.t i) = (e.lookup i).map (AV.un g) := rfl
@[simp] theorem x'_c (g : Bool) (v : PV) : evA.x' e g (.c v) = some (.p v) := rfl
@[simp] theorem pv_t (g : Bool) (i : Nat) : evA.pv e g (.t i) = ((e.lookup i).map (AV.un g)).bind AV.getP := rfl
@[simp] theorem pv_c (g : Bool) (v : PV) : evA.pv e g (.c v) = some v := rfl
@[simp] theorem raw_t (i : Nat) : evA.raw e (.t i) = e.lookup i := rfl
@[simp] theorem raw_c (v : PV) : evA.raw e (.c v) = some (.p v) := rfl
@[simp] theorem tx'_t (i : Nat) : evT.x' e (.t i) = (e.lookup i).map (AV.un true) := rfl
@[simp] theorem tx'_c (v : PV) : evT.x' e (.c v) = some (.p v) := rfl
@[simp] theorem tpv_t (i : Nat) : evT.pv e (.t i) = ((e.lookup i).map (AV.un true)).bind AV.getP := rfl
@[simp] theorem tpv_c (v : PV) : evT.pv e (.c v) = some v := rfl
@[simp] theorem get_t (i : Nat) : Opd.get (.t i) e = (e.lookup i).map (AV.un true) := rfl
@[simp] theorem get_c (v : PV) : Opd.get (.c v) e = some (.p v) := rfl
@[simp] theorem un_p (g : Bool) (v : PV) : AV.un g (.p v) = .p v := rfl
@[simp] theorem un_ref (g : Bool) (i : Id) (k : Nat) : AV.un g (.ref i k) = .ref i k := rfl
@[simp] theorem un_er (g : Bool) (i : Id) (a b c : Nat) : AV.un g (.er i a b c) = .er i a b c := rfl
@[simp] theorem un_ap (g : Bool) (i : Id) : AV.un g (.ap i) = .ap i := rfl
@[simp] theorem un_agg (g : Bool) (l : List AV) : AV.un g (.agg l) = .agg l := rfl
@[simp] theorem un_tup (g : Bool) (l : List AV) : AV.un g (.tup l) = .tup l := rfl
@[simp] theorem un_fn (g : Bool) (f : Nat) (l : List AV) : AV.un g (.fn f l) = .fn f l := rfl
@[simp] theorem un_wh (g c : Bool) (v : AV) : AV.un g (.wh c v) = bif (!g || c) then v else .top := rfl
@[simp] theorem getP_p' (v : PV) : AV.getP (.p v) = some v := rfl
@[simp] theorem getP_ref (i : Id) (k : Nat) : AV.getP (.ref i k) = none := rfl
@[simp] theorem getP_ap (i : Id) : AV.getP (.ap i) = none := rfl
@[simp] theorem getP_agg (l : List AV) : AV.getP (.agg l) = none := rfl
@[simp] theorem getP_fn (f : Nat) (l : List AV) : AV.getP (.fn f l) = none := rfl
@[simp] theorem set_some (t : Nat) (v : AV) : Env.set e (some t) v = (t, v) :: e := rfl
@[simp] theorem set_none (v : AV) : Env.set e none v = e := rfl
@[simp] theorem keep_nil : Env.keep [] e = [] := rfl
@[simp] theorem keep_cons (t : Nat) (l : List Nat) : Env.keep (t :: l) e = ((e.lookup t).map (t, ·)).toList ++ Env.keep l e := by
 unfold Env.keep
 rw [List.filterMap_cons]
 cases e.lookup t <;> rfl
@[simp] theorem toPV_d (v : PV) : toPV s depth (.p v) = some v := rfl
attribute [simp] lkE AV.keeps envOf List.lookup_cons List.lookup_nil AV.ids AV.ids.AV.idsL Blk.ids evA evT binPV unPV IOp.isCall pickAV resOf G6 nat? PV.cells rowOf closF Za6 PV.fg PV.fg.PV.fgL PV.scal PV.scal.PV.scalL AV.scal AV.cells AV.allP AV.mkAgg AV.mkFn AV.mkTup PV.cell1 AV.cell1 Zr Zdh Z6w Nd seg Z4 Z03
attribute [simp] dd kbx kbS AV.killP Blk.killP ldW callW useE Ins.isCS Blk.holds evC_opn hidOf faE evHO hidA appW usesV putP apxOk apxE Ins.uses IOp.opds evC_kp evC_lp Yi stW gc Sto.has Sto.put Sto.lend Blk.lend Sto.kill Blk.kill AV.kill Env.kill srcOf dstOf fnOf Z6t rfO FSt.exit
@[simp] theorem un_yld (g : Bool) (i : Id) : AV.un g (.yld i) = .yld i := rfl
@[simp] theorem un_bpt (g : Bool) (i : Id) (a b : Nat) : AV.un g (.bpt i a b) = .bpt i a b := rfl
@[simp] theorem un_mp (g : Bool) (i : Id) : AV.un g (.mp i) = .mp i := rfl
@[simp] theorem un_part (g : Bool) (i : Id) (a b c : Nat) : AV.un g (.part i a b c) = .part i a b c := rfl
@[simp] theorem un_clip (g : Bool) (a : Nat) (b : Option Bool) (l : List PV) : AV.un g (.clip a b l) = .clip a b l := rfl
@[simp] theorem toPV_ap (i : Id) : toPV s depth (.ap i) = match s.lookup i with | some (.row _ _ sz nl l) => some (.sl sz nl l) | _ => none := rfl
@[simp] theorem reach_ap (i : Id) : reach s depth (.ap i) = [i] := rfl
@[simp] theorem reach_p (v : PV) : reach s depth (.p v) = [] := rfl
@[simp] theorem toPV_clip (a : Nat) (b : Option Bool) (l : List PV) : toPV s depth (.clip a b l) = some (.sl a b l) := rfl
@[simp] theorem toPV_fn (f : Nat) (cs : List AV) : toPV s depth (.fn f cs) = (cs.mapM (toPV s 11)).map (.fn f) := rfl
@[simp] theorem toPV_sp (n : Nat) (v : PV) : toPV s (n + 1) (.p v) = some v := rfl
@[simp] theorem toPV_sref (n : Nat) (i : Id) (o : Nat) : toPV s (n + 1) (.ref i o) = match s.lookup i with | some (.box _ cs) => ((cs.drop o).mapM (toPV s n)).map .ptr | _ => none := rfl
@[simp] theorem toPV_sap (n : Nat) (i : Id) : toPV s (n + 1) (.ap i) = match s.lookup i with | some (.row _ _ sz nl l) => some (.sl sz nl l) | _ => none := rfl
@[simp] theorem toPV_sfn (n : Nat) (f : Nat) (cs : List AV) : toPV s (n + 1) (.fn f cs) = (cs.mapM (toPV s n)).map (.fn f) := rfl
@[simp] theorem toPV_sagg (n : Nat) (cs : List AV) : toPV s (n + 1) (.agg cs) = (cs.mapM (toPV s n)).map .agg := rfl
@[simp] theorem toPV_dref (i : Id) (o : Nat) : toPV s depth (.ref i o) = match s.lookup i with | some (.box _ cs) => ((cs.drop o).mapM (toPV s 11)).map .ptr | _ => none := rfl
@[simp] theorem toPV_dagg (cs : List AV) : toPV s depth (.agg cs) = (cs.mapM (toPV s 11)).map .agg := rfl
@[simp] theorem reach_fn (f : Nat) (cs : List AV) : reach s depth (.fn f cs) = cs.flatMap (reach s 11) := rfl
@[simp] theorem reach_agg (cs : List AV) : reach s depth (.agg cs) = cs.flatMap (reach s 11) := rfl
@[simp] theorem reach_ref (i : Id) (o : Nat) : reach s depth (.ref i o) = match s.lookup i with | some (.box _ cs) => i :: cs.flatMap (reach s 11) | _ => [] := rfl
@[simp] theorem reach_sp (n : Nat) (v : PV) : reach s (n + 1) (.p v) = [] := rfl
@[simp] theorem reach_sap (n : Nat) (i : Id) : reach s (n + 1) (.ap i) = [i] := rfl
@[simp] theorem reach_sref (n : Nat) (i : Id) (o : Nat) : reach s (n + 1) (.ref i o) = match s.lookup i with | some (.box _ cs) => i :: cs.flatMap (reach s n) | _ => [] := rfl
@[simp] theorem reach_sfn (n : Nat) (f : Nat) (cs : List AV) : reach s (n + 1) (.fn f cs) = cs.flatMap (reach s n) := rfl
@[simp] theorem mask_pair (live : List Nat) : mask live k0 (e, s) = (gc s (k0 ++ AV.ids.AV.idsL ((e.keep live).map (·.2)))).map (e.keep live, ·) := rfl
@[simp] theorem gc_nil : gc [] [] = some [] := rfl
@[simp] theorem thaw_nil (x : Env × Sto) : thaw π [] x = some x := rfl
@[simp] theorem beq_int (a b : Int) : (a == b) = decide (a = b) := rfl
@[simp] theorem bne_int (a b : Int) : (a != b) = !decide (a = b) := rfl
theorem Hd {α : Type} (f g : α → PV) (h : ∀ x, (f x).fg = g x) (l : List α) : PV.fg.PV.fgL (l.map f) = l.map g := by
 induction l with
 | nil => rfl
 | cons a r ih => simp [h, ih]
@[simp] theorem fgL_ints (k : IntKind) (l : List Int) : PV.fg.PV.fgL (l.map (PV.int k)) = l.map (PV.int k) := Hd _ _ (fun _ => rfl) l
theorem Y3 {α β : Type} (f : α → β) {l pre suf : List α} {x : α} (h : l = pre ++ x :: suf) : (l.map f)[pre.length]? = some (f x) := by subst h; simp
theorem Zc {α : Type} {l pre suf : List α} {x : α} (h : l = pre ++ x :: suf) : (pre.length : Int) < l.length := by subst h; simp; omega
end
def evN (T : Tab) (O : Orc) (m : Nat) : Nat → Call
 | 0 => fun _ _ _ _ => none
 | n + 1 => fun π f args s => if f = Z2 then runY (evN T O m n) (iterN m) args s else match O f with
  | some g => g π args s
  | none => match T f with
   | some F => runF (evN T O m n) (iterN m) F π args s
   | none => none
section
variable {C : Call} {π : Id} {s : Sto} {m : Nat}
theorem Q3 {k0 : List Id} : ∀ (ir : IR) (e : Env) (s : Sto) (r : Ex × Env × Sto), evC C (iterN m) π k0 ir e s = some r → evC C iter π k0 ir e s = some r
 | .sk, _, _, _, hr => hr
 | .ex _, _, _, _, hr => hr
 | .rt, _, _, _, hr => hr
 | .bad, _, _, _, hr => hr
 | .op _ _ _, _, _, _, hr => hr
 | .rf _ _ _ _ _ _ _, _, _, _, hr => hr
 | .sq a b, e, s, r, hr => by
  rw [evC] at hr ⊢
  cases ha : evC C (iterN m) π k0 a e s with
  | none => rw [ha] at hr; cases hr
  | some y =>
   rw [ha] at hr
   rw [Q3 a e s y ha]
   obtain ⟨x, e1, s1⟩ := y
   cases x with
   | nm => exact Q3 b e1 s1 r hr
   | _ => exact hr
 | .cd c a b, e, s, r, hr => by
  rw [evC] at hr ⊢
  split at hr
  case h_2 => cases hr
  rename_i q hq
  cases q with
  | true => exact Q3 a e s r hr
  | false => exact Q3 b e s r hr
 | .bk id a, e, s, r, hr => by
  rw [evC] at hr ⊢
  cases ha : evC C (iterN m) π k0 a e s with
  | none => rw [ha] at hr; cases hr
  | some y =>
   rw [ha] at hr
   rw [Q3 a e s y ha]
   exact hr
 | .fz ts a, e, s, r, hr => by
  rw [evC] at hr ⊢
  exact Q3 a _ _ r hr
 | .fk ts a, e, s, r, hr => by
  rw [evC] at hr ⊢
  exact Q3 a _ _ r hr
 | .tw th a, e, s, r, hr => by
  rw [evC] at hr ⊢
  cases ht : thaw π th (e, s) with
  | none => rw [ht] at hr; cases hr
  | some y =>
   rw [ht] at hr
   exact Q3 a _ _ r hr
 | .fe ts a, e, s, r, hr => by
  rw [evC] at hr ⊢
  cases ha : evC C (iterN m) π k0 a e s with
  | none => rw [ha] at hr; cases hr
  | some y =>
   rw [ha] at hr
   rw [Q3 a e s y ha]
   exact hr
 | .kp k kr a, e, s, r, hr => by
  rw [evC] at hr ⊢
  cases ha : evC C (iterN m) π k0 a e s with
  | none => rw [ha] at hr; cases hr
  | some y =>
   rw [ha] at hr
   rw [Q3 a e s y ha]
   exact hr
 | .lp th live a, e, s, r, hr => by
  rw [evC] at hr ⊢
  split at hr
  case h_2 => cases hr
  rename_i x hx
  refine Nc.2 ⟨m, Z19 (fun x r hx => ?_) m x hr⟩
  split at hx
  case h_2 => cases hx
  rename_i y hy
  exact Q3 a _ _ r hx
theorem runF_fuel {F : FnIR} {args : List AV} {r : AV × Sto} (hr : runF C (iterN m) F π args s = some r) : runF C iter F π args s = some r := by
 unfold runF at hr ⊢
 split at hr
 case isFalse => cases hr
 rename_i hle
 rw [if_pos hle]
 cases hv : evC C (iterN m) π (s.map (·.1)) F.body (envOf 0 args) s with
 | none => rw [hv] at hr; cases hr
 | some y =>
  rw [hv] at hr
  rw [Q3 _ _ _ _ hv]
  exact hr
theorem runY_fuel {args : List AV} {r : AV × Sto} (hr : runY C (iterN m) args s = some r) : runY C iter args s = some r := by
 unfold runY at hr ⊢
 split at hr
 case h_2 => cases hr
 split at hr
 case h_2 => cases hr
 split at hr
 case isFalse => cases hr
 rename_i hc
 rw [if_pos hc]
 split at hr
 case h_2 => cases hr
 rename_i e1 s1 h1
 rw [Q3 _ _ _ _ h1]
 simp only
 split at hr
 case h_2 => cases hr
 split at hr
 case h_2 => cases hr
 rename_i x e2 s2 h2
 rw [Q3 _ _ _ _ h2]
 exact hr
end
theorem evN_le {T : Tab} {O : Orc} {m : Nat} : ∀ n, Le (evN T O m n) (EN T O n)
 | 0 => fun π f args s r h => by simp [evN] at h
 | n + 1 => fun π f args s r h => by
  unfold evN at h
  simp only [EN, bodyE]
  split at h
  ·rename_i hy
   rw [if_pos hy]
   exact Z8f (evN_le n) (runY_fuel h)
  ·rename_i hy
   rw [if_neg hy]
   cases hO : O f with
   | some g => rw [hO] at h; exact h
   | none =>
    rw [hO] at h
    cases hT : T f with
    | some F => rw [hT] at h; exact Z8g (evN_le n) (runF_fuel h)
    | none => rw [hT] at h; cases h
theorem E_of {T : Tab} {O : Orc} {π : Id} {f : Nat} {args : List AV} {s : Sto} {r : AV × Sto} (m n : Nat) (h : evN T O m n π f args s = some r) : E T O π f args s = some r :=
 Z9r.2 ⟨n, evN_le n _ _ _ _ _ h⟩
def noO : Orc := fun _ => none
theorem noO_ok (P : Program) : OrcOk P noO := fun f g h => by simp [noO] at h
theorem hand_nil {P : Program} {γ : Hand} {w : World} {X : Own} (hs : StoOk P γ w X []) : γ = fun _ => none := by
 funext id
 cases hid : γ id with
 | none => rfl
 | some v => obtain ⟨b, hb, _⟩ := hs.blk id v hid; simp at hb
def flE : List PV → Option Bool
 | [] => none
 | _ => some false
def Zgm (T sz : Nat) : Id → List AV → Sto → Option (AV × Sto) := fun π args s => match args, s with
 | [.p (.sl sz' _ l)], [] => if sz' = sz ∧ l.length ≤ room then some (.ap (0 :: π), [(0 :: π, .row false T sz (flE l) l)]) else none
 | _, _ => none
section
variable {P : Program} {γ : Hand} {w : World} {X : Own}
theorem rep_nil_or {v : Value} {sz : Nat} {nl : Option Bool} {l : List PV} (h : Rep w X v (.sl sz nl l)) : Rep w X v (.sl sz (some false) l) ∨ (l = [] ∧ Rep w X v (.sl sz (some true) [])) := by
 cases h with
 | slE a cap sz nl h1 h2 h0 hm =>
  cases a with
  | none => exact .inr ⟨rfl, .slE none cap sz (some true) (fun _ => rfl) (fun h => by cases h) h0 hm⟩
  | some ad => exact .inl (.slE _ cap sz (some false) (fun h => by cases h) (fun _ => by simp) (fun h => by cases h) hm)
 | slC b o cap sz nl l f h1 hn hm hz hc hh => exact .inl (.slC b o cap sz (some false) l f (by simp) hn hm hz hc hh)
theorem clone_ok {C : Call} (hE : FS P C) {k T sz : Nat} (hk : k ≠ Z2)
  (h1 : ∀ (π : Id) (l : List PV), l.length ≤ room → ∃ id, C π k [.p (.sl sz (some false) l)] [] = some (.ap id, [(id, .row false T sz (some false) l)]))
  (h2 : ∀ (π : Id), C π k [.p (.sl sz (some true) [])] [] = some (.p (.sl sz (some true) []), [])) :
  Z60 P k (Zgm T sz) := by
 intro π args s0 r s' h
 unfold Zgm at h
 split at h
 case h_2 => cases h
 rename_i sz' nl l
 split at h
 case isFalse => cases h
 rename_i hc
 obtain ⟨rfl, hroom⟩ := hc
 simp only [Option.some.injEq, Prod.mk.injEq] at h
 obtain ⟨rfl, rfl⟩ := h
 refine ⟨?_, fun vals γ0 w X hsz hargs hs00 hf00 => ?_⟩
 ·rcases hE _ _ _ _ _ _ (h2 π) with ⟨h, _⟩ | ⟨_, h, _⟩
  ·exact absurd h hk
  ·exact h
 have hX := hs00.lt
 obtain rfl := hand_nil hs00
 have hsz1 : vals.size = 1 := by simpa using hsz
 obtain ⟨v0, hv0⟩ : ∃ v0, vals = #[v0] := ⟨vals[0], by
  apply Array.ext
  ·simp [hsz1]
  ·intro i h1 h2; simp at h2; subst h2; rfl⟩
 subst hv0
 have hrep : Rep w X v0 (.sl sz' nl l) := (hargs 0 v0 (.p (.sl sz' nl l)) (by simp) (by simp)).ofP
 have hs0 : StoOk P (fun _ => none) w X [] := ⟨fun i v hi => (by cases hi), fun i j v u b hi => (by cases hi), hX⟩
 have hf0 : Full (fun _ => none) [] := fun i b hb => by simp at hb
 rcases rep_nil_or hrep with h | ⟨rfl, h⟩
 ·obtain ⟨id, hr⟩ := h1 π l hroom
  rcases hE _ _ _ _ _ _ hr with ⟨h', _⟩ | ⟨_, _, hcall⟩
  ·exact absurd h' hk
  refine (hcall #[v0] (fun _ => none) w X rfl (fun i v c hv hc => ?_) hs0 hf0).mono fun en w' hL => ?_
  ·cases i with
   | zero => simp at hv hc; subst hv; subst hc; exact .p h
   | succ i => simp at hc
  ·obtain ⟨v, γ', X', hL⟩ := hL
   have hrv := hL.rep
   have hv : γ' id = some v ∧ v ≠ zc := by
    cases hrv with
    | ap _ _ h hz => exact ⟨h, hz⟩
    | ap0 _ a h =>
     obtain ⟨blk, hb1, hb2⟩ := hL.sto.blk id _ h
     simp at hb1
     subst hb1
     obtain ⟨xs, hrow⟩ := hb2
     cases hrow.zero.2
   obtain ⟨blk, hb1, hb2⟩ := hL.sto.blk id _ hv.1
   simp at hb1
   subst hb1
   obtain ⟨xs, hrow⟩ := hb2
   refine ⟨v, fun i => if i = 0 :: π then some v else none, X', hL.ret, .ap _ _ (by simp) hv.2, ⟨fun i u hi => ?_, fun i j u u' b hi hj _ _ => ?_, hL.sto.lt⟩, fun i b hb => ?_, ⟨hL.evo.os, hL.evo.tape, hL.evo.output, hL.evo.size, hL.evo.block, hL.evo.cell, hL.evo.less, hL.evo.keep, fun b hb ho => ?_⟩, fun i b hb => by simp at hb, fun h => by cases h⟩
   ·split at hi
    ·rename_i he
     subst he
     simp only [Option.some.injEq] at hi
     subst hi
     exact ⟨.row false T sz' (flE l) l, by simp, xs, hrow.len, hrow.at0, ⟨fun h => (by unfold flE at h; split at h <;> cases h), fun h => hrow.nil.2 rfl⟩, hrow.shape, hrow.rep, hrow.one, hrow.own⟩
    ·cases hi
   ·split at hi
    ·split at hj
     ·rename_i e1 e2; rw [e1, e2]
     ·cases hj
    ·cases hi
   ·by_cases he : i = 0 :: π
    ·simp [he]
    ·simp only [List.lookup_cons] at hb
     have : (i == 0 :: π) = false := by simpa using he
     simp [this] at hb
   ·obtain ⟨i, u, hi, hk⟩ := ho
    simp only at hi
    split at hi
    ·simp only [Option.some.injEq] at hi
     subst hi
     exact hL.evo.owned b hb ⟨id, v, hv.1, hk⟩
    ·cases hi
 ·rcases hE _ _ _ _ _ _ (h2 π) with ⟨h', _⟩ | ⟨_, _, hcall⟩
  ·exact absurd h' hk
  refine (hcall #[v0] (fun _ => none) w X rfl (fun i v c hv hc => ?_) hs0 hf0).mono fun en w' hL => ?_
  ·cases i with
   | zero => simp at hv hc; subst hv; subst hc; exact .p h
   | succ i => simp at hc
  ·obtain ⟨v, γ', X', hL⟩ := hL
   have hv := nil_val hL.rep.ofP
   refine ⟨v, fun i => if i = 0 :: π then some zc else none, X', hL.ret, by rw [hv]; exact .ap0 _ none (by simp), ⟨fun i u hi => ?_, fun i j u u' b hi hj hb _ => ?_, hL.sto.lt⟩, fun i b hb => ?_, ⟨hL.evo.os, hL.evo.tape, hL.evo.output, hL.evo.size, hL.evo.block, hL.evo.cell, hL.evo.less, hL.evo.keep, fun b hb ho => ?_⟩, fun i b hb => by simp at hb, fun h => by cases h⟩
   ·split at hi
    ·rename_i he
     subst he
     simp only [Option.some.injEq] at hi
     subst hi
     exact ⟨.row false T sz' (flE []) [], by simp, [], by simp, .inl ⟨rfl, rfl⟩, ⟨fun h => (by simp [flE] at h), fun h => (by simp [flE] at h)⟩, by simp, by simp, by simp, fun b hb => by simp [hblk, zc] at hb⟩
    ·cases hi
   ·split at hi
    ·simp only [Option.some.injEq] at hi
     subst hi
     simp [hblk, zc] at hb
    ·cases hi
   ·by_cases he : i = 0 :: π
    ·simp [he]
    ·simp only [List.lookup_cons] at hb
     have : (i == 0 :: π) = false := by simpa using he
     simp [this] at hb
   ·obtain ⟨i, u, hi, hk⟩ := ho
    simp only at hi
    split at hi
    ·simp only [Option.some.injEq] at hi
     subst hi
     simp [hblk, zc] at hk
    ·cases hi
end
open Go Go.RowKit Go.Sort
def Zfh : List PV → Option (List ByteArray)
 | [] => some []
 | .str b :: r => (Zfh r).map (b :: ·)
 | _ :: _ => none
theorem Zcq : ∀ {l : List PV} {xs : List ByteArray}, Zfh l = some xs → l = xs.map .str
 | [], xs, h => by simp [Zfh] at h; subst h; rfl
 | a :: r, xs, h => by
  cases a with
  | str b =>
   simp only [Zfh] at h
   obtain ⟨y, hy, rfl⟩ := map_some h
   rw [Zcq hy]; rfl
  | _ => simp [Zfh] at h
def joinB (xs : List ByteArray) (sep : ByteArray) : ByteArray := ⟨(Lib.join (xs.map (·.data.toList)) sep.data.toList).toArray⟩
def joinO : Id → List AV → Sto → Option (AV × Sto) := fun _ args s => match args, s with
 | [.p (.sl 1 _ l), .p (.str sep)], [] => match Zfh l with
  | some xs => if xs.length ≤ room ∧ (joinB xs sep).size ≤ room then some (.p (.str (joinB xs sep)), []) else none
  | none => none
 | _, _ => none
def Z55 : List PV → Option (List Int)
 | [] => some []
 | .int .i64 b :: r => (Z55 r).map (b :: ·)
 | _ :: _ => none
theorem Z3j : ∀ {l : List PV} {xs : List Int}, Z55 l = some xs → l = xs.map (.int .i64)
 | [], xs, h => by simp [Z55] at h; subst h; rfl
 | a :: r, xs, h => by
  cases a with
  | int k b =>
   cases k with
   | i64 =>
    simp only [Z55] at h
    obtain ⟨y, hy, rfl⟩ := map_some h
    rw [Z3j hy]; rfl
   | _ => simp [Z55] at h
  | _ => simp [Z55] at h
def insI (x : Int) : List Int → List Int
 | [] => [x]
 | y :: r => if x ≤ y then x :: y :: r else y :: insI x r
def sortI : List Int → List Int
 | [] => []
 | x :: r => insI x (sortI r)
theorem Zdb (x : Int) : ∀ l, (insI x l).Perm (x :: l)
 | [] => .refl _
 | y :: r => by
  unfold insI
  split
  ·exact .refl _
  ·exact ((Zdb x r).cons y).trans (.swap x y r)
theorem Mi : ∀ l, (sortI l).Perm l
 | [] => .refl _
 | x :: r => (Zdb x _).trans ((Mi r).cons x)
theorem Zda (x : Int) : ∀ l : List Int, l.Pairwise (· ≤ ·) → (insI x l).Pairwise (· ≤ ·)
 | [], _ => by simp [insI]
 | y :: r, h => by
  unfold insI
  have h' := List.pairwise_cons.1 h
  split
  ·rename_i hxy
   refine List.pairwise_cons.2 ⟨fun z hz => ?_, h⟩
   rcases List.mem_cons.1 hz with rfl | hz
   ·exact hxy
   ·exact Int.le_trans hxy (h'.1 z hz)
  ·refine List.pairwise_cons.2 ⟨fun z hz => ?_, Zda x r h'.2⟩
   rcases List.mem_cons.1 ((Zdb x r).mem_iff.1 hz) with rfl | hz
   ·omega
   ·exact h'.1 z hz
theorem Z11 : ∀ l, (sortI l).Pairwise (· ≤ ·)
 | [] => by simp [sortI]
 | x :: r => Zda x _ (Z11 r)
theorem sorted_eq : ∀ {a b : List Int}, a.Perm b → a.Pairwise (· ≤ ·) → b.Pairwise (· ≤ ·) → a = b
 | [], b, hp, _, _ => by rw [List.nil_perm.1 hp]
 | x :: a, [], hp, _, _ => by have := List.perm_nil.1 hp; cases this
 | x :: a, y :: b, hp, ha, hb => by
  have ha' := List.pairwise_cons.1 ha
  have hb' := List.pairwise_cons.1 hb
  have h1 : x ≤ y := by
   rcases List.mem_cons.1 (hp.symm.mem_iff.1 (List.mem_cons_self (a := y) (l := b))) with h | h
   ·omega
   ·exact ha'.1 y h
  have h2 : y ≤ x := by
   rcases List.mem_cons.1 (hp.mem_iff.1 (List.mem_cons_self (a := x) (l := a))) with h | h
   ·omega
   ·exact hb'.1 x h
  have : x = y := by omega
  subst this
  rw [sorted_eq (List.perm_cons x |>.1 hp) ha'.2 hb'.2]
theorem merge_sortI (l : List Int) : (l.mergeSort fun x y => decide (x ≤ y)) = sortI l := by
 refine sorted_eq ((List.mergeSort_perm l _).trans (Mi l).symm) ?_ (Z11 l)
 have := List.pairwise_mergeSort (le := fun x y : Int => decide (x ≤ y)) (fun a b c h1 h2 => by simp at *; omega) (fun a b => by simp; omega) l
 exact this.imp fun h => by simpa using h
def sortO : Id → List AV → Sto → Option (AV × Sto) := fun _ args s => match args with
 | [.ap id] => match s.lookup id with
  | some (.row false T 1 nl l) => match Z55 l with
   | some zs => if zs.length ≤ room then some (.top, s.put id (.row false T 1 nl ((sortI zs).map (.int .i64)))) else none
   | none => none
  | _ => none
 | [.p (.sl 1 _ [])] => some (.top, s)
 | _ => none
section
variable {P : Program} {γ : Hand} {w : World} {X : Own}
theorem vals1 {vals : Array Value} (h : vals.size = 1) : ∃ v, vals = #[v] := ⟨vals[0], by
 apply Array.ext
 ·simp [h]
 ·intro i h1 h2; simp at h2; subst h2; rfl⟩
theorem vals2 {vals : Array Value} (h : vals.size = 2) : ∃ v u, vals = #[v, u] := ⟨vals[0], vals[1], by
 apply Array.ext
 ·simp [h]
 ·intro i h1 h2
  simp at h2
  match i, h2 with
  | 0, _ => rfl
  | 1, _ => rfl⟩
theorem join_ok {k : Nat} (he : Z0q P k) (h0 : ∀ (a : Option Addr) (c : Nat) (sep : ByteArray) (w : World), Calls P k #[.slice a 0 c, .string sep] w fun e w' => e = .returned (.string ⟨#[]⟩) ∧ w' = w)
  (h1 : ∀ (bk o c : Nat) (xs : List ByteArray) (sep : ByteArray) (w : World), (∀ (j : Nat) x, xs[j]? = some x → w.cell? ⟨bk, o + j, none⟩ = some (.string x)) → bk < w.heap.size → xs.length ≤ 140737488355328 → xs.length ≤ c →
   (Lib.join (xs.map (·.data.toList)) sep.data.toList).length ≤ 140737488355328 → Calls P k #[.slice (some ⟨bk, o, none⟩) xs.length c, .string sep] w fun e w' => e = .returned (.string ⟨(Lib.join (xs.map (·.data.toList)) sep.data.toList).toArray⟩) ∧ Below w.heap.size w w') : Z60 P k joinO := by
 intro π args s r s' h
 unfold joinO at h
 split at h
 case h_2 => cases h
 rename_i nl l sep
 split at h
 case h_2 => cases h
 rename_i xs hxs
 split at h
 case isFalse => cases h
 rename_i hc
 simp only [Option.some.injEq, Prod.mk.injEq] at h
 obtain ⟨rfl, rfl⟩ := h
 obtain rfl := Zcq hxs
 refine ⟨he, fun vals γ w X hsz hargs hs hf => ?_⟩
 obtain ⟨v0, v1, rfl⟩ := vals2 hsz
 have hr0 : Rep w X v0 (.sl 1 nl (xs.map .str)) := (hargs 0 v0 _ (by simp) (by simp)).ofP
 have hr1 : v1 = .string sep := ((hargs 1 v1 (.p (.str sep)) (by simp) (by simp)).ofP).strI
 subst hr1
 have fin : ∀ e w', e = .returned (.string (joinB xs sep)) → Below w.heap.size w w' → ∃ v γ' X', Left P γ w X [] (.p (.str (joinB xs sep))) [] e w' v γ' X' := by
  intro e w' he hb
  obtain ⟨g1, g2⟩ := grow (γ := γ) (γ' := γ) (X' := X) hs hb (fun _ _ h => h) (fun _ _ _ => Iff.rfl) (fun b o hx => Nat.lt_of_lt_of_le (hs.lt b o hx) hb.size)
   (fun i h' hi hn => by rw [hn] at hi; cases hi) (fun i j h k b hi _ hi' _ _ _ => by rw [hi] at hi'; cases hi')
  exact ⟨_, γ, X, he, .p (.str _), g1, hf, g2, fun _ _ _ _ => rfl, fun _ _ _ _ => rfl⟩
 cases xs with
 | nil =>
  obtain ⟨b, cap, hv⟩ := Zcu hr0
  subst hv
  exact (h0 b cap sep w).mono fun e w' ⟨h1, h2⟩ => fin e w' (by rw [h1]; rfl) (by rw [h2]; exact Below.refl _ _)
 | cons x r =>
  generalize hl : (x :: r).map PV.str = l at hr0
  cases hr0 with
  | slE => cases hl
  | slC b o cap _ _ _ f k1 hn hM hz hcc hh =>
   subst hl
   have hcell : ∀ (j : Nat) y, (x :: r)[j]? = some y → CellAt w X b (o + j) (.string y) := fun j y hj => by
    have hi : ((x :: r).map PV.str)[j]? = some (.str y) := by rw [List.getElem?_map, hj]; rfl
    have h2 := hcc j _ hi 0 (.str y) (by simp [PV.cells])
    have h3 := (hh j _ hi 0 (.str y) (by simp [PV.cells])).strI
    rw [h3] at h2
    simpa using h2
   have hroom := hc.1
   have hroom2 := hc.2
   simp only [room] at hroom hroom2
   rw [List.length_map] at hn ⊢
   refine (h1 b o cap (x :: r) sep w (fun j y hj => (hcell j y hj).cell) (hcell 0 x rfl).lt (by omega) hn (by simpa [joinB, ByteArray.size] using (show (joinB (x :: r) sep).size ≤ 140737488355328 by omega))).mono fun e w' ⟨q1, q2⟩ => fin e w' q1 q2
theorem Zdc {w : World} {g oo : Nat} {cur : Array Value} {e : TypeId} {ss : List Int} (hb : w.heap[g]? = some (.cells cur e (0, 0))) (ht : (cur.toList.drop oo).take ss.length = ss.map (Value.int .i64)) : Holds (Value.int .i64) w g oo ss.toArray := by
 intro j hj
 have hj' : j < ss.length := by simpa using hj
 refine ⟨?_, by simp [World.frozen?, hb]⟩
 have h1 : ((cur.toList.drop oo).take ss.length)[j]? = (ss.map (Value.int .i64))[j]? := by rw [ht]
 rw [List.getElem?_take_of_lt hj', List.getElem?_drop] at h1
 simp only [World.cell?, hb]
 simp only [Option.isSome_none, Bool.false_eq_true, if_false]
 rw [← Array.getElem?_toList, h1]
 simp [hj']
theorem heap_off {w : World} {g oo n : Nat} {os : Array Obj} {cur : Array Value} {e : TypeId} {fr : Nat × Nat} (d : Array Int) (hb : w.heap[g]? = some (.cells cur e fr)) :
  (Go.Sort.grow (putRow (Value.int .i64) (Sort.ahead w n) g oo d) os).heap[g]? = some (.cells (putCells (Value.int .i64) oo d cur) e fr) := by
 have hg : g < w.heap.size := (Array.getElem?_eq_some_iff.1 hb).1
 rw [heap_grow_old _ _ (by simpa using hg)]
 simp [putRow, mapBlock, Sort.ahead, Array.getElem?_modify, hb, onCells]
theorem Z79 {w : World} {g oo n : Nat} {os : Array Obj} (d : Array Int) : w.grownBy (Go.Sort.grow (putRow (Value.int .i64) (Sort.ahead w n) g oo d) os) (some g) := by
 refine ⟨rfl, rfl, rfl, by simp, fun k hk hne => ?_⟩
 rw [heap_grow_old _ _ (by simpa using hk)]
 have : g ≠ k := fun e => hne (by rw [e])
 simp [putRow, mapBlock, Sort.ahead, Array.getElem?_modify, this]
theorem take_off (cur : Array Value) (oo k : Nat) (ts : List Int) (h : oo + ts.length ≤ cur.size) (hk : k ≤ ts.length) : ((putCells (Value.int .i64) oo ts.toArray cur).toList.drop oo).take k = (ts.take k).map (Value.int .i64) := by
 apply List.ext_getElem?
 intro j
 by_cases hj : j < k
 ·rw [List.getElem?_take_of_lt hj, List.getElem?_drop, Array.getElem?_toList]
  simp [putCells, hj, show j < ts.length by omega, show oo + j < cur.size by omega]
 ·rw [List.getElem?_take_eq_none (by omega), List.getElem?_eq_none (by simp; omega)]
theorem Z9u {w : World} {g oo cap n k : Nat} {e : TypeId} {os : Array Obj} {cur : Array Value} {ts : List Int} (hb : w.heap[g]? = some (.cells cur e (0, 0)))
  (h1 : ts.length ≤ cap) (h2 : cap ≤ maxLen) (h3 : oo + cap * 1 ≤ cur.size) (hk : k ≤ ts.length) :
  rowAt (Go.Sort.grow (putRow (Value.int .i64) (Sort.ahead w n) g oo ts.toArray) os) e 1 (.slice (some ⟨g, oo, none⟩) k cap) k ((ts.take k).map (Value.int .i64)) :=
 ⟨by simp; omega, .inr ⟨g, oo, cap, _, rfl, heap_off _ hb, by omega, h2, by simpa [putCells] using h3, by rw [Nat.mul_one]; exact take_off cur oo k ts (by omega) hk⟩⟩
theorem sort_ok {k : Nat} (he : Z0q P k) (h0 : ∀ (p : Option Addr) (cap : Nat) (w : World), Calls P k #[.slice p 0 cap] w fun e w' => e = .returned (.tuple #[]) ∧ w' = w)
  (h1 : ∀ (blk off cap : Nat) (zs : List Int) (w : World), Holds (Value.int .i64) w blk off zs.toArray → blk < w.heap.size → zs.length < 4611686018427387904 →
   Calls P k #[.slice (some ⟨blk, off, none⟩) zs.length cap] w fun e w' => e = .returned (.tuple #[]) ∧ ∃ n os, w' = Sort.grow (putRow (Value.int .i64) (Sort.ahead w n) blk off (zs.mergeSort fun x y => decide (x ≤ y)).toArray) os) : Z60 P k sortO := by
 intro π args s r s' h
 refine ⟨he, fun vals γ w X hsz hargs hs hf => ?_⟩
 have tup : ∀ (γ : Hand) (w : World) (X : Own), RepA γ w X (.tuple #[]) .top := fun γ w X => .top _
 unfold sortO at h
 split at h
 ·rename_i id
  split at h
  case h_2 => cases h
  rename_i T nl l hl
  split at h
  case h_2 => cases h
  rename_i zs hzs
  split at h
  case isFalse => cases h
  rename_i hroom
  simp only [Option.some.injEq, Prod.mk.injEq] at h
  obtain ⟨rfl, rfl⟩ := h
  obtain rfl := Z3j hzs
  obtain ⟨v0, rfl⟩ := vals1 hsz
  have hr0 := hargs 0 v0 (.ap id) (by simp) (by simp)
  obtain ⟨hd, hhd⟩ := Option.isSome_iff_exists.1 (hf id _ hl)
  obtain ⟨blk, hb1, hb2⟩ := hs.blk id hd hhd
  rw [hl] at hb1
  simp at hb1
  subst hb1
  obtain ⟨xs, hrow⟩ := hb2
  by_cases hz : zs = []
  ·subst hz
   obtain ⟨p, cap, hv⟩ : ∃ p cap, v0 = .slice p 0 cap := by
    cases hr0 with
    | ap0 _ a h => exact ⟨_, _, rfl⟩
    | ap _ _ h hz =>
     rw [hhd] at h
     cases h
     rcases (hrow.rows hz).2 with ⟨h, _⟩ | ⟨g, oo, cap, cur, h, _⟩
     ·exact ⟨_, _, h⟩
     ·exact ⟨_, _, h⟩
   subst hv
   have hlk : ∀ i, (s.put id (.row false T 1 nl ((sortI []).map (.int .i64)))).lookup i = s.lookup i := fun i => by
    rw [Zd]
    split
    ·rename_i h; subst h; rw [hl]; rfl
    ·rfl
   refine (h0 p cap w).mono fun e w' ⟨q1, q2⟩ => ?_
   subst q2
   exact ⟨_, γ, X, q1, tup _ _ _, ⟨fun i h hi => by rw [hlk]; exact hs.blk i h hi, hs.apart, hs.lt⟩, fun i b hb => by rw [hlk] at hb; exact hf i b hb, Evo.refl _ _ _, fun _ _ _ _ => rfl, fun _ _ _ _ => rfl⟩
  ·have hne : hd ≠ zc := fun h => by
    subst h
    exact hz (by simpa using hrow.zero.1)
   have hv0 : v0 = hd := by
    cases hr0 with
    | ap0 _ a h => rw [hhd] at h; cases h; exact absurd rfl hne
    | ap _ _ h hz => rw [hhd] at h; exact (Option.some.inj h).symm
   subst hv0
   rcases (hrow.rows hne).2 with ⟨h, hn⟩ | ⟨g, oo, cap, cur, hv, hg, hcap, hcm, hcur, htake⟩
   ·rw [List.length_map] at hn
    exact absurd (List.eq_nil_of_length_eq_zero hn) hz
   subst hv
   rw [List.length_map] at hcap htake
   have hxs : xs = zs.map (Value.int .i64) := by
    apply List.ext_getElem?
    intro i
    have hxl := hrow.len
    simp only [List.length_map, Nat.mul_one] at hxl
    by_cases hi : i < zs.length
    ·obtain ⟨u, hu, hr⟩ := hrow.rep i (.int .i64 zs[i]) (by simp [hi]) 0 (.int .i64 zs[i]) rfl
     simp only [Nat.mul_one, Nat.add_zero] at hu
     rw [hu, hr.intI]
     simp [hi]
    ·rw [List.getElem?_eq_none (by omega), List.getElem?_eq_none (by simp; omega)]
   subst hxs
   have hglt : g < w.heap.size := (Array.getElem?_eq_some_iff.1 hg).1
   simp only [room] at hroom
   have hcall := h1 g oo cap zs w (Zdc hg (by simpa using htake)) hglt (by omega)
   rw [List.length_map] at hrow hhd ⊢
   refine hcall.mono fun e w' ⟨q1, n, os, q2⟩ => ?_
   rw [merge_sortI] at q2
   have hperm := Mi zs
   have hlen : (sortI zs).length = zs.length := hperm.length_eq
   have hown := Z9u (n := n) (os := os) (cap := cap) (ts := sortI zs) (k := zs.length) hg (by omega) hcm hcur (by omega)
   rw [List.take_of_length_le (by omega)] at hown
   have hgb := Z79 (w := w) (g := g) (oo := oo) (n := n) (os := os) (sortI zs).toArray
   rw [← q2] at hown hgb
   obtain ⟨g1, g2, g3, g4, g5⟩ := hgb
   have hsame : ∀ k, k < w.heap.size → hblk (.slice (some ⟨g, oo, none⟩) zs.length cap) ≠ some k → w'.heap[k]? = w.heap[k]? := fun k hk hne => g5 k hk fun he => hne (by rw [← Option.some.inj he]; rfl)
   have hown0 := fun o => (hrow.own g rfl o).2 (.inl rfl)
   obtain ⟨u1, u2, u3, u4, u5⟩ := upd (γ := γ) (w := w) (w' := w') (X := X) (X' := X) (s := s) (id := id) (h := .slice (some ⟨g, oo, none⟩) zs.length cap) (h' := .slice (some ⟨g, oo, none⟩) zs.length cap)
    (blk' := .row false T 1 nl ((sortI zs).map (.int .i64))) (s' := s.put id (.row false T 1 nl ((sortI zs).map (.int .i64)))) hs hf hhd g1 g2 g3 g4 hsame (fun _ _ _ _ => Iff.rfl)
    (fun k o u hk hc => by cases hk; exact absurd (hown0 o) hc.free) (fun _ _ _ h => h)
    (fun k o hx => Nat.lt_of_lt_of_le (hs.lt k o hx) g4) (.inl rfl) (by
     rw [Ws hhd]
     refine ⟨(sortI zs).map (Value.int .i64), by simp, .inr (by rw [List.length_map, hlen]; exact hown), hrow.nil, fun e he => ?_, fun i e hi j c hj => ?_, fun u hu => ?_, fun b hb o => ?_⟩
     ·obtain ⟨z, _, rfl⟩ := List.mem_map.1 he
      simp [PV.cells, PV.cell1]
     ·rw [List.getElem?_map] at hi
      obtain ⟨z, hz, rfl⟩ := map_some hi
      cases j with
      | succ j => simp [PV.cells] at hj
      | zero =>
       simp [PV.cells] at hj
       subst hj
       exact ⟨.int .i64 z, by simp [hz], .int _ _⟩
     ·obtain ⟨z, _, rfl⟩ := List.mem_map.1 hu
      rfl
     ·cases hb
      exact ⟨fun _ => .inl rfl, fun _ => hown0 o⟩)
    (by rw [Zd, if_pos rfl, hl]; rfl) (fun i hne => .inr ⟨by rw [Zd, if_neg hne], rfl⟩)
   rw [Ws hhd] at u1 u2 u3
   exact ⟨_, γ, X, q1, tup _ _ _, u1, u2, u3, fun _ _ _ _ => rfl, fun _ _ _ _ => rfl⟩
 ·rename_i nl
  simp only [Option.some.injEq, Prod.mk.injEq] at h
  obtain ⟨rfl, rfl⟩ := h
  obtain ⟨v0, rfl⟩ := vals1 hsz
  have hr0 : Rep w X v0 (.sl 1 nl []) := (hargs 0 v0 _ (by simp) (by simp)).ofP
  obtain ⟨b, cap, hv⟩ := Zcu hr0
  subst hv
  refine (h0 b cap w).mono fun e w' ⟨q1, q2⟩ => ?_
  subst q2
  exact ⟨_, γ, X, q1, tup _ _ _, hs, hf, Evo.refl _ _ _, fun _ _ _ _ => rfl, fun _ _ _ _ => rfl⟩
 ·cases h
end
def cmpI : List Int → List Int
 | [] => []
 | [x] => [x]
 | x :: y :: r => if x = y then cmpI (y :: r) else x :: cmpI (y :: r)
theorem cmpI_snoc (x : Int) : ∀ l : List Int, cmpI (l ++ [x]) = cmpI l ++ (if l.getLast? = some x then [] else [x])
 | [] => by simp [cmpI]
 | [a] => by
  by_cases h : a = x <;> simp [cmpI, h]
 | a :: b :: r => by
  have ih := cmpI_snoc x (b :: r)
  simp only [List.cons_append] at ih ⊢
  have hl : (a :: b :: r).getLast? = (b :: r).getLast? := by simp [List.getLast?_cons_cons]
  rw [hl]
  simp only [cmpI]
  by_cases h : a = b
  ·rw [if_pos h, if_pos h, ih]
  ·rw [if_neg h, if_neg h, ih, List.cons_append]
theorem Z71 (zs : List Int) : ∀ m, m ≤ zs.length → Lib.compactUpTo zs.toArray m = cmpI (zs.take m)
 | 0, _ => by simp [Lib.compactUpTo, cmpI]
 | m + 1, h => by
  have hz : zs.toArray[m]! = zs[m] := by simp [show m < zs.length by omega]
  rw [Lib.compactUpTo_succ, Z71 zs m (by omega), List.take_succ_eq_append_getElem (by omega), cmpI_snoc]
  congr 1
  cases m with
  | zero => simp [Lib.keeps, show 0 < zs.length by omega]
  | succ k =>
   have hz2 : zs.toArray[k]! = zs[k] := by simp [show k < zs.length by omega]
   have hl : (zs.take (k + 1)).getLast? = some zs[k] := by
    rw [List.take_succ_eq_append_getElem (by omega)]; exact List.getLast?_concat
   rw [hl, hz]
   by_cases e : zs[k] = zs[k + 1]
   ·rw [Lib.keeps_neg (by omega) (by rw [Nat.add_sub_cancel, hz, hz2, e])]; simp [e]
   ·rw [Lib.keeps_pos (by rw [Nat.add_sub_cancel, hz, hz2]; exact fun h => e h.symm)]; simp [e]
theorem compact_eq (zs : List Int) : Lib.compact zs = cmpI zs := by
 unfold Lib.compact
 rw [Z71 zs _ (Nat.le_refl _), List.take_length]
theorem Zi8 : ∀ l : List Int, (cmpI l).length ≤ l.length
 | [] => by simp [cmpI]
 | [x] => by simp [cmpI]
 | x :: y :: r => by
  have := Zi8 (y :: r)
  rw [cmpI]
  split <;> simp at this ⊢ <;> omega
def cmpR (zs : List Int) : List Int := cmpI zs ++ List.replicate (zs.length - (cmpI zs).length) 0
theorem cmpR_len (zs : List Int) : (cmpR zs).length = zs.length := by
 have := Zi8 zs
 simp [cmpR]; omega
def Z9f : Id → List AV → Sto → Option (AV × Sto) := fun _ args s => match args with
 | [.ap id] => match s.lookup id with
  | some (.row false T 1 nl l) => match Z55 l with
   | some zs => if zs.length ≤ room then some (.p (.sl 1 nl ((cmpI zs).map (.int .i64))), (s.put id (.row false T 1 nl ((cmpR zs).map (.int .i64)))).lend [id]) else none
   | none => none
  | _ => none
 | _ => none
section
variable {P : Program} {γ : Hand} {w : World} {X : Own}
theorem compact_ok {k : Nat} (he : Z0q P k) (h0 : ∀ (a : Option Addr) (cap : Nat) (w : World), Calls P k #[.slice a 0 cap] w fun e w' => e = .returned (.slice a 0 cap) ∧ w' = w)
  (h1 : ∀ (blk off cap : Nat) (zs : List Int) (w : World), Holds (Value.int .i64) w blk off zs.toArray → zs.length ≤ 9223372036854775807 → zs.length ≤ cap →
   Calls P k #[.slice (some ⟨blk, off, none⟩) zs.length cap] w fun e w' => e = .returned (.slice (some ⟨blk, off, none⟩) (Lib.compact zs).length cap) ∧ ∃ q, w' = putRow (Value.int .i64) (Sort.ahead w q) blk off (Lib.compact zs ++ List.replicate (zs.length - (Lib.compact zs).length) 0).toArray) : Z60 P k Z9f := by
 intro π args s r s' h
 refine ⟨he, fun vals γ w X hsz hargs hs hf => ?_⟩
 unfold Z9f at h
 split at h
 ·rename_i id
  split at h
  case h_2 => cases h
  rename_i T nl l hl
  split at h
  case h_2 => cases h
  rename_i zs hzs
  split at h
  case isFalse => cases h
  rename_i hroom
  simp only [Option.some.injEq, Prod.mk.injEq] at h
  obtain ⟨rfl, rfl⟩ := h
  obtain rfl := Z3j hzs
  obtain ⟨v0, rfl⟩ := vals1 hsz
  have hr0 := hargs 0 v0 (.ap id) (by simp) (by simp)
  obtain ⟨hd, hhd⟩ := Option.isSome_iff_exists.1 (hf id _ hl)
  obtain ⟨blk, hb1, hb2⟩ := hs.blk id hd hhd
  rw [hl] at hb1
  simp at hb1
  subst hb1
  obtain ⟨xs, hrow⟩ := hb2
  have hsl : ∀ {γ1 : Hand} {w1 : World} {X1 : Own} {s1 : Sto} {D : List PV}, StoOk P γ1 w1 X1 s1 → Full γ1 s1 → γ1 id = some hd → s1.lookup id = some (.row false T 1 nl D) → v0 = hd → v0 ≠ zc → Rep w1 (lendX γ1 s1 X1 [id]) v0 (.sl 1 nl D) := by
   intro γ1 w1 X1 s1 D hs1 hf1 hg1 hl1 hv hz
   obtain ⟨_, _, h3, h4⟩ := Z9z hs1 hf1 [id]
   obtain ⟨blk, hb1, hb2⟩ := hs1.blk id hd hg1
   rw [hl1] at hb1
   simp at hb1
   subst hb1
   subst hv
   exact rowRep hb2 h3.cell (fun b hk o ho => h4 id (List.mem_singleton.2 rfl) v0 _ b hg1 hl1 hk o ho) hz
  by_cases hz : zs = []
  ·subst hz
   have hlk : ∀ i, (s.put id (.row false T 1 nl ((cmpR []).map (.int .i64)))).lookup i = s.lookup i := fun i => by
    rw [Zd]
    split
    ·rename_i h; subst h; rw [hl]; rfl
    ·rfl
   have hs1 : StoOk P γ w X (s.put id (.row false T 1 nl ((cmpR []).map (.int .i64)))) := ⟨fun i h hi => by rw [hlk]; exact hs.blk i h hi, hs.apart, hs.lt⟩
   have hf1 : Full γ (s.put id (.row false T 1 nl ((cmpR []).map (.int .i64)))) := fun i b hb => by rw [hlk] at hb; exact hf i b hb
   obtain ⟨u1, u2, u3, u4⟩ := Z9z hs1 hf1 [id]
   have hrep : Rep w (lendX γ (s.put id (.row false T 1 nl ((cmpR []).map (.int .i64)))) X [id]) v0 (.sl 1 nl []) := by
    cases hr0 with
    | ap0 _ aa hγ =>
     rw [hhd] at hγ
     cases hγ
     obtain ⟨_, rfl⟩ := hrow.zero
     exact .slE aa 0 1 none (fun h => by cases h) (fun h => by cases h) (fun _ => rfl) (by simp [maxLen])
    | ap _ _ hγ hz =>
     rw [hhd] at hγ
     exact hsl hs1 hf1 hhd (by rw [hlk]; exact hl) (Option.some.inj hγ).symm hz
   obtain ⟨p, cap, hv⟩ := Zcu hrep
   subst hv
   refine (h0 p cap w).mono fun e w' ⟨q1, q2⟩ => ?_
   subst q2
   exact ⟨_, γ, _, q1, .p hrep, u1, u2, u3, fun _ _ _ _ => rfl, fun _ _ _ _ => rfl⟩
  ·have hne : hd ≠ zc := fun h => by
    subst h
    exact hz (by simpa using hrow.zero.1)
   have hv0 : v0 = hd := by
    cases hr0 with
    | ap0 _ a h => rw [hhd] at h; cases h; exact absurd rfl hne
    | ap _ _ h hz => rw [hhd] at h; exact (Option.some.inj h).symm
   rcases (hrow.rows hne).2 with ⟨h, hn⟩ | ⟨g, oo, cap, cur, hv, hg, hcap, hcm, hcur, htake⟩
   ·rw [List.length_map] at hn
    exact absurd (List.eq_nil_of_length_eq_zero hn) hz
   subst hv0
   subst hv
   rw [List.length_map] at hcap htake
   have hxs : xs = zs.map (Value.int .i64) := by
    apply List.ext_getElem?
    intro i
    have hxl := hrow.len
    simp only [List.length_map, Nat.mul_one] at hxl
    by_cases hi : i < zs.length
    ·obtain ⟨u, hu, hr⟩ := hrow.rep i (.int .i64 zs[i]) (by simp [hi]) 0 (.int .i64 zs[i]) rfl
     simp only [Nat.mul_one, Nat.add_zero] at hu
     rw [hu, hr.intI]
     simp [hi]
    ·rw [List.getElem?_eq_none (by omega), List.getElem?_eq_none (by simp; omega)]
   subst hxs
   have hglt : g < w.heap.size := (Array.getElem?_eq_some_iff.1 hg).1
   simp only [room] at hroom
   have hcall := h1 g oo cap zs w (Zdc hg (by simpa using htake)) (by omega) hcap
   rw [List.length_map] at hrow hhd hsl hne ⊢
   refine hcall.mono fun e w' ⟨q1, n, q2⟩ => ?_
   rw [compact_eq] at q1 q2
   have q2 : w' = Go.Sort.grow (putRow (Value.int .i64) (Sort.ahead w n) g oo (cmpR zs).toArray) #[] := by rw [q2]; unfold Go.Sort.grow; simp only [Array.append_empty]; rfl
   have hlen := cmpR_len zs
   have hown := Z9u (n := n) (os := #[]) (cap := cap) (ts := cmpR zs) (k := zs.length) hg (by omega) hcm hcur (by omega)
   rw [List.take_of_length_le (by omega)] at hown
   have hgb := Z79 (w := w) (g := g) (oo := oo) (n := n) (os := #[]) (cmpR zs).toArray
   rw [← q2] at hown hgb
   obtain ⟨g1, g2, g3, g4, g5⟩ := hgb
   have hsame : ∀ k, k < w.heap.size → hblk (.slice (some ⟨g, oo, none⟩) zs.length cap) ≠ some k → w'.heap[k]? = w.heap[k]? := fun k hk hne => g5 k hk fun he => hne (by rw [← Option.some.inj he]; rfl)
   have hown0 := fun o => (hrow.own g rfl o).2 (.inl rfl)
   obtain ⟨u1, u2, u3, u4, u5⟩ := upd (γ := γ) (w := w) (w' := w') (X := X) (X' := X) (s := s) (id := id) (h := .slice (some ⟨g, oo, none⟩) zs.length cap) (h' := .slice (some ⟨g, oo, none⟩) zs.length cap)
    (blk' := .row false T 1 nl ((cmpR zs).map (.int .i64))) (s' := s.put id (.row false T 1 nl ((cmpR zs).map (.int .i64)))) hs hf hhd g1 g2 g3 g4 hsame (fun _ _ _ _ => Iff.rfl)
    (fun k o u hk hc => by cases hk; exact absurd (hown0 o) hc.free) (fun _ _ _ h => h)
    (fun k o hx => Nat.lt_of_lt_of_le (hs.lt k o hx) g4) (.inl rfl) (by
     rw [Ws hhd]
     refine ⟨(cmpR zs).map (Value.int .i64), by simp, .inr (by rw [List.length_map, hlen]; exact hown), hrow.nil, fun e he => ?_, fun i e hi j c hj => ?_, fun u hu => ?_, fun b hb o => ?_⟩
     ·obtain ⟨z, _, rfl⟩ := List.mem_map.1 he
      simp [PV.cells, PV.cell1]
     ·rw [List.getElem?_map] at hi
      obtain ⟨z, hz, rfl⟩ := map_some hi
      cases j with
      | succ j => simp [PV.cells] at hj
      | zero =>
       simp [PV.cells] at hj
       subst hj
       exact ⟨.int .i64 z, by simp [hz], .int _ _⟩
     ·obtain ⟨z, _, rfl⟩ := List.mem_map.1 hu
      rfl
     ·cases hb
      exact ⟨fun _ => .inl rfl, fun _ => hown0 o⟩)
    (by rw [Zd, if_pos rfl, hl]; rfl) (fun i hne => .inr ⟨by rw [Zd, if_neg hne], rfl⟩)
   rw [Ws hhd] at u1 u2 u3
   have hl1 : (s.put id (.row false T 1 nl ((cmpR zs).map (.int .i64)))).lookup id = some (.row false T 1 nl ((cmpR zs).map (.int .i64))) := by rw [Zd, if_pos rfl, hl]; rfl
   obtain ⟨l1, l2, l3, l4⟩ := Z9z u1 u2 [id]
   have hrep := hsl u1 u2 hhd hl1 rfl hne
   have hci := Zi8 zs
   obtain ⟨_, hsr⟩ := slc_rep (lo := 0) (hi := (cmpI zs).length) hrep (by rw [List.length_map, hlen]) (by omega) (by rw [List.length_map, hlen]; exact hci)
   have hcap0 : ¬ cap = 0 := fun h => hz (List.eq_nil_of_length_eq_zero (by omega))
   have hseg : seg 0 (cmpI zs).length ((cmpR zs).map (PV.int .i64)) = (cmpI zs).map (.int .i64) := by
    unfold seg cmpR
    rw [List.drop_zero, Nat.sub_zero, List.map_append]
    exact List.take_left' (by simp)
   rw [hseg, if_neg hcap0] at hsr
   have hsr : Rep w' (lendX γ (s.put id (.row false T 1 nl ((cmpR zs).map (.int .i64)))) X [id]) (.slice (some ⟨g, oo, none⟩) (cmpI zs).length cap) (.sl 1 nl ((cmpI zs).map (.int .i64))) := by
    simpa [Addr.add] using hsr
   exact ⟨_, γ, _, q1, .p hsr, l1, l2, u3.trans l3, fun _ _ _ _ => rfl, fun _ _ _ _ => rfl⟩
 ·cases h
end
def delI (zs : List Int) (i j : Nat) : List Int := zs.take i ++ zs.drop j
theorem delI_len {zs : List Int} {i j : Nat} (h1 : i ≤ j) (h2 : j ≤ zs.length) : (delI zs i j).length = zs.length - (j - i) := by
 simp [delI]; omega
def delO : Id → List AV → Sto → Option (AV × Sto) := fun _ args s => match args with
 | [.ap id, .p (.int .i64 i), .p (.int .i64 j)] => match s.lookup id with
  | some (.row false T 1 nl l) => match Z55 l with
   | some zs => if zs.length ≤ room ∧ 0 ≤ i ∧ i ≤ j ∧ j ≤ zs.length ∧ zs ≠ [] then some (.ap id, (s.kill id).put id (.row false T 1 nl ((delI zs i.toNat j.toNat).map (.int .i64)))) else none
   | none => none
  | _ => none
 | _ => none
section
variable {P : Program} {γ : Hand} {w : World} {X : Own}
theorem vals3 {vals : Array Value} (h : vals.size = 3) : ∃ a b c, vals = #[a, b, c] := by
 refine ⟨vals[0], vals[1], vals[2], ?_⟩
 apply Array.ext
 ·simpa using h
 ·intro i h1 h2
  match i with
  | 0 => rfl
  | 1 => rfl
  | 2 => rfl
  | i + 3 => simp at h2; omega
theorem del_ok {k : Nat} (he : Z0q P k)
  (h1 : ∀ (blk off cap i j : Nat) (zs : List Int) (w : World), Holds (Value.int .i64) w blk off zs.toArray → zs.length ≤ cap → cap ≤ 9223372036854775807 → i ≤ j → j ≤ zs.length →
   Calls P k #[.slice (some ⟨blk, off, none⟩) zs.length cap, .int .i64 i, .int .i64 j] w fun e w' => e = .returned (.slice (some ⟨blk, off, none⟩) (zs.length - (j - i)) cap) ∧ ∃ q, w' = putRow (Value.int .i64) (Sort.ahead w q) blk off (zs.take i ++ zs.drop j ++ List.replicate (j - i) 0).toArray) : Z60 P k delO := by
 intro π args s r s' h
 refine ⟨he, fun vals γ w X hsz hargs hs hf => ?_⟩
 unfold delO at h
 split at h
 case h_2 => cases h
 rename_i id i j
 split at h
 case h_2 => cases h
 rename_i T nl l hl
 split at h
 case h_2 => cases h
 rename_i zs hzs
 split at h
 case isFalse => cases h
 rename_i hc
 obtain ⟨hroom, hi0, hij, hjl, hz⟩ := hc
 simp only [Option.some.injEq, Prod.mk.injEq] at h
 obtain ⟨rfl, rfl⟩ := h
 obtain rfl := Z3j hzs
 obtain ⟨v0, v1, v2, rfl⟩ := vals3 hsz
 have hr0 := hargs 0 v0 (.ap id) (by simp) (by simp)
 have hr1 := (hargs 1 v1 (.p (.int .i64 i)) (by simp) (by simp)).ofP.intI
 have hr2 := (hargs 2 v2 (.p (.int .i64 j)) (by simp) (by simp)).ofP.intI
 subst hr1; subst hr2
 obtain ⟨i, rfl⟩ := Int.eq_ofNat_of_zero_le hi0
 obtain ⟨j, rfl⟩ := Int.eq_ofNat_of_zero_le (Int.le_trans hi0 hij)
 have hij : i ≤ j := by omega
 have hjl : j ≤ zs.length := by omega
 obtain ⟨hd, hhd⟩ := Option.isSome_iff_exists.1 (hf id _ hl)
 obtain ⟨blk, hb1, hb2⟩ := hs.blk id hd hhd
 rw [hl] at hb1
 simp at hb1
 subst hb1
 obtain ⟨xs, hrow⟩ := hb2
 have hne : hd ≠ zc := fun h => by
  subst h
  exact hz (by simpa using hrow.zero.1)
 have hv0 : v0 = hd := by
  cases hr0 with
  | ap0 _ a h => rw [hhd] at h; cases h; exact absurd rfl hne
  | ap _ _ h hz => rw [hhd] at h; exact (Option.some.inj h).symm
 subst hv0
 rcases (hrow.rows hne).2 with ⟨h, hn⟩ | ⟨g, oo, cap, cur, hv, hg, hcap, hcm, hcur, htake⟩
 ·rw [List.length_map] at hn
  exact absurd (List.eq_nil_of_length_eq_zero hn) hz
 subst hv
 rw [List.length_map] at hcap htake
 have hxs : xs = zs.map (Value.int .i64) := by
  apply List.ext_getElem?
  intro i
  have hxl := hrow.len
  simp only [List.length_map, Nat.mul_one] at hxl
  by_cases hi : i < zs.length
  ·obtain ⟨u, hu, hr⟩ := hrow.rep i (.int .i64 zs[i]) (by simp [hi]) 0 (.int .i64 zs[i]) rfl
   simp only [Nat.mul_one, Nat.add_zero] at hu
   rw [hu, hr.intI]
   simp [hi]
  ·rw [List.getElem?_eq_none (by omega), List.getElem?_eq_none (by simp; omega)]
 subst hxs
 simp only [room] at hroom
 have hdl := delI_len hij hjl
 have hcall := h1 g oo cap i j zs w (Zdc hg (by simpa using htake)) hcap (by simpa only [maxLen] using hcm) hij hjl
 rw [List.length_map] at hrow hhd ⊢
 refine hcall.mono fun e w' ⟨q1, n, q2⟩ => ?_
 have htl : (delI zs i j ++ List.replicate (j - i) 0).length = zs.length := by rw [List.length_append, hdl, List.length_replicate]; omega
 have q2 : w' = Go.Sort.grow (putRow (Value.int .i64) (Sort.ahead w n) g oo (delI zs i j ++ List.replicate (j - i) 0).toArray) #[] := by rw [q2]; unfold Go.Sort.grow delI; simp only [Array.append_empty]
 have hown := Z9u (n := n) (os := #[]) (cap := cap) (ts := delI zs i j ++ List.replicate (j - i) 0) (k := zs.length - (j - i)) hg (by omega) hcm hcur (by omega)
 rw [← hdl, List.take_left] at hown
 have hgb := Z79 (w := w) (g := g) (oo := oo) (n := n) (os := #[]) (delI zs i j ++ List.replicate (j - i) 0).toArray
 rw [← q2] at hown hgb
 obtain ⟨g1, g2, g3, g4, g5⟩ := hgb
 have hsame : ∀ k, k < w.heap.size → hblk (.slice (some ⟨g, oo, none⟩) zs.length cap) ≠ some k → w'.heap[k]? = w.heap[k]? := fun k hk hne => g5 k hk fun he => hne (by rw [← Option.some.inj he]; rfl)
 have hown0 := fun o => (hrow.own g rfl o).2 (.inl rfl)
 simp only [Int.toNat_natCast]
 have lk : ((s.kill id).put id (.row false T 1 nl ((delI zs i j).map (.int .i64)))).lookup id = some (.row false T 1 nl ((delI zs i j).map (.int .i64))) := by rw [Zd, if_pos rfl, Xi, hl]; rfl
 have lo : ∀ x, x ≠ id → ((s.kill id).put id (.row false T 1 nl ((delI zs i j).map (.int .i64)))).lookup x = (s.lookup x).map (Blk.kill id) := fun x hx => by rw [Zd, if_neg hx, Xi]
 obtain ⟨u1, u2, u3, u4, u5⟩ := upd (γ := γ) (w := w) (w' := w') (X := X) (X' := X) (s := s) (id := id) (h := .slice (some ⟨g, oo, none⟩) zs.length cap) (h' := .slice (some ⟨g, oo, none⟩) (zs.length - (j - i)) cap)
  (blk' := .row false T 1 nl ((delI zs i j).map (.int .i64))) (s' := (s.kill id).put id (.row false T 1 nl ((delI zs i j).map (.int .i64)))) hs hf hhd g1 g2 g3 g4 hsame (fun _ _ _ _ => Iff.rfl)
  (fun k o u hk hc => by cases hk; exact absurd (hown0 o) hc.free) (fun _ _ _ h => h)
  (fun k o hx => Nat.lt_of_lt_of_le (hs.lt k o hx) g4) (.inl rfl) (by
   refine ⟨(delI zs i j).map (Value.int .i64), by simp, .inr (by rw [List.length_map, hdl]; rw [hdl] at hown; exact hown), ⟨fun h => ?_, fun _ => ⟨by simp, Xt _ _ _⟩⟩, fun e he => ?_, fun i e hi j c hj => ?_, fun u hu => ?_, fun b hb o => ?_⟩
   ·have := hrow.nil.1 h; cases this
   ·obtain ⟨z, _, rfl⟩ := List.mem_map.1 he
    simp [PV.cells, PV.cell1]
   ·rw [List.getElem?_map] at hi
    obtain ⟨z, hz, rfl⟩ := map_some hi
    cases j with
    | succ j => simp [PV.cells] at hj
    | zero =>
     simp [PV.cells] at hj
     subst hj
     exact ⟨.int .i64 z, by simp [hz], .int _ _⟩
   ·obtain ⟨z, _, rfl⟩ := List.mem_map.1 hu
    rfl
   ·cases hb
    exact ⟨fun _ => .inl rfl, fun _ => hown0 o⟩)
  lk (fun x hne => .inl (lo x hne))
 exact ⟨_, _, X, q1, .ap _ _ (by simp [addH]) (Xt _ _ _), u1, u2, u3, fun i b hb hbx => by
  unfold addH
  rw [if_neg]
  rintro rfl
  rw [hl] at hb
  simp at hb
  subst hb
  simp [Blk.isBox] at hbx, fun h => by simp [AV.keeps] at h⟩
end
mutual
def PV.same : PV → PV → Bool
 | .bool a, .bool b => a == b
 | .int k n, .int k' n' => decide (k = k') && decide (n = n')
 | .str s, .str t => decide (s.data.toList = t.data.toList)
 | .nilf, .nilf => true
 | .nilp, .nilp => true
 | .sl z n l, .sl z' n' l' => decide (z = z') && decide (n = n') && PV.sameL l l'
 | .agg l, .agg l' => PV.sameL l l'
 | .tup l, .tup l' => PV.sameL l l'
 | _, _ => false
def PV.sameL : List PV → List PV → Bool
 | [], [] => true
 | a :: r, b :: s => PV.same a b && PV.sameL r s
 | _, _ => false
end
mutual
theorem PV.same_eq : ∀ (a b : PV), PV.same a b = true → a = b
 | .bool a, b, h => by cases b <;> simp [PV.same] at h; rw [h]
 | .int k n, b, h => by cases b <;> simp [PV.same] at h; rw [h.1, h.2]
 | .str s, b, h => by
  cases b <;> simp [PV.same] at h
  rename_i t
  cases s; cases t; simp_all
 | .nilf, b, h => by cases b <;> simp [PV.same] at h; rfl
 | .nilp, b, h => by cases b <;> simp [PV.same] at h; rfl
 | .sl z n l, b, h => by
  cases b <;> simp [PV.same] at h
  rw [h.1.1, h.1.2, PV.sameL_eq l _ h.2]
 | .agg l, b, h => by
  cases b <;> simp [PV.same] at h
  rw [PV.sameL_eq l _ h]
 | .tup l, b, h => by
  cases b <;> simp [PV.same] at h
  rw [PV.sameL_eq l _ h]
 | .fn _ _, b, h => by cases b <;> simp [PV.same] at h
 | .ptr _, b, h => by cases b <;> simp [PV.same] at h
 | .und, b, h => by cases b <;> simp [PV.same] at h
theorem PV.sameL_eq : ∀ (a b : List PV), PV.sameL a b = true → a = b
 | [], [], _ => rfl
 | a :: r, b :: s, h => by
  simp only [PV.sameL, Bool.and_eq_true] at h
  rw [PV.same_eq a b h.1, PV.sameL_eq r s h.2]
 | [], _ :: _, h | _ :: _, [], h => by simp [PV.sameL] at h
end
theorem E_told {T : Tab} {O O' : Orc} (h1 : ∀ f g, O' f = some g → ∀ π args s r, g π args s = some r → E T O π f args s = some r) (h2 : ∀ f, O' f = none → O f = none) (m : Nat) : ∀ n, Le (evN T O' m n) (E T O)
 | 0 => fun π f args s r h => by simp [evN] at h
 | n + 1 => fun π f args s r h => by
  unfold evN at h
  split at h
  ·rename_i hy
   subst hy
   rw [E_yld]
   exact Z8f (E_told h1 h2 m n) (runY_fuel h)
  ·rename_i hy
   cases hO : O' f with
   | some g => rw [hO] at h; exact h1 f g hO π args s r h
   | none =>
    rw [hO] at h
    cases hT : T f with
    | some F =>
     rw [hT] at h
     rw [E_fn hy (h2 f hO) hT]
     exact Z8g (E_told h1 h2 m n) (runF_fuel h)
    | none => rw [hT] at h; cases h
def Zh4 (O : Orc) (f0 : Nat) (a0 : PV) (r0 : PV) : Orc := fun f => if f = f0 then some (fun _ args s => match args, s with
 | [.p a], [] => if PV.same a a0 then some (.p r0, []) else none
 | _, _ => none) else O f
theorem E_with {T : Tab} {O : Orc} {f0 : Nat} {a0 r0 : PV} (h0 : ∀ π, E T O π f0 [.p a0] [] = some (.p r0, [])) (m n : Nat) {π : Id} {f : Nat} {args : List AV} {s : Sto} {r : AV × Sto} (ho : ∀ f g, f ≠ f0 → O f = some g → f ≠ Z2) (h : evN T (Zh4 O f0 a0 r0) m n π f args s = some r) : E T O π f args s = some r := by
 refine E_told (O' := Zh4 O f0 a0 r0) (fun f g hf π args s r hr => ?_) (fun f hf => ?_) m n _ _ _ _ _ h
 ·unfold Zh4 at hf
  split at hf
  ·rename_i he
   subst he
   simp only [Option.some.injEq] at hf
   subst hf
   simp only at hr
   split at hr
   ·split at hr
    ·rename_i a hs
     simp only [Option.some.injEq] at hr
     subst hr
     rw [PV.same_eq _ _ hs]
     exact h0 π
    ·cases hr
   ·cases hr
  ·rename_i he
   rw [E_orc (ho f g he hf) hf]
   exact hr
 ·unfold Zh4 at hf
  split at hf
  ·cases hf
  ·exact hf
inductive Sh where
 | bool
 | int (k : IntKind)
 | str
 | sl (sz : Nat) (ag : Bool) (e : List Sh)
mutual
def Cel : Sh → PV → Prop
 | .bool, x => ∃ b, x = .bool b
 | .int k, x => ∃ n, x = .int k n ∧ (Lit.int k n).wf = true
 | .str, x => ∃ s, x = .str s ∧ s.size ≤ maxLen
 | .sl sz ag e, x => ∃ l, x = .sl sz none l ∧ l.length ≤ maxLen ∧ ∀ y ∈ l, CelL e y.cells ∧ y = Nd ag y.cells
def CelL : List Sh → List PV → Prop
 | [], xs => xs = []
 | s :: r, xs => ∃ x ys, xs = x :: ys ∧ Cel s x ∧ CelL r ys
end
theorem Z7g : ∀ {a b : List Sh} {xs ys : List PV}, CelL a xs → CelL b ys → CelL (a ++ b) (xs ++ ys)
 | [], b, xs, ys, h, k => by simp only [CelL] at h; subst h; simpa using k
 | s :: r, b, xs, ys, h, k => by
  simp only [CelL] at h
  obtain ⟨x, zs, rfl, h1, h2⟩ := h
  simp only [List.cons_append, CelL]
  exact ⟨x, zs ++ ys, rfl, h1, Z7g h2 k⟩
theorem Ze5 : ∀ {a : List Sh} {xs : List PV}, CelL a xs → xs.length = a.length
 | [], xs, h => by simp only [CelL] at h; subst h; rfl
 | s :: r, xs, h => by
  simp only [CelL] at h
  obtain ⟨x, zs, rfl, h1, h2⟩ := h
  simp [Ze5 h2]
theorem cel_cell1 {s : Sh} {x : PV} (h : Cel s x) : x.cell1 = true := by
 cases s <;> simp only [Cel] at h
 ·obtain ⟨b, rfl⟩ := h; rfl
 ·obtain ⟨n, rfl, _⟩ := h; rfl
 ·obtain ⟨n, rfl, _⟩ := h; rfl
 ·obtain ⟨l, rfl, _⟩ := h; rfl
theorem Zia : ∀ {a : List Sh} {xs : List PV}, CelL a xs → xs.all PV.cell1 = true
 | [], xs, h => by simp only [CelL] at h; subst h; rfl
 | s :: r, xs, h => by
  simp only [CelL] at h
  obtain ⟨x, zs, rfl, h1, h2⟩ := h
  rw [List.all_cons, cel_cell1 h1, Zia h2]; rfl
def Z93 (P : Program) (r : TypeId → Option (List Sh)) : List Field → Nat → Option (List Sh)
 | [], _ => some []
 | f :: fs, off => match r f.type, Z93 P r fs (off + P.cellsOf f.type) with
  | some s, some q => if s.length = P.cellsOf f.type ∧ f.offset = off then some (s ++ q) else none
  | _, _ => none
def shOf (P : Program) : Nat → TypeId → Option (List Sh)
 | 0, _ => none
 | n + 1, t => match P.underlying t with
  | some .bool => some [.bool]
  | some (.int k) => some [.int k]
  | some .string => some [.str]
  | some (.slice e) => match shOf P n e, agB P e with
   | some s, some ag => if s.length = P.cellsOf e ∧ 0 < P.cellsOf e ∧ (ag = true ∨ s.length = 1) then some [.sl (P.cellsOf e) ag s] else none
   | _, _ => none
  | some (.struct fs) => match Z93 P (shOf P n) fs.toList 0 with
   | some s => if s.length = P.cellsOf t then some s else none
   | none => none
  | some (.array k e) => match shOf P n e with
   | some s => if s.length = P.cellsOf e ∧ k * P.cellsOf e = P.cellsOf t then some (List.replicate k s).flatten else none
   | none => none
  | _ => none
abbrev noX : Own := fun _ _ => False
def RepL (w : World) (cs : List Value) (xs : List PV) : Prop := xs.length = cs.length ∧ ∀ (i : Nat) v x, cs[i]? = some v → xs[i]? = some x → Rep w noX v x
theorem RepL.append {w : World} {a b : List Value} {xs ys : List PV} (h : RepL w a xs) (k : RepL w b ys) : RepL w (a ++ b) (xs ++ ys) := by
 refine ⟨by simp [h.1, k.1], fun i v x hv hx => ?_⟩
 by_cases hi : i < a.length
 ·rw [List.getElem?_append_left hi] at hv
  rw [List.getElem?_append_left (by rw [h.1]; exact hi)] at hx
  exact h.2 i v x hv hx
 ·rw [List.getElem?_append_right (by omega)] at hv
  rw [List.getElem?_append_right (by rw [h.1]; omega), h.1] at hx
  exact k.2 _ v x hv hx
theorem Ze3 {α : Type} (p : Nat → α → Prop) : ∀ (n : Nat), (∀ i, i < n → ∃ x, p i x) → ∃ l : List α, l.length = n ∧ ∀ (i : Nat) x, l[i]? = some x → p i x
 | 0, _ => ⟨[], rfl, fun i x h => by simp at h⟩
 | n + 1, h => by
  obtain ⟨l, h1, h2⟩ := Ze3 p n fun i hi => h i (by omega)
  obtain ⟨x, hx⟩ := h n (by omega)
  refine ⟨l ++ [x], by simp [h1], fun i y hy => ?_⟩
  by_cases hi : i < l.length
  ·rw [List.getElem?_append_left hi] at hy; exact h2 i y hy
  ·rw [List.getElem?_append_right (by omega)] at hy
   have : i = l.length := by
    have := (List.getElem?_eq_some_iff.1 hy).1
    simp at this; omega
   subst this
   simp at hy; subst hy
   rw [h1]; exact hx
section
variable {H : Type} {enc : TypeId × Value → H} {P : Program} {w : World} {base : Nat} {spare : Nat → Bool} {held : Bool}
theorem fields_ok {n fuel : Nat} (ih : ∀ (t : TypeId) (cs : List Value) (x : DataW H × List MemPlace) (m : Nat) (s : List Sh), DataW.trod enc P w base spare held fuel t cs = some x → shOf P m t = some s → ∃ xs, CelL s xs ∧ RepL w cs xs) :
  ∀ (fs : List Field) (off : Nat) (s : List Sh) (cs : List Value), Z93 P (shOf P n) fs off = some s → off + s.length = cs.length → (∀ f ∈ fs, ∃ x, DataW.trod enc P w base spare held fuel f.type ((cs.drop f.offset).take (P.cellsOf f.type)) = some x) →
   ∃ xs, CelL s xs ∧ RepL w (cs.drop off) xs
 | [], off, s, cs, h, hl, _ => by
  simp only [Z93, Option.some.injEq] at h
  subst h
  simp only [List.length_nil, Nat.add_zero] at hl
  refine ⟨[], by simp [CelL], ?_⟩
  rw [List.drop_eq_nil_of_le (by omega)]
  exact ⟨rfl, fun i v x h => by simp at h⟩
 | f :: r, off, s, cs, h, hl, hx => by
  simp only [Z93] at h
  split at h
  case h_2 => cases h
  rename_i s1 q h1 h2
  split at h
  case isFalse => cases h
  rename_i hc
  obtain ⟨hc1, hc2⟩ := hc
  simp only [Option.some.injEq] at h
  subst h
  obtain ⟨x, hfx⟩ := hx f List.mem_cons_self
  obtain ⟨xs, c1, r1⟩ := ih _ _ _ _ _ hfx h1
  rw [List.length_append] at hl
  obtain ⟨ys, c2, r2⟩ := fields_ok ih r (off + P.cellsOf f.type) q cs h2 (by omega) fun g hg => hx g (List.mem_cons_of_mem _ hg)
  refine ⟨xs ++ ys, Z7g c1 c2, ?_⟩
  have : cs.drop off = (cs.drop f.offset).take (P.cellsOf f.type) ++ cs.drop (off + P.cellsOf f.type) := by
   rw [hc2, ← List.drop_drop]
   exact (List.take_append_drop _ _).symm
  rw [this]
  exact r1.append r2
theorem array_ok {fuel m : Nat} {e : TypeId} {s : List Sh} (hs : s.length = P.cellsOf e) (ih : ∀ (cs : List Value) (x : DataW H × List MemPlace), DataW.trod enc P w base spare held fuel e cs = some x → ∃ xs, CelL s xs ∧ RepL w cs xs) :
  ∀ (k : Nat) (cs : List Value), k ≤ m → cs.length = m * P.cellsOf e → (∀ i, i < m → ∃ x, DataW.trod enc P w base spare held fuel e ((cs.drop (i * P.cellsOf e)).take (P.cellsOf e)) = some x) →
   ∃ xs, CelL (List.replicate k s).flatten xs ∧ RepL w (cs.take (k * P.cellsOf e)) xs
 | 0, cs, _, _, _ => ⟨[], by simp [CelL], by simp [RepL]⟩
 | k + 1, cs, hk, hl, hx => by
  obtain ⟨xs, c1, r1⟩ := array_ok hs ih k cs (by omega) hl hx
  obtain ⟨x, hx1⟩ := hx k (by omega)
  obtain ⟨ys, c2, r2⟩ := ih _ _ hx1
  refine ⟨xs ++ ys, ?_, ?_⟩
  ·rw [show List.replicate (k + 1) s = List.replicate k s ++ [s] by rw [List.replicate_succ'], List.flatten_append]
   simpa using Z7g c1 c2
  ·have : cs.take ((k + 1) * P.cellsOf e) = cs.take (k * P.cellsOf e) ++ (cs.drop (k * P.cellsOf e)).take (P.cellsOf e) := by
    rw [Nat.add_mul, Nat.one_mul, List.take_add]
   rw [this]
   exact r1.append r2
theorem trod_rep : ∀ (fuel : Nat) (t : TypeId) (cs : List Value) (x : DataW H × List MemPlace) (m : Nat) (s : List Sh), DataW.trod enc P w base spare held fuel t cs = some x → shOf P m t = some s → ∃ xs, CelL s xs ∧ RepL w cs xs
 | 0, t, cs, x, m, s, h, _ => by simp [DataW.trod] at h
 | fuel + 1, t, cs, x, 0, s, h, hs => by simp [shOf] at hs
 | fuel + 1, t, cs, x, m + 1, s, h, hs => by
  have ih := fun t cs x m s => trod_rep fuel t cs x m s
  have one : ∀ (v : Value) (y : PV), Rep w noX v y → RepL w [v] [y] := fun v y hr => ⟨rfl, fun i u z hu hz => by
   cases i with
   | zero => simp at hu hz; subst hu; subst hz; exact hr
   | succ i => simp at hu⟩
  unfold shOf at hs
  split at hs
  ·rename_i ht
   obtain ⟨b, rfl, _⟩ := DataW.trod_bool ht h
   simp only [Option.some.injEq] at hs
   subst hs
   exact ⟨[.bool b], by simp [CelL, Cel], one _ _ (.bool b)⟩
  ·rename_i k ht
   obtain ⟨n, rfl, _, hw⟩ := DataW.trod_int ht h
   simp only [Option.some.injEq] at hs
   subst hs
   exact ⟨[.int k n], by simp [CelL, Cel, hw], one _ _ (.int k n)⟩
  ·rename_i ht
   obtain ⟨b, rfl, _, hw⟩ := DataW.trod_string ht h
   simp only [Option.some.injEq] at hs
   subst hs
   exact ⟨[.str b], by simp [CelL, Cel, hw], one _ _ (.str b)⟩
  ·rename_i e ht
   split at hs
   case h_2 => cases hs
   rename_i se ag h1 h2
   split at hs
   case isFalse => cases hs
   rename_i hc
   obtain ⟨hc1, hc2, hc3⟩ := hc
   simp only [Option.some.injEq] at hs
   subst hs
   rcases DataW.trod_slice ht h with ⟨rfl, _⟩ | ⟨a, len, cap, elems, rest, n, hn, rfl, _, hb, hlc, hcm, hel, hat, _, _⟩
   ·exact ⟨[.sl (P.cellsOf e) none []], by simp [CelL, Cel, maxLen], one _ _ (.slE none 0 _ none (fun _ => rfl) (fun h => by cases h) (fun _ => rfl) (by simp [maxLen]))⟩
   ·have hn' : n = fuel := by omega
    subst hn'
    obtain ⟨l, hl1, hl2⟩ := Ze3 (fun i (y : PV) => CelL se y.cells ∧ y = Nd ag y.cells ∧ y.cells.length = P.cellsOf e ∧ ∀ (j : Nat) c, y.cells[j]? = some c → ∃ v, w.cell? ((a.add (i * P.cellsOf e)).add j) = some v ∧ Rep w noX v c) len (fun i hi => by
     have he := hat i hi
     obtain ⟨q, hq⟩ : ∃ q, elems[i]? = some q := ⟨elems[i]'(by omega), List.getElem?_eq_getElem _⟩
     rw [hq, Option.bind_eq_some_iff] at he
     obtain ⟨ci, hci, htr⟩ := he
     obtain ⟨xs, c1, r1⟩ := ih _ _ _ _ _ htr h1
     obtain ⟨_, hcl, hcell⟩ := World.cells?_some hci
     have hxl := Ze5 c1
     have hcells : (Nd ag xs).cells = xs := by
      cases ag with
      | true => rfl
      | false =>
       rcases hc3 with h | h
       ·cases h
       ·obtain ⟨y, rfl⟩ : ∃ y, xs = [y] := by
         cases xs with
         | nil => simp at hxl; omega
         | cons y r => cases r with
          | nil => exact ⟨y, rfl⟩
          | cons z r => simp at hxl; omega
        have := Zia c1
        simp only [List.all_cons, List.all_nil, Bool.and_true] at this
        cases y <;> simp [Nd, PV.cells, PV.cell1] at this ⊢
     refine ⟨Nd ag xs, by rw [hcells]; exact c1, by rw [hcells], by rw [hcells]; omega, fun j c hj => ?_⟩
     rw [hcells] at hj
     have hjl : j < P.cellsOf e := by have := (List.getElem?_eq_some_iff.1 hj).1; omega
     have hjc := hcell j hjl
     rw [List.getElem?_eq_getElem (by omega : j < ci.length)] at hjc
     exact ⟨_, hjc, r1.2 j _ c (List.getElem?_eq_getElem (by omega)) hj⟩)
    refine ⟨[.sl (P.cellsOf e) none l], ?_, one _ _ ?_⟩
    ·simp only [CelL, Cel]
     refine ⟨_, [], rfl, ⟨l, rfl, by omega, fun y hy => ?_⟩, rfl⟩
     obtain ⟨i, hi⟩ := List.getElem?_of_mem hy
     obtain ⟨q1, q2, _, _⟩ := hl2 i y hi
     exact ⟨q1, q2⟩
    ·by_cases hl0 : l = []
     ·subst hl0
      simp only [List.length_nil] at hl1
      subst hl1
      exact .slE _ cap _ none (fun h => by cases h) (fun _ => by simp) (fun h => by cases h) hcm
     ·have hspot : a.spot = none := by
       cases l with
       | nil => exact absurd rfl hl0
       | cons y r =>
        obtain ⟨q1, q2, q3, q4⟩ := hl2 0 y (by simp)
        obtain ⟨v, hv, _⟩ := q4 0 (y.cells[0]'(by omega)) (List.getElem?_eq_getElem _)
        have := World.cell?_spot hv
        simpa [Addr.add] using this
      obtain ⟨b, o, spot⟩ := a
      simp only at hspot
      subst hspot
      have key : ∀ (i : Nat) y, l[i]? = some y → ∀ (j : Nat) c, y.cells[j]? = some c → ∃ v, w.cell? ⟨b, o + (i * P.cellsOf e + j), none⟩ = some v ∧ Rep w noX v c := fun i y hi j c hj => by
       obtain ⟨q1, q2, q3, q4⟩ := hl2 i y hi
       obtain ⟨v, hv, hr⟩ := q4 j c hj
       rw [Addr.add_lit, Addr.add_lit] at hv
       exact ⟨v, by rw [← Nat.add_assoc]; exact hv, hr⟩
      rw [← hl1]
      refine .slC b o cap _ none l (fun k => (w.cell? ⟨b, o + k, none⟩).getD undef) (by simp) (by omega) hcm (fun i y hi => ?_) (fun i y hi j c hj => ?_) (fun i y hi j c hj => ?_)
      ·obtain ⟨q1, q2, q3, q4⟩ := hl2 i y hi
       exact ⟨q3, Zia q1⟩
      ·obtain ⟨v, hv, hr⟩ := key i y hi j c hj
       exact ⟨by rw [hv]; rfl, fun h => h⟩
      ·obtain ⟨v, hv, hr⟩ := key i y hi j c hj
       show Rep w noX ((w.cell? ⟨b, o + (i * P.cellsOf e + j), none⟩).getD undef) c
       rw [hv]; exact hr
  ·rename_i fs ht
   split at hs
   case h_2 => cases hs
   rename_i sf hf
   split at hs
   case isFalse => cases hs
   rename_i hlen
   simp only [Option.some.injEq] at hs
   subst hs
   obtain ⟨xs, n, hn, _, hcl, hxl, hat⟩ := DataW.trod_struct ht h
   have hn' : n = fuel := by omega
   subst hn'
   obtain ⟨ys, c1, r1⟩ := fields_ok (n := m) ih fs.toList 0 sf cs hf (by omega) (fun f hf => by
    obtain ⟨i, hi⟩ := List.getElem?_of_mem hf
    have hi' : fs[i]? = some f := by simpa using hi
    have hil : i < xs.length := by have := (Array.getElem?_eq_some_iff.1 hi').1; omega
    exact ⟨xs[i], by rw [hat i f hi']; exact List.getElem?_eq_getElem hil⟩)
   exact ⟨ys, c1, by simpa using r1⟩
  ·rename_i k e ht
   split at hs
   case h_2 => cases hs
   rename_i se hse
   split at hs
   case isFalse => cases hs
   rename_i hc
   simp only [Option.some.injEq] at hs
   subst hs
   obtain ⟨xs, n, hn, _, hcl, hxl, hat⟩ := DataW.trod_array ht h
   have hn' : n = fuel := by omega
   subst hn'
   obtain ⟨ys, c1, r1⟩ := array_ok (m := k) hc.1 (fun cs x hx => ih _ _ _ _ _ hx hse) k cs (Nat.le_refl _) (by rw [hcl]; exact hc.2.symm) (fun i hi => ⟨xs[i]'(by omega), by rw [hat i hi]; exact List.getElem?_eq_getElem _⟩)
   rw [List.take_of_length_le (by rw [hcl, hc.2]; exact Nat.le_refl _)] at r1
   exact ⟨ys, c1, r1⟩
  ·cases hs
theorem arg_rep {t : TypeId} {v : Value} {d : DataW H} {ps : List MemPlace} {m : Nat} {s : List Sh} {ag : Bool} (h : DataW.Trod enc P w base spare held t v d ps) (hs : shOf P m t = some s) (hv : (ag = true ∧ ∃ cs, v = .agg cs) ∨ (ag = false ∧ v.cells = #[v])) :
  ∃ xs, CelL s xs ∧ Rep w noX v (Nd ag xs) := by
 obtain ⟨fuel, hf⟩ := h
 obtain ⟨xs, c1, r1⟩ := trod_rep fuel _ _ _ m s hf hs
 refine ⟨xs, c1, ?_⟩
 rcases hv with ⟨rfl, cs, rfl⟩ | ⟨rfl, hv⟩
 ·exact .agg cs xs (by simpa [Value.cells] using r1.1.symm) fun i v c hv hc => r1.2 i v c (by simpa [Value.cells] using hv) hc
 ·rw [hv] at r1
  obtain ⟨y, rfl⟩ : ∃ y, xs = [y] := by
   have := r1.1
   cases xs with
   | nil => simp at this
   | cons y r => cases r with
    | nil => exact ⟨y, rfl⟩
    | cons z r => simp at this
  exact r1.2 0 v y (by simp) (by simp)
theorem law_calls {C : Call} (hE : FS P C) {k : Nat} {vals : Array Value} {args : List PV} {s' : Sto} (hk : k ≠ Z2) (h : C [] k (args.map AV.p) [] = some (.p (.bool true), s')) (hl : vals.size = args.length)
  (hr : ∀ (i : Nat) v x, vals[i]? = some v → args[i]? = some x → Rep w noX v x) : Calls P k vals w fun e w' => e = .returned (.bool true) ∧ Below w.heap.size w w' := by
 rcases hE _ _ _ _ _ _ h with ⟨h', _⟩ | ⟨_, _, hcall⟩
 ·exact absurd h' hk
 refine (hcall vals (fun _ => none) w noX (by simpa using hl) (fun i v c hv hc => ?_) ⟨fun i v hi => (by cases hi), fun i j v u b hi => (by cases hi), fun _ _ h => h.elim⟩ (fun i b hb => by simp at hb)).mono fun en w' hL => ?_
 ·rw [List.getElem?_map] at hc
  obtain ⟨x, hx, rfl⟩ := map_some hc
  exact .p (hr i v x hv hx)
 ·obtain ⟨v, γ', X', hL⟩ := hL
  have hv := hL.rep.ofP.boolI
  rw [hL.ret, hv]
  exact ⟨rfl, ⟨hL.evo.os, hL.evo.tape, hL.evo.output, hL.evo.size, fun b hb => hL.evo.block b hb fun ⟨i, u, hi, _⟩ => by cases hi⟩⟩
end
end Go.Proofs.YteecfnfjlclhdaaGreat.V
