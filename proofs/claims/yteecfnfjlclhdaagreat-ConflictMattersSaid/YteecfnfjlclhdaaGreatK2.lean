/- Slices that are made, parts of slices, calls with pure copies. Parts of slices; calls with pure copies; all operations of 'evA'. How one block changes; lending. Slices' cells; appends to what has no room. Operations in a frame of a function, or of a round of a range over a function. Maps: the operat -/
import Derived.Test.YteecfnfjlclhdaaGreatK1
import Derived.Laws.IdiomStrings

set_option linter.unusedSimpArgs false
set_option linter.unusedVariables false

/- Slices that are made, parts of slices, calls with pure copies. -/
namespace Go.Proofs.YteecfnfjlclhdaaGreat.V
open Go Go.RowKit
theorem Zce (z : Array Value) (n k : Nat) : (madeCells z n)[k]? = if k < n then some z[k % z.size]! else none := by
 unfold madeCells
 by_cases h : k < n
 ·simp [h]
 ·simp [h]
structure Flat (w : World) (X : Own) (us : Array Value) (l : List PV) (sz : Nat) : Prop where
 size : us.size = l.length * sz
 shape : ∀ e ∈ l, e.cells.length = sz ∧ e.cells.all PV.cell1 = true
 rep : ∀ (i : Nat) e, l[i]? = some e → ∀ (j : Nat) c, e.cells[j]? = some c → ∃ u, us[i * sz + j]? = some u ∧ Rep w X u c
 one : ∀ u ∈ us, u.oneCell' = true
section
variable {P : Program} {K : Act → World → Prop} {Q : Exit → Act → World → Prop} {a : Act} {o : Oper} {γ : Hand} {w : World} {X : Own} {s : Sto}
variable {C : Call} {π : Id} {e : Env} {s0 : Sto} {g : Bool} {d : Nat} {av : AV} {news : Sto} {iop : IOp}
def Z31 (γ : Hand) (w : World) (X : Own) : List (Nat × Value) → List (Nat × Option AV) → Prop
 | [], [] => True
 | (i, v) :: r, (j, x) :: r' => i = j ∧ (∀ av, x = some av → RepA γ w X v av) ∧ Z31 γ w X r r'
 | _, _ => False
theorem Z92 (h1 : ∀ id v, γ id = some v → v.oneCell' = true) {sz : Nat} : ∀ (parts : List (Nat × Value)) (ap : List (Nat × Option AV)) (us : Array Value) (l l' : List PV),
  Z31 γ w X parts ap → Flat w X us l sz → Z6w sz l ap = some l' → ∃ us', Instr.fill (fun i => some (i * sz, sz)) us parts = some us' ∧ Flat w X us' l' sz ∧ l'.length = l.length
 | [], [], us, l, l', _, hf, h => by simp [Z6w] at h; subst h; exact ⟨us, by simp [Instr.fill], hf, rfl⟩
 | (i, v) :: r, (j, x) :: r', us, l, l', hp, hf, h => by
  obtain ⟨rfl, hx, hr⟩ := hp
  cases x with
  | none => simp [Z6w] at h
  | some av =>
   cases av with
   | p p =>
    simp only [Z6w] at h
    split at h
    case isFalse => cases h
    rename_i hc
    obtain ⟨hc1, hc2, hc3⟩ := hc
    obtain ⟨k1, k2, k3⟩ := (hx _ rfl).cells h1 (by simp only [AV.cells, List.all_map]; exact hc3)
    simp only [AV.cells, List.length_map] at k1
    obtain ⟨f1, f2⟩ := fill_get v.cells us (i * sz)
    have hmul : (i + 1) * sz ≤ l.length * sz := Nat.mul_le_mul_right _ hc1
    rw [Nat.add_mul] at hmul
    have hsz := hf.size
    have hle : i * sz + v.cells.size ≤ us.size := by omega
    have hget : ∀ (i' : Nat) e, (l.set i p)[i']? = some e → (i' = i ∧ e = p) ∨ (i' ≠ i ∧ l[i']? = some e) := by
     intro i' e he
     rw [List.getElem?_set] at he
     by_cases h' : i = i'
     ·subst h'
      simp [hc1] at he
      exact .inl ⟨rfl, he.symm⟩
     ·rw [if_neg h'] at he
      exact .inr ⟨fun h => h' h.symm, he⟩
    have hf' : Flat w X (v.cells.zipIdx.foldl (fun cs (c, j) => cs.setIfInBounds (i * sz + j) c) us) (l.set i p) sz := by
     refine ⟨by rw [f1, List.length_set]; exact hf.size, fun e he => ?_, fun i' e he j c hj => ?_, fun u hu => ?_⟩
     ·rcases List.mem_or_eq_of_mem_set he with h | rfl
      ·exact hf.shape e h
      ·exact ⟨hc2, hc3⟩
     ·have hjl : ∀ e : PV, e.cells.length = sz → e.cells[j]? = some c → j < sz := fun e h1 h2 => by have := (List.getElem?_eq_some_iff.1 h2).1; omega
      rcases hget i' e he with ⟨rfl, rfl⟩ | ⟨hne, hl⟩
      ·have hj' := hjl e hc2 hj
       have hlt : j < v.cells.size := by omega
       refine ⟨v.cells[j], ?_, (k2 j v.cells[j] (.p c) (Array.getElem?_eq_getElem hlt) (by simp [AV.cells, hj])).ofP⟩
       rw [f2, if_pos ⟨by omega, by omega, by omega⟩]
       rw [show i' * sz + j - i' * sz = j by omega]
       exact Array.getElem?_eq_getElem hlt
      ·obtain ⟨u, hu, hrep⟩ := hf.rep i' e hl j c hj
       have hj' := hjl e (hf.shape e (List.mem_of_getElem? hl)).1 hj
       refine ⟨u, ?_, hrep⟩
       rw [f2, if_neg ?_]
       ·exact hu
       ·rintro ⟨g1, g2, _⟩
        rcases Nat.lt_or_gt_of_ne hne with h | h
        ·have : (i' + 1) * sz ≤ i * sz := Nat.mul_le_mul_right _ h
         rw [Nat.add_mul] at this; omega
        ·have : (i + 1) * sz ≤ i' * sz := Nat.mul_le_mul_right _ h
         rw [Nat.add_mul] at this; omega
     ·obtain ⟨k, hk⟩ := Array.getElem?_of_mem hu
      rw [f2] at hk
      split at hk
      ·exact k3 u (Array.mem_of_getElem? hk)
      ·exact hf.one u (Array.mem_of_getElem? hk)
    obtain ⟨us', g1, g2, g3⟩ := Z92 h1 r r' _ _ _ hr hf' h
    refine ⟨us', ?_, g2, by rw [g3, List.length_set]⟩
    simp only [Instr.fill]
    have n1 : ¬ (v.cells.size ≠ sz || i * sz + v.cells.size > us.size) = true := by simp; omega
    rw [if_neg n1]
    exact g1
   | _ => simp [Z6w] at h
 | [], _ :: _, _, _, _, hp, _, _ => by simp [Z31] at hp
 | _ :: _, [], _, _, _, hp, _, _ => by simp [Z31] at hp
theorem Z9x {l : List Opd} (H : OpsOk γ w X a e l) (hg : g = true) : ∀ (ps : List (Nat × Operand)) (ip : List (Nat × Opd)), Ur ps ip = true → (∀ x ∈ ip, x.2 ∈ l) →
  Z31 γ w X (ps.map fun x => (x.1, a.eval x.2)) (ip.map fun x => (x.1, evA.x' e g x.2))
 | [], [], _, _ => trivial
 | (i, x) :: r, (j, y) :: r', h, hl => by
  simp only [Ur, Bool.and_eq_true, beq_iff_eq] at h
  exact ⟨h.1.1, fun av hav => H.x' hg h.1.2 hav (hl _ (List.mem_cons_self)), Z9x H hg r r' h.2 fun x hx => hl x (List.mem_cons_of_mem _ hx)⟩
 | [], _ :: _, h, _ => by simp [Ur] at h
 | _ :: _, [], h, _ => by simp [Ur] at h
theorem Zci {T sz : Nat} {ag : Bool} {zero : List PV} (h : elB P T sz ag zero = true) : ∃ i v, P.info? T = some i ∧ i.zero = some v ∧ i.size = sz ∧ i.bytes ≤ 32768 ∧ 0 < sz ∧ v.cells.size = sz ∧ cstL v.cells.toList zero = true ∧
  (Nd ag zero).cells = zero ∧ zero.length = sz ∧ zero.all PV.cell1 = true := by
 unfold elB at h
 simp only [Bool.and_eq_true, beq_iff_eq, decide_eq_true_eq, Bool.or_eq_true] at h
 obtain ⟨⟨⟨⟨⟨h1, h2⟩, h3⟩, h4⟩, h5⟩, h6⟩ := h
 split at h5
 case h_2 => cases h5
 rename_i z hz
 obtain ⟨i, v, hi, hiz, rfl⟩ := Z87 hz
 simp only [Bool.and_eq_true, beq_iff_eq] at h5
 rw [hi] at h6
 unfold szB at h1
 rw [hi] at h1
 simp at h1 h6
 obtain ⟨c1, c2⟩ := Z6c h5.1
 have hall : zero.all PV.cell1 = true := by
  rw [List.all_eq_true]
  intro c hc
  obtain ⟨j, hj⟩ := List.getElem?_of_mem hc
  have hlt : j < v.cells.toList.length := by have := (List.getElem?_eq_some_iff.1 hj).1; omega
  exact (c2 default (fun _ _ => False) j v.cells.toList[j] c (List.getElem?_eq_getElem hlt) hj).2
 refine ⟨i, v, hi, hiz, h1, h6, h3, by simpa using h5.2, h5.1, ?_, by have := h5.2; omega, hall⟩
 cases ag with
 | true => rfl
 | false =>
  simp at h4
  have hl : zero.length = 1 := by have := h5.2; omega
  match zero, hl with
  | [c], _ =>
   simp [Nd]
   simp at hall
   cases c <;> first | rfl | simp [PV.cell1] at hall
theorem Z91 {sz n : Nat} {ag : Bool} {zero : List PV} {v : Value} (hc : cstL v.cells.toList zero = true) (hv : v.cells.size = sz) (he : (Nd ag zero).cells = zero) (hz : zero.length = sz) (ha : zero.all PV.cell1 = true) (h0 : 0 < sz) :
  Flat w X (madeCells v.cells (n * sz)) (List.replicate n (Nd ag zero)) sz := by
 obtain ⟨c1, c2⟩ := Z6c hc
 refine ⟨by simp [size_madeCells], fun e he' => ?_, fun i e hi j c hj => ?_, fun u hu => ?_⟩
 ·simp at he'; rw [he'.2, he]; exact ⟨hz, ha⟩
 ·rw [List.getElem?_replicate] at hi
  split at hi
  ·simp at hi; subst hi
   rename_i hin
   rw [he] at hj
   have hjl : j < sz := by have := (List.getElem?_eq_some_iff.1 hj).1; omega
   have hmul : (i + 1) * sz ≤ n * sz := Nat.mul_le_mul_right _ hin
   rw [Nat.add_mul] at hmul
   rw [Zce, if_pos (by omega), hv]
   have hmod : (i * sz + j) % sz = j := by rw [Nat.mul_comm, Nat.mul_add_mod]; exact Nat.mod_eq_of_lt hjl
   rw [hmod]
   have hlt : j < v.cells.size := by omega
   refine ⟨v.cells[j], by simp [hlt], (c2 w X j _ c ?_ hj).1⟩
   simp [hlt]
  ·cases hi
 ·obtain ⟨k, hk⟩ := Array.getElem?_of_mem hu
  rw [Zce] at hk
  split at hk
  ·simp at hk
   have hlt : k % v.cells.size < v.cells.size := Nat.mod_lt _ (by omega)
   have hz2 : k % v.cells.size < zero.length := by omega
   obtain ⟨r1, r2⟩ := c2 w X (k % v.cells.size) v.cells[k % v.cells.size] zero[k % v.cells.size] (by simp [hlt]) (List.getElem?_eq_getElem hz2)
   have := r1.oneCell r2
   simpa [← hk, hlt] using this
  ·cases hk
theorem Flat.mono {w' : World} {X' : Own} {us : Array Value} {l : List PV} {sz : Nat} (h : Flat w X us l sz) (hm : ∀ b o v, CellAt w X b o v → CellAt w' X' b o v) : Flat w' X' us l sz :=
 ⟨h.size, h.shape, fun i e hi j c hj => let ⟨u, hu, hr⟩ := h.rep i e hi j c hj; ⟨u, hu, hr.mono hm⟩, h.one⟩
theorem row_ok {γ' : Hand} {w1 : World} {X' : Own} {T sz cap : Nat} {l : List PV} {cur us : Array Value} (hf : Flat w1 X' us l sz) (hh : w1.heap[w.heap.size]? = some (.cells cur T (0, 0)))
  (hcap : l.length ≤ cap) (hm : cap ≤ maxLen) (hs : cur.size = cap * sz) (ht : cur.toList.take (l.length * sz) = us.toList) (hX : ∀ o, X' w.heap.size o) :
  BlkOk P γ' w1 X' (.slice (some ⟨w.heap.size, 0, none⟩) l.length cap) (.row false T sz false l) := by
 refine ⟨us.toList, by simpa using hf.size, .inr (Z8h ⟨by simpa using hf.size, .inr ⟨w.heap.size, cap, cur, rfl, Nat.zero_le _, hh, hcap, hm, hs, ht⟩⟩), ⟨fun h => (by cases h), fun _ => ⟨by simp, Xt _ _ _⟩⟩, hf.shape, fun i e hi j c hj => ?_, fun u hu => hf.one u (by simpa using hu), fun b hb o => ?_⟩
 ·obtain ⟨u, hu, hr⟩ := hf.rep i e hi j c hj
  exact ⟨u, by simpa using hu, hr⟩
 ·simp [hblk] at hb
  subst hb
  exact ⟨fun _ => .inl rfl, fun _ => hX o⟩
theorem ok_bsl (T sz : Nat) (ag : Bool) (zero : List PV) (n : Nat) (parts : List (Nat × Opd)) : NewOk P C π (.bsl T sz ag zero n parts) := by
 intro K Q a o γ w X s e s0 g d av news h hm hg H hs sub hnew hK
 obtain ⟨dst, op, type, pos, after, guard⟩ := o
 simp only [evA] at h
 split at h
 ·cases h
 obtain ⟨l, hl, he⟩ := map_some h
 simp at he; obtain ⟨rfl, rfl⟩ := he
 simp only [mop] at hm
 split at hm
 case h_2 => cases hm
 rename_i t n' ps
 simp only [Bool.and_eq_true, beq_iff_eq, decide_eq_true_eq] at hm
 obtain ⟨⟨⟨⟨rfl, ht⟩, hel⟩, hn⟩, hp⟩ := hm
 have hu := Z3b ht
 obtain ⟨i, v, hi, hiz, hsz, hby, h0, hvs, hc, hec, hzl, hza⟩ := Zci hel
 obtain ⟨hid, hlk⟩ := hnew _ _ (Mj _ _)
 obtain ⟨us', f1, f2, f3⟩ := Z92 hs.one _ _ _ _ _ (Z9x H hg ps.toList parts hp fun x hx => by simp only [IOp.opds]; exact List.mem_map.2 ⟨x, hx, rfl⟩) (Z91 (w := w) (X := X) (n := n') hc hvs hec hzl hza h0) hl
 have hll : l.length = n' := by simpa using f3
 have hrun : (Instr.buildSlice t n' (ps.map fun x => (x.1, a.eval x.2))).run P w = .ok (.slice (some ⟨w.heap.size, 0, none⟩) n' n') (w.alloc (.cells us' T)) := by
  have hf : Instr.fill (fun i => some (i * sz, sz)) (madeCells v.cells (n' * sz)) (ps.map fun x => (x.1, a.eval x.2)).toList = some us' := by simpa using f1
  have hnn : ¬ (16777216 < n' * sz) := by omega
  by_cases hz : n' * sz = 0
  ·have hm0 : madeCells v.cells (n' * sz) = #[] := by rw [hz]; simp [madeCells, Array.range_zero']
   rw [hm0] at hf
   simp [Instr.buildSlice, run_underlying hu, sizeOf, typeInfo, hi, hsz, hz]
   simp [Array.range_zero'] at *
   simp [hf, newRow]
  ·have hm0 : ((Array.range (n' * sz)).map fun x => v.cells[x % v.cells.size]!) = madeCells v.cells (n' * sz) := rfl
   simp [Instr.buildSlice, run_underlying hu, sizeOf, typeInfo, hi, hsz, hnn, hz, zeroValue, hiz]
   rw [hm0]
   simp at hf
   simp [hf, newRow]
 have hml : n' ≤ maxLen := by
  have : n' * 1 ≤ n' * sz := Nat.mul_le_mul_left _ h0
  simp only [maxLen]; omega
 have hm := f2.mono (fun b o v (h : CellAt w X b o v) => h.grow (Yr w (.cells us' T)))
 have hok := row_ok (P := P) (γ' := addH γ (d :: π) (.slice (some ⟨w.heap.size, 0, none⟩) n' n')) (cap := n') hm (heap_alloc_new w _) (by omega) hml (by rw [f2.size, hll]) (List.take_of_length_le (by have := f2.size; simp; omega)) (fun o => .inr rfl)
 rw [hll] at hok
 refine Zd4 (h := .slice (some ⟨w.heap.size, 0, none⟩) n' n') (v := .slice (some ⟨w.heap.size, 0, none⟩) n' n') hs (Yr w _) (by simp) hid hlk rfl hok ?_ (.ap _ _ (by simp [addH]) (Xt _ _ _)) hK
 simp only [execOp, Sem.run_bind]; rw [hrun]; rfl
theorem ok_mks (T sz : Nat) (ag : Bool) (zero : List PV) (n cap : Opd) : NewOk P C π (.mks T sz ag zero n cap) := by
 intro K Q a o γ w X s e s0 g d av news h hm hg H hs sub hnew hK
 obtain ⟨dst, op, type, pos, after, guard⟩ := o
 simp only [evA] at h
 split at h
 case h_2 => cases h
 rename_i m c hn hcp
 split at h
 ·cases h
 split at h
 case isFalse => cases h
 rename_i hmc
 simp at h; obtain ⟨rfl, rfl⟩ := h
 simp only [mop] at hm
 split at hm
 case h_2 => cases hm
 rename_i t n' c'
 simp only [Bool.and_eq_true, beq_iff_eq] at hm
 obtain ⟨⟨⟨ht, hel⟩, hn1⟩, hc1⟩ := hm
 have hu := Z3b ht
 obtain ⟨i, v, hi, hiz, hsz, hby, h0, hvs, hc, hec, hzl, hza⟩ := Zci hel
 obtain ⟨hid, hlk⟩ := hnew _ _ (Mj _ _)
 obtain ⟨kn, jn, hjn, hjn0, rfl⟩ := nat?_some hn
 obtain ⟨kc, jc, hjc, hjc0, rfl⟩ := nat?_some hcp
 have hv1 := (H.pv hg hn1 hjn (by simp [IOp.opds])).intI
 have hv2 := (H.pv hg hc1 hjc (by simp [IOp.opds])).intI
 have hroom : jc ≤ 4294967296 := by have := hmc.2; simp only [room] at this; omega
 have hb : (i.bytes : Int) * jc ≤ 281474976710656 := by
  have h1 : (i.bytes : Int) * jc ≤ 32768 * jc := Int.mul_le_mul_of_nonneg_right (by omega) hjc0
  omega
 have hrun := run_make (P := P) w t T i v hu hi hiz kn kc jn jc hjn0 (by omega) hb (by omega)
 rw [hsz] at hrun
 have hf := (Z91 (w := w) (X := X) (n := jn.toNat) hc hvs hec hzl hza h0).mono (fun b o v' (h : CellAt w X b o v') => h.grow (Yr w (.cells (madeCells v.cells (jc.toNat * sz)) T)))
 have hmul : jn.toNat * sz ≤ jc.toNat * sz := Nat.mul_le_mul_right _ (by omega)
 have hok := row_ok (P := P) (γ' := addH γ (d :: π) (.slice (some ⟨w.heap.size, 0, none⟩) jn.toNat jc.toNat)) (cap := jc.toNat) hf (heap_alloc_new w _) (by simp; omega) (by simp only [maxLen]; omega) (size_madeCells _ _) (by
  simp only [List.length_replicate]
  apply List.ext_getElem?
  intro k
  rw [List.getElem?_take, Array.getElem?_toList, Array.getElem?_toList, Zce, Zce]
  split
  ·rw [if_pos (by omega)]
  ·rfl) (fun o => .inr rfl)
 simp only [List.length_replicate] at hok
 refine Zd4 (h := .slice (some ⟨w.heap.size, 0, none⟩) jn.toNat jc.toNat) (v := .slice (some ⟨w.heap.size, 0, none⟩) jn.toNat jc.toNat) hs (Yr w _) (by simp) hid hlk rfl hok ?_ (.ap _ _ (by simp [addH]) (Xt _ _ _)) hK
 simp only [execOp, Sem.run_bind, hv1, hv2]; rw [hrun]; rfl
theorem flat_sl {w1 : World} {b T : Nat} {l : List PV} {us : Array Value} {sz : Nat} {fr : Nat × Nat} (hf : Flat w1 X us l sz) (hb : w1.heap[b]? = some (.cells us T fr)) (hX : ∀ o, ¬ X b o) (hl : l.length ≤ maxLen) :
  Rep w1 X (.slice (some ⟨b, 0, none⟩) l.length l.length) (.sl sz (some false) l) := by
 refine Rep.slC b 0 l.length sz (some false) l (fun k => us.getD k undef) (by simp) (Nat.le_refl _) hl (fun i e hi => hf.shape e (List.mem_of_getElem? hi)) (fun i e hi j c hj => ?_) (fun i e hi j c hj => ?_)
 ·obtain ⟨u, hu, hr⟩ := hf.rep i e hi j c hj
  refine ⟨?_, hX _⟩
  rw [cell_of_row w1 b _ us T fr hb]
  simp [Array.getD_eq_getD_getElem?, hu]
 ·obtain ⟨u, hu, hr⟩ := hf.rep i e hi j c hj
  have : us.getD (i * sz + j) undef = u := by simp [Array.getD_eq_getD_getElem?, hu]
  show Rep w1 X (us.getD (i * sz + j) undef) c
  rw [this]
  exact hr
theorem ok_bsp (T sz : Nat) (ag : Bool) (zero : List PV) (n : Nat) (parts : List (Nat × Opd)) : PureOk P C π (.bsp T sz ag zero n parts) := by
 intro K Q a o γ w X s e s0 g d av news h hm hg H hs sub hK
 obtain ⟨dst, op, type, pos, after, guard⟩ := o
 simp only [evA] at h
 obtain ⟨l, hl, he⟩ := map_some h
 simp at he; obtain ⟨rfl, rfl⟩ := he
 simp only [mop] at hm
 split at hm
 case h_2 => cases hm
 rename_i t n' ps
 simp only [Bool.and_eq_true, beq_iff_eq, decide_eq_true_eq] at hm
 obtain ⟨⟨⟨⟨rfl, ht⟩, hel⟩, hn⟩, hp⟩ := hm
 have hu := Z3b ht
 obtain ⟨i, v, hi, hiz, hsz, hby, h0, hvs, hc, hec, hzl, hza⟩ := Zci hel
 obtain ⟨us', f1, f2, f3⟩ := Z92 hs.one _ _ _ _ _ (Z9x H hg ps.toList parts hp fun x hx => by simp only [IOp.opds]; exact List.mem_map.2 ⟨x, hx, rfl⟩) (Z91 (w := w) (X := X) (n := n') hc hvs hec hzl hza h0) hl
 have hll : l.length = n' := by simpa using f3
 have hrun : (Instr.buildSlice t n' (ps.map fun x => (x.1, a.eval x.2))).run P w = .ok (.slice (some ⟨w.heap.size, 0, none⟩) n' n') (w.alloc (.cells us' T)) := by
  have hf : Instr.fill (fun i => some (i * sz, sz)) (madeCells v.cells (n' * sz)) (ps.map fun x => (x.1, a.eval x.2)).toList = some us' := by simpa using f1
  have hnn : ¬ (16777216 < n' * sz) := by omega
  by_cases hz : n' * sz = 0
  ·have hm0 : madeCells v.cells (n' * sz) = #[] := by rw [hz]; simp [madeCells, Array.range_zero']
   rw [hm0] at hf
   simp [Instr.buildSlice, run_underlying hu, sizeOf, typeInfo, hi, hsz, hz]
   simp [Array.range_zero'] at *
   simp [hf, newRow]
  ·have hm0 : ((Array.range (n' * sz)).map fun x => v.cells[x % v.cells.size]!) = madeCells v.cells (n' * sz) := rfl
   simp [Instr.buildSlice, run_underlying hu, sizeOf, typeInfo, hi, hsz, hnn, hz, zeroValue, hiz]
   rw [hm0]
   simp at hf
   simp [hf, newRow]
 have hml : n' ≤ maxLen := by
  have : n' * 1 ≤ n' * sz := Nat.mul_le_mul_left _ h0
  simp only [maxLen]; omega
 have hb := Yr w (.cells us' T)
 have hnew : (w.alloc (.cells us' T)).heap[w.heap.size]? = some (.cells us' T (0, 0)) := heap_alloc_new w _
 have hm := f2.mono (w' := w.alloc (.cells us' T)) (X' := X) (fun b o v (h : CellAt w X b o v) => ⟨(Y5 ((Yr w (.cells us' T)).block b h.lt)).trans h.cell, h.free⟩)
 generalize w.alloc (.cells us' T) = w1 at hrun hb hnew hm
 obtain ⟨g1, g2⟩ := grow (γ := γ) (γ' := γ) (w := w) (w' := w1) (X := X) (X' := X) hs hb (fun _ _ h => h) (fun _ _ _ => Iff.rfl) (fun b o hx => Nat.lt_of_lt_of_le (hs.lt b o hx) hb.size)
  (fun i h' hi hn => by rw [hn] at hi; cases hi) (fun i j h k b hi _ hi' _ _ _ => by rw [hi] at hi'; cases hi')
 unfold Oper.wp
 have : (execOp a.eval ⟨dst, .buildSlice t n' ps, type, pos, after, guard⟩).run P w = .ok (.value (.slice (some ⟨w.heap.size, 0, none⟩) n' n')) w1 := by
  simp only [execOp, Sem.run_bind]; rw [hrun]; rfl
 rw [this]
 refine hK _ γ w1 X g2 g1 (fun _ _ h => h) (fun _ _ h => .inl h) (fun _ _ h => by cases h) (.p ?_)
 have hX : ∀ o, ¬ X w.heap.size o := fun o hx => by have := hs.lt _ _ hx; omega
 have := flat_sl hm hnew hX (by omega)
 rw [hll] at this
 exact this
end
def Z0q (P : Program) (f : Nat) : Prop := ∃ fn, P.funcs[f]? = some fn ∧ fn.body.isSome = true ∧ (fn.name == "runtime.NumGoroutine") = false
def Blk.isBox : Blk → Bool
 | .row .. => false
 | _ => true
structure Left (P : Program) (γ : Hand) (w : World) (X : Own) (s : Sto) (r : AV) (s' : Sto) (e : Ending) (w' : World) (v : Value) (γ' : Hand) (X' : Own) : Prop where
 ret : e = .returned v
 rep : RepA γ' w' X' v r
 sto : StoOk P γ' w' X' s'
 full : Full γ' s'
 evo : Evo γ w X γ' w' X'
 box : ∀ id b, s.lookup id = some b → b.isBox = true → γ' id = γ id
 stay : r.keeps = true → ∀ id b, s.lookup id = some b → γ' id = γ id
def RoundC (P : Program) (args : List AV) (s : Sto) (r : AV) (s' : Sto) : Prop := ∃ vs id, args = vs ++ [.yld id] ∧
 ∀ (ro : Option Nat) (kk : Nat) (vals : Array Value) (l : Nat) (γ : Hand) (w : World) (X : Own), vals.size = vs.length → (∀ (i : Nat) v c, vals[i]? = some v → vs[i]? = some c → RepA γ w X v c) → γ id = some (.func (.yield l) #[] #[]) → StoOk P γ w X s → Full γ s →
  ∃ f tmps as bd, (Instr.yield l vals).run P w = .ok (.round l f tmps as bd) w ∧ RoundIn (WR ro) kk P l f tmps as bd w fun e w' => ∃ v γ' X', Left P γ w X s r s' e w' v γ' X'
def FS (P : Program) (C : Call) : Prop := ∀ π f args s r s', C π f args s = some (r, s') → (f = Z2 ∧ RoundC P args s r s') ∨ (f ≠ Z2 ∧ Z0q P f ∧
 ∀ (vals : Array Value) (γ : Hand) (w : World) (X : Own), vals.size = args.length → (∀ (i : Nat) v c, vals[i]? = some v → args[i]? = some c → RepA γ w X v c) → StoOk P γ w X s → Full γ s →
  Calls P f vals w fun e w' => ∃ v γ' X', Left P γ w X s r s' e w' v γ' X')
section
variable {P : Program} {K : Act → World → Prop} {Q : Exit → Act → World → Prop} {a : Act} {o : Oper} {γ : Hand} {w : World} {X : Own} {s : Sto}
variable {C : Call} {π : Id} {e : Env} {s0 : Sto} {g : Bool} {d : Nat} {av : AV} {news : Sto} {iop : IOp}
theorem Z1d {f : Nat} (h : Z0q P f) (args : Array Value) (w : World) : (callFunc f args).run P w = .ok (.enter f args) w := by
 obtain ⟨fn, h1, h2, h3⟩ := h
 have h3' : ¬ fn.name = "runtime.NumGoroutine" := by simpa using h3
 cases hb : fn.body with
 | none => simp [hb] at h2
 | some c => simp [callFunc, h1, hb, h3']
theorem Zcd {l : List Opd} (H : OpsOk γ w X a e l) (hg : g = true) : ∀ (xs : List Operand) (ys : List Opd) (vs : List AV), mopdL xs ys = true → ys.mapM (evA.x' e g) = some vs → (∀ y ∈ ys, y ∈ l) →
  xs.length = vs.length ∧ ∀ (i : Nat) v c, (xs.map a.eval)[i]? = some v → vs[i]? = some c → RepA γ w X v c
 | [], [], vs, _, h, _ => by simp at h; subst h; simp
 | x :: xs, y :: ys, vs, hm, h, hsub => by
  simp only [mopdL, Bool.and_eq_true] at hm
  obtain ⟨b, l', hb, hl', rfl⟩ := Nb h
  obtain ⟨h1, h2⟩ := Zcd H hg xs ys l' hm.2 hl' fun y hy => hsub y (List.mem_cons_of_mem _ hy)
  refine ⟨by simp [h1], fun i v c hv hc => ?_⟩
  cases i with
  | zero => simp at hv hc; subst hv; subst hc; exact H.x' hg hm.1 hb (hsub y (List.mem_cons_self))
  | succ i => exact h2 i v c (by simpa using hv) (by simpa using hc)
 | [], _ :: _, _, hm, _, _ => by simp [mopdL] at hm
 | _ :: _, [], _, hm, _, _ => by simp [mopdL] at hm
def joinH (γ γ' : Hand) : Hand := fun id => match γ id with | some h => some h | none => γ' id
theorem scalRep {w' : World} {X' : Own} {v : Value} {x : PV} (h : Rep w X v x) : x.scal = true → Rep w' X' v x := by
 have lst : ∀ (cs : List PV) (i : Nat) c, PV.scal.PV.scalL cs = true → cs[i]? = some c → c.scal = true := by
  intro cs
  induction cs with
  | nil => intro i c _ h; simp at h
  | cons a r ih =>
   intro i c hs h
   simp only [PV.scal.PV.scalL, Bool.and_eq_true] at hs
   cases i with
   | zero => simp at h; subst h; exact hs.1
   | succ i => exact ih i c hs.2 (by simpa using h)
 induction h with
 | bool b => exact fun _ => .bool b
 | int k n => exact fun _ => .int k n
 | str s => exact fun _ => .str s
 | nilf => exact fun _ => .nilf
 | nilp => exact fun _ => .nilp
 | und => exact fun _ => .und
 | agg vs cs hl _ ih => exact fun hs => .agg vs cs hl fun i v c hv hc => ih i v c hv hc (lst cs i c (by simpa [PV.scal] using hs) hc)
 | tup vs cs hl _ ih => exact fun hs => .tup vs cs hl fun i v c hv hc => ih i v c hv hc (lst cs i c (by simpa [PV.scal] using hs) hc)
 | _ => intro hs; simp [PV.scal] at hs
theorem stoEmpty {w : World} {X : Own} (h : ∀ b o, X b o → b < w.heap.size) : StoOk P (fun _ => none) w X [] := ⟨fun _ _ h => (by cases h), fun _ _ _ _ _ h => (by cases h), h⟩
theorem Zgp {f : Nat} {ps : List PV} {vals : Array Value} {r : AV} {X0 : Own} (hE : FS P C) (hc : C π f (ps.map AV.p) [] = some (r, news))
  (hl : vals.size = ps.length) (hr : ∀ (i : Nat) v c, vals[i]? = some v → ps[i]? = some c → Rep w X0 v c) (hX : ∀ b o, X0 b o → b < w.heap.size) :
  Z0q P f ∧ Calls P f vals w fun e w' => ∃ v γ' X', Left P (fun _ => none) w X0 [] r news e w' v γ' X' := by
 rcases hE π f _ _ _ _ hc with ⟨_, vs, id, he, _⟩ | ⟨_, h1, h2⟩
 ·exfalso
  have hm : AV.yld id ∈ ps.map AV.p := by rw [he]; simp
  obtain ⟨x, _, hx⟩ := List.mem_map.1 hm
  cases hx
 refine ⟨h1, h2 vals _ w X0 (by simpa using hl) (fun i v c hv hc' => ?_) (stoEmpty hX) fun id b h => by simp at h⟩
 simp only [List.getElem?_map, Option.map_eq_some_iff] at hc'
 obtain ⟨c', hc', rfl⟩ := hc'
 exact .p (hr i v c' hv hc')
theorem Evo.below {w' : World} {X' : Own} {γ' : Hand} {X0 : Own} (h : Evo (fun _ => none) w X0 γ' w' X') : Below w.heap.size w w' :=
 ⟨h.os, h.tape, h.output, h.size, fun k hk => h.block k hk (fun ⟨_, _, hh, _⟩ => by cases hh)⟩
theorem join_grow {w' : World} {γ' : Hand} {X' : Own} {r : AV} {v : Value} {en : Ending} (hs : StoOk P γ w X s) (hL : Left P (fun _ => none) w X [] r news en w' v γ' X')
  (hnew : ∀ id b, news.lookup id = some b → γ id = none ∧ s.lookup id = some b) :
  Evo γ w X (joinH γ γ') w' X' ∧ StoOk P (joinH γ γ') w' X' s ∧ (∀ id h, γ id = some h → joinH γ γ' id = some h) ∧ (∀ id h, joinH γ γ' id = some h → γ id = some h ∨ ∃ b, news.lookup id = some b) ∧
   (∀ id b, news.lookup id = some b → (joinH γ γ' id).isSome) ∧ RepA (joinH γ γ') w' X' v r := by
 have hb := hL.evo.below
 have hX : ∀ b o, b < w.heap.size → (X' b o ↔ X b o) := fun b o hlt => ⟨hL.evo.less b o hlt, hL.evo.keep b o hlt (fun ⟨_, _, hh, _⟩ => by cases hh)⟩
 have newH : ∀ id h, γ' id = some h → γ id = none ∧ ∃ b, news.lookup id = some b ∧ BlkOk P γ' w' X' h b := fun id h hh => by
  obtain ⟨b, hb1, hb2⟩ := hL.sto.blk id h hh
  exact ⟨(hnew id b hb1).1, b, hb1, hb2⟩
 have sub : ∀ id v, γ' id = some v → joinH γ γ' id = some v := fun id v h => by unfold joinH; rw [(newH id v h).1]; exact h
 obtain ⟨g1, g2⟩ := grow (γ := γ) (γ' := joinH γ γ') hs hb (fun id h hh => by unfold joinH; rw [hh]) hX hL.sto.lt
  (fun id h hh hn => by
   unfold joinH at hh
   rw [hn] at hh
   obtain ⟨_, b, hb1, hb3⟩ := newH id h hh
   refine ⟨⟨b, (hnew id b hb1).2, hb3.mono (fun _ _ => rfl) (fun _ _ _ h => h) (fun _ _ _ => Iff.rfl) fun id _ v hv => sub id v hv⟩, fun k hk => ?_⟩
   rcases Nat.lt_or_ge k w.heap.size with hlt | hge
   ·obtain ⟨_, _, hh', _⟩ := hL.evo.owned k hlt ⟨id, h, hh, hk⟩; cases hh'
   ·exact hge)
  (fun i j h k b hi hj hi' hj' hbi hbj => by
   unfold joinH at hi' hj'
   rw [hi] at hi'
   rw [hj] at hj'
   exact hL.sto.apart i j h k b hi' hj' hbi hbj)
 refine ⟨g2, g1, fun id h hh => by unfold joinH; rw [hh], fun id h hh => ?_, fun id b hib => ?_, hL.rep.mono (fun _ _ _ h => h) fun id _ v hv => sub id v hv⟩
 ·cases hg : γ id with
  | some h0 => unfold joinH at hh; rw [hg] at hh; exact .inl hh
  | none =>
   unfold joinH at hh; rw [hg] at hh
   obtain ⟨_, b, hb1, _⟩ := newH id h hh
   exact .inr ⟨b, hb1⟩
 ·have := hL.full id b hib
  obtain ⟨h, hh⟩ := Option.isSome_iff_exists.1 this
  rw [sub id h hh]; rfl
theorem getP_p {v : AV} (h : (v.getP).isSome = true) : ∃ x, v = .p x := by
 cases v <;> simp [AV.getP] at h
 exact ⟨_, rfl⟩
theorem slc_rep {v : Value} {sz cap lo hi : Nat} {nl : Option Bool} {l : List PV} {b : Option Addr} (hr : Rep w X v (.sl sz nl l)) (hv : v = .slice b l.length cap) (h1 : lo ≤ hi) (h2 : hi ≤ l.length) :
  hi ≤ cap ∧ Rep w X (.slice (if cap = lo then b else b.map (·.add (lo * sz))) (hi - lo) (cap - lo)) (.sl sz nl (seg lo hi l)) := by
 cases hr with
 | slE b cap sz nl k1 k2 k0 km =>
  simp only [Value.slice.injEq] at hv
  obtain ⟨rfl, _, rfl⟩ := hv
  have : lo = 0 := by simp at h2; omega
  have : hi = 0 := by simp at h2; omega
  subst lo; subst hi
  refine ⟨Nat.zero_le _, ?_⟩
  simp only [seg, List.drop_nil, List.take_nil, Nat.sub_zero]
  refine .slE _ cap sz nl (fun h => ?_) (fun h => ?_) ?_ km
  ·split
   ·exact k1 h
   ·rw [k1 h]; rfl
  ·split
   ·exact k2 h
   ·intro he; exact k2 h (by simpa using he)
  ·intro h
   have : b = none := by
    split at h
    ·exact h
    ·simpa using h
   exact k0 this
 | slC bb oo cap sz nl l f k1 hn hM hz hc hh =>
  simp only [Value.slice.injEq] at hv
  obtain ⟨rfl, _, rfl⟩ := hv
  refine ⟨by omega, ?_⟩
  by_cases he : lo = hi
  ·subst he
   have : seg lo lo l = [] := by simp [seg]
   rw [this, Nat.sub_self]
   refine .slE _ _ sz nl (fun h => absurd h k1) (fun _ => ?_) (fun h => ?_) (by omega)
   ·split <;> simp
   ·split at h <;> simp at h
  ·have hne : ¬ cap = lo := by omega
   rw [if_neg hne]
   simp only [Option.map_some, Addr.add_lit]
   have hlen := Z2g (l := l) h2 h1
   have := Rep.slC (w := w) (X := X) bb (oo + lo * sz) (cap - lo) sz nl (seg lo hi l) (fun k => f (lo * sz + k)) k1 (by omega) (by omega)
    (fun i e hi' => hz _ e (Z73 hi').1)
    (fun i e hi' j c hj => by
     have := hc _ e (Z73 hi').1 j c hj
     have e1 : oo + lo * sz + (i * sz + j) = oo + ((lo + i) * sz + j) := by rw [Nat.add_mul]; omega
     have e2 : lo * sz + (i * sz + j) = (lo + i) * sz + j := by rw [Nat.add_mul]; omega
     show CellAt w X bb (oo + lo * sz + (i * sz + j)) (f (lo * sz + (i * sz + j)))
     rw [e1, e2]; exact this)
    (fun i e hi' j c hj => by
     have := hh _ e (Z73 hi').1 j c hj
     have e2 : lo * sz + (i * sz + j) = (lo + i) * sz + j := by rw [Nat.add_mul]; omega
     show Rep w X (f (lo * sz + (i * sz + j))) c
     rw [e2]; exact this)
   rw [hlen] at this
   exact this
theorem Vf {k : IntKind} {i : Int} {y : Nat} (h0 : 0 ≤ i) (h1 : i.toNat ≤ y) (code : BoundsCode) : (Instr.sliceBound (.int k i) y code).run P w = .ok i.toNat w := by
 have : i ≤ (y : Int) := by omega
 simp [Instr.sliceBound, asIntOf, h0, this]
theorem ok_slc (str : Bool) (x : Opd) (lo hi : Option Opd) (sz : Nat) : PureOk P C π (.slc str x lo hi sz) := by
 intro K Q a o γ w X s e s0 g d av news h hm hg H hs sub hK
 obtain ⟨dst, op, type, pos, after, guard⟩ := o
 simp only [mop] at hm
 split at hm
 case h_2 => cases hm
 rename_i t x' lo' hi' mx
 simp only [Bool.and_eq_true] at hm
 obtain ⟨⟨⟨⟨ht, hmx⟩, hx⟩, hlo⟩, hhi⟩ := hm
 have hmx' : mx = none := by simpa using hmx
 subst hmx'
 have bnd : ∀ (dflt : Nat) (y : Option Opd) (y' : Option Operand) (n : Nat), mopdO y' y = true → (∀ z, y = some z → z ∈ (IOp.slc str x lo hi sz).opds) → nat? (y.elim (some (.int .i64 (dflt : Int))) (evA.pv e g)) = some n →
   (y' = none ∧ n = dflt) ∨ ∃ z k i, y' = some z ∧ a.eval z = .int k i ∧ 0 ≤ i ∧ i.toNat = n := by
  intro dflt y y' n hm hmem hn
  cases y with
  | none =>
   cases y' with
   | none => simp [nat?] at hn; exact .inl ⟨rfl, hn.symm⟩
   | some z => simp [mopdO] at hm
  | some y =>
   cases y' with
   | none => simp [mopdO] at hm
   | some z =>
    simp only [mopdO] at hm
    obtain ⟨k, i, hi, h0, h1⟩ := nat?_some hn
    exact .inr ⟨z, k, i, rfl, (H.pv hg hm hi (hmem y rfl)).intI, h0, h1⟩
 have mlo : ∀ z, lo = some z → z ∈ (IOp.slc str x lo hi sz).opds := fun z hz => by simp [IOp.opds, hz]
 have mhi : ∀ z, hi = some z → z ∈ (IOp.slc str x lo hi sz).opds := fun z hz => by simp [IOp.opds, hz]
 simp only [evA] at h
 split at h
 ·rename_i sz' nl l n1 hp hn1
  split at h
  case h_2 => cases h
  rename_i n2 hn2
  split at h
  case isFalse => cases h
  rename_i hc
  obtain ⟨rfl, rfl, hc1, hc2⟩ := hc
  simp at h; obtain ⟨rfl, rfl⟩ := h
  have hr := (H.x' hg hx hp (by simp [IOp.opds])).ofP
  obtain ⟨b, cap, hv⟩ := Zcu hr
  obtain ⟨q1, q2⟩ := slc_rep hr hv hc1 hc2
  have e1 := bnd 0 lo lo' n1 hlo mlo hn1
  have e2 := bnd l.length hi hi' n2 hhi mhi hn2
  split at ht
  ·simp at ht
  ·rename_i el hu
   have hsz : szB P el = some sz' := by simpa using ht
   refine Zt (v := .slice (if cap = n1 then b else b.map (·.add (n1 * sz'))) (n2 - n1) (cap - n1)) hs ?_ (.p q2) hK
   have hbounds : (Instr.sliceBounds true l.length cap (lo'.map a.eval) (hi'.map a.eval) none).run P w = .ok (n1, n2, cap) w := by
    rcases e2 with ⟨rfl, rfl⟩ | ⟨z2, k2, i2, rfl, hz2, h20, rfl⟩
    ·rcases e1 with ⟨rfl, rfl⟩ | ⟨z1, k1, i1, rfl, hz1, h10, rfl⟩
     ·simp [Instr.sliceBounds]
     ·simp [Instr.sliceBounds, hz1, Vf h10 hc1]
    ·rcases e1 with ⟨rfl, rfl⟩ | ⟨z1, k1, i1, rfl, hz1, h10, rfl⟩
     ·simp [Instr.sliceBounds, hz2, Vf h20 q1]
     ·simp [Instr.sliceBounds, hz2, Vf h20 q1, hz1, Vf h10 hc1]
   simp [execOp, Instr.sliceAt, run_underlying hu, hv, Instr.slice, hbounds, Wy hsz]
  ·cases ht
 ·rename_i bs n1 hp hn1
  split at h
  case h_2 => cases h
  rename_i n2 hn2
  split at h
  case isFalse => cases h
  rename_i hc
  obtain ⟨rfl, hc1, hc2⟩ := hc
  simp at h; obtain ⟨rfl, rfl⟩ := h
  have hv := (H.x' hg hx hp (by simp [IOp.opds])).ofP.strI
  have e1 := bnd 0 lo lo' n1 hlo mlo hn1
  have e2 := bnd bs.size hi hi' n2 hhi mhi hn2
  split at ht
  ·rename_i hu
   refine Zt (v := .string (bs.extract n1 n2)) hs ?_ (.p (.str _)) hK
   have hbounds : (Instr.sliceBounds false bs.size bs.size (lo'.map a.eval) (hi'.map a.eval) none).run P w = .ok (n1, n2, bs.size) w := by
    rcases e2 with ⟨rfl, rfl⟩ | ⟨z2, k2, i2, rfl, hz2, h20, rfl⟩
    ·rcases e1 with ⟨rfl, rfl⟩ | ⟨z1, k1, i1, rfl, hz1, h10, rfl⟩
     ·simp [Instr.sliceBounds]
     ·simp [Instr.sliceBounds, hz1, Vf h10 hc1]
    ·rcases e1 with ⟨rfl, rfl⟩ | ⟨z1, k1, i1, rfl, hz1, h10, rfl⟩
     ·simp [Instr.sliceBounds, hz2, Vf h20 hc2]
     ·simp [Instr.sliceBounds, hz2, Vf h20 hc2, hz1, Vf h10 hc1]
   simp [execOp, Instr.sliceAt, run_underlying hu, hv, Instr.slice, hbounds]
  ·simp at ht
  ·cases ht
 ·cases h
end
theorem Fs (f : Id × Blk → Id × Blk) (hf : ∀ x, (f x).1 = x.1) (i : Id) : ∀ (s : Sto), (s.map f).lookup i = (s.lookup i).map fun b => (f (i, b)).2
 | [] => rfl
 | (j, b) :: r => by
  rw [List.map_cons]
  have hj := hf (j, b)
  cases hfx : f (j, b) with
  | mk k c =>
   rw [hfx] at hj
   simp only at hj
   subst hj
   rw [List.lookup_cons, List.lookup_cons]
   by_cases he : i = k
   ·subst he; simp [hfx]
   ·have : (i == k) = false := by simpa using he
    simp only [this]
    exact Fs f hf i r
theorem Zd (s : Sto) (id i : Id) (b : Blk) : (s.put id b).lookup i = if i = id then (s.lookup i).map (fun _ => b) else s.lookup i := by
 unfold Sto.put
 rw [Fs _ (fun x => by split <;> rfl)]
 split
 ·rename_i h; subst h; simp
 ·rename_i h
  cases s.lookup i with
  | none => rfl
  | some c => simp [h]
theorem Xi (s : Sto) (id i : Id) : (s.kill id).lookup i = (s.lookup i).map (Blk.kill id) := by
 exact Fs (fun x => (x.1, x.2.kill id)) (fun _ => rfl) i s
theorem Z3h (s : Sto) (ids : List Id) (i : Id) : (s.lend ids).lookup i = (s.lookup i).map fun b => if ids.contains i then b.lend else b := by
 unfold Sto.lend
 rw [Fs _ (fun x => by split <;> rfl)]
 cases s.lookup i with
 | none => rfl
 | some c => simp only [Option.map_some]; split <;> rfl
theorem Zhj (e : Env) (id : Id) (t : Nat) : (e.kill id).lookup t = (e.lookup t).map (AV.kill id) := by
 unfold Env.kill
 induction e with
 | nil => rfl
 | cons x r ih =>
  obtain ⟨j, b⟩ := x
  rw [List.map_cons, List.lookup_cons, List.lookup_cons]
  by_cases he : t = j
  ·subst he; simp
  ·have : (t == j) = false := by simpa using he
   simp only [this]
   exact ih
section
variable {P : Program} {γ γ' : Hand} {w w' : World} {X X' : Own} {s : Sto}
theorem Zh9 {id : Id} {v : Value} {av : AV} (h : RepA γ w X v av) (hm : ∀ b o v, CellAt w X b o v → CellAt w' X' b o v) (hγ : ∀ i v, i ≠ id → γ i = some v → γ' i = some v) : RepA γ' w' X' v (av.kill id) := by
 unfold AV.kill
 split
 ·exact .top v
 ·rename_i hn
  refine h.mono hm fun i hi v hv => hγ i v (fun he => ?_) hv
  subst he
  exact hn (by simpa using hi)
theorem kill_blk {id : Id} {h : Value} {blk : Blk} (hb : BlkOk P γ w X h blk) (hk : ∀ b, hblk h = some b → w'.heap[b]? = w.heap[b]?) (hm : ∀ b o v, CellAt w X b o v → CellAt w' X' b o v)
  (hX : ∀ b, hblk h = some b → ∀ o, X' b o ↔ X b o) (hγ : ∀ i v, i ≠ id → γ i = some v → γ' i = some v) : BlkOk P γ' w' X' h (blk.kill id) := by
 cases blk with
 | row lent T sz nl l => exact hb.mono hk hm hX (fun i hi => by simp [Blk.ids] at hi)
 | box lent cs =>
  obtain ⟨b, c, T, hb⟩ := hb
  have e : hblk h = some b := by rw [hb.hand]; rfl
  refine ⟨b, c, T, hb.hand, (hk b e).trans hb.heap, by simpa using hb.size, hb.one, fun i v a hv ha => ?_, fun o => (hX b e o).trans (hb.own o)⟩
  simp only [List.getElem?_map, Option.map_eq_some_iff] at ha
  obtain ⟨a', ha', rfl⟩ := ha
  exact Zh9 (hb.rep i v a' hv ha') hm hγ
 | frm π nt e ps as bd st =>
  obtain ⟨l, r, hb⟩ := hb
  refine ⟨l, r, hb.hand, (hk l (by rw [hb.hand]; rfl)).trans hb.heap, hb.params, hb.assign, hb.body, hb.size, fun t av ht => ?_, hb.st⟩
  have ht' : (Env.kill e id).lookup t = some av := ht
  rw [Zhj] at ht'
  obtain ⟨av', hav, rfl⟩ := map_some ht'
  obtain ⟨v, hv, hr⟩ := hb.env t av' hav
  exact ⟨v, hv, Zh9 hr hm hγ⟩
 | mpb l => exact hb.mono hk hm hX (fun i hi => by simp [Blk.ids] at hi)
theorem upd {id : Id} {h h' : Value} {blk' : Blk} {s' : Sto} (hs : StoOk P γ w X s) (hf : Full γ s) (hid : γ id = some h)
  (hos : w'.os = w.os) (htape : w'.tape = w.tape) (hout : w'.output = w.output) (hsize : w.heap.size ≤ w'.heap.size)
  (hsame : ∀ b, b < w.heap.size → hblk h ≠ some b → w'.heap[b]? = w.heap[b]?) (hX : ∀ b o, b < w.heap.size → hblk h ≠ some b → (X' b o ↔ X b o))
  (hcell : ∀ b o v, hblk h = some b → CellAt w X b o v → CellAt w' X' b o v) (hless : ∀ b o, hblk h = some b → X' b o → X b o) (hlt : ∀ b o, X' b o → b < w'.heap.size)
  (hh' : hblk h' = hblk h ∨ ∀ b, hblk h' = some b → w.heap.size ≤ b) (hblk' : BlkOk P (addH γ id h') w' X' h' blk')
  (hl : s'.lookup id = some blk') (hoth : ∀ i, i ≠ id → s'.lookup i = (s.lookup i).map (Blk.kill id) ∨ (s'.lookup i = s.lookup i ∧ h' = h)) :
  StoOk P (addH γ id h') w' X' s' ∧ Full (addH γ id h') s' ∧ Evo γ w X (addH γ id h') w' X' ∧ (∀ b o v, CellAt w X b o v → CellAt w' X' b o v) ∧ (∀ i v, i ≠ id → γ i = some v → addH γ id h' i = some v) := by
 have hγ : ∀ i v, i ≠ id → γ i = some v → addH γ id h' i = some v := fun i v hne hv => by unfold addH; rw [if_neg hne]; exact hv
 have hm : ∀ b o v, CellAt w X b o v → CellAt w' X' b o v := fun b o v hc => by
  by_cases hb : hblk h = some b
  ·exact hcell b o v hb hc
  ·exact ⟨(Y5 (hsame b hc.lt hb)).trans hc.cell, fun hx => hc.free ((hX b o hc.lt hb).1 hx)⟩
 have old : ∀ i hi, γ i = some hi → ∀ b, hblk hi = some b → b < w.heap.size := fun i hi hg b hk => by
  obtain ⟨bb, _, hbk⟩ := hs.blk i hi hg
  exact hbk.lt b hk
 have ne : ∀ i hi b, i ≠ id → γ i = some hi → hblk hi = some b → hblk h ≠ some b := fun i hi b hne hg hk he => hne (hs.apart i id hi h b hg hid hk he)
 refine ⟨⟨fun i hi hg => ?_, fun i j hi hj b hgi hgj hbi hbj => ?_, hlt⟩, fun i b hb => ?_, ⟨hos, htape, hout, hsize, fun b hb ho => hsame b hb fun he => ho ⟨id, h, hid, he⟩, hm, fun b o hb hx => ?_, fun b o hb ho hx => (hX b o hb fun he => ho ⟨id, h, hid, he⟩).2 hx, fun b hb ⟨i, v, hg, hk⟩ => ?_⟩, hm, hγ⟩
 ·by_cases he : i = id
  ·subst he
   unfold addH at hg
   simp at hg; subst hg
   exact ⟨blk', hl, hblk'⟩
  ·unfold addH at hg
   rw [if_neg he] at hg
   obtain ⟨bb, hbl, hbk⟩ := hs.blk i hi hg
   have k1 := fun b (hk : hblk hi = some b) => hsame b (hbk.lt b hk) (ne i hi b he hg hk)
   have k2 := fun b (hk : hblk hi = some b) o => hX b o (hbk.lt b hk) (ne i hi b he hg hk)
   rcases hoth i he with h1 | ⟨h1, h2⟩
   ·exact ⟨bb.kill id, by rw [h1, hbl]; rfl, kill_blk hbk k1 hm k2 hγ⟩
   ·refine ⟨bb, by rw [h1, hbl], hbk.mono k1 hm k2 fun j _ v hv => ?_⟩
    by_cases hj : j = id
    ·subst hj; rw [hid] at hv; unfold addH; simp [h2]; exact Option.some.inj hv
    ·exact hγ j v hj hv
 ·unfold addH at hgi hgj
  by_cases hii : i = id
  ·rw [if_pos hii] at hgi
   by_cases hjj : j = id
   ·rw [hii, hjj]
   ·rw [if_neg hjj] at hgj
    have := Option.some.inj hgi
    subst this
    rcases hh' with e | e
    ·rw [e] at hbi; exact absurd hbi (ne j hj b hjj hgj hbj)
    ·have := e b hbi; have := old j hj hgj b hbj; omega
  ·rw [if_neg hii] at hgi
   by_cases hjj : j = id
   ·rw [if_pos hjj] at hgj
    have := Option.some.inj hgj
    subst this
    rcases hh' with e | e
    ·rw [e] at hbj; exact absurd hbj (ne i hi b hii hgi hbi)
    ·have := e b hbj; have := old i hi hgi b hbi; omega
   ·rw [if_neg hjj] at hgj
    exact hs.apart i j hi hj b hgi hgj hbi hbj
 ·unfold addH
  by_cases he : i = id
  ·simp [he]
  ·rw [if_neg he]
   rcases hoth i he with h1 | ⟨h1, _⟩
   ·rw [h1] at hb
    obtain ⟨c, hc, _⟩ := map_some hb
    exact hf i c hc
   ·rw [h1] at hb
    exact hf i b hb
 ·by_cases hk : hblk h = some b
  ·exact hless b o hk hx
  ·exact (hX b o hb hk).1 hx
 ·unfold addH at hg
  by_cases he : i = id
  ·rw [if_pos he] at hg
   have := Option.some.inj hg
   subst this
   rcases hh' with e | e
   ·rw [e] at hk; exact ⟨id, h, hid, hk⟩
   ·have := e b hk; omega
  ·rw [if_neg he] at hg
   exact ⟨i, v, hg, hk⟩
def lendX (γ : Hand) (s : Sto) (X : Own) (ids : List Id) : Own := fun b o => X b o ∧ ¬ ∃ id h blk, id ∈ ids ∧ γ id = some h ∧ hblk h = some b ∧ s.lookup id = some blk ∧ blk.win h o
theorem Z9z (hs : StoOk P γ w X s) (hf : Full γ s) (ids : List Id) : StoOk P γ w (lendX γ s X ids) (s.lend ids) ∧ Full γ (s.lend ids) ∧ Evo γ w X γ w (lendX γ s X ids) ∧
  (∀ id ∈ ids, ∀ h blk b, γ id = some h → s.lookup id = some blk → hblk h = some b → ∀ o, blk.win h o → ¬ lendX γ s X ids b o) := by
 have hm : ∀ b o v, CellAt w X b o v → CellAt w (lendX γ s X ids) b o v := fun b o v h => ⟨h.cell, fun hx => h.free hx.1⟩
 have mem : ∀ i, (ids.contains i = true) ↔ i ∈ ids := fun i => by simp
 refine ⟨⟨fun i h hi => ?_, hs.apart, fun b o hx => hs.lt b o hx.1⟩, fun i b hb => ?_, ⟨rfl, rfl, rfl, Nat.le_refl _, fun _ _ _ => rfl, hm, fun b o _ hx => hx.1, fun b o _ ho hx => ⟨hx, fun ⟨i, h, _, _, hi, hk, _⟩ => ho ⟨i, h, hi, hk⟩⟩, fun _ _ h => h⟩,
  fun id hid h blk b hg hl hk o hw hx => hx.2 ⟨id, h, blk, hid, hg, hk, hl, hw⟩⟩
 ·obtain ⟨blk, hl, hb⟩ := hs.blk i h hi
  refine ⟨_, by rw [Z3h, hl]; rfl, ?_⟩
  have other : ids.contains i = false → ∀ b, hblk h = some b → ∀ o, lendX γ s X ids b o ↔ X b o := fun hc b hk o => ⟨fun hx => hx.1, fun hx => ⟨hx, fun ⟨j, h', blk', hj, hg, hk', _⟩ => by
   have := hs.apart i j h h' b hi hg hk hk'
   subst this
   rw [(mem i).2 hj] at hc; cases hc⟩⟩
  cases hc : ids.contains i with
  | false =>
   simp only [Bool.false_eq_true, if_false]
   exact hb.mono (fun _ _ => rfl) hm (other hc) fun _ _ _ h => h
  | true =>
   simp only [if_true]
   have hmem := (mem i).1 hc
   cases blk with
   | box lent cs =>
    obtain ⟨b, c, T, hb⟩ := hb
    have e : hblk h = some b := by rw [hb.hand]; rfl
    exact ⟨b, c, T, hb.hand, hb.heap, hb.size, hb.one, fun i v a hv ha => (hb.rep i v a hv ha).mono hm fun _ _ _ h => h,
     fun o => ⟨fun hx => absurd ⟨i, h, _, hmem, hi, e, hl, trivial⟩ hx.2, fun h => by cases h⟩⟩
   | row lent T sz nl l =>
    obtain ⟨xs, hb⟩ := hb
    refine ⟨xs, hb.len, hb.at0, hb.nil, hb.shape, fun i e hi j c hj => let ⟨u, hu, hr⟩ := hb.rep i e hi j c hj; ⟨u, hu, hr.mono hm⟩, hb.one, fun b e o => ⟨fun hx => ?_, fun hx => ?_⟩⟩
    ·rcases Nat.lt_or_ge o (hoff h + l.length * sz) with hlt | hge
     ·exact absurd ⟨i, h, _, hmem, hi, e, hl, hlt⟩ hx.2
     ·exact .inr hge
    ·rcases hx with hx | hx
     ·cases hx
     ·refine ⟨(hb.own b e o).2 (.inr hx), fun ⟨j, h', blk', hj, hg, hk', hl', hw⟩ => ?_⟩
      have := hs.apart i j h h' b hi hg e hk'
      subst this
      rw [hl] at hl'
      simp at hl'
      subst hl'
      rw [hi] at hg
      cases hg
      simp only [Blk.win] at hw
      omega
   | frm π nt e ps as bd st =>
    obtain ⟨l, r, hb⟩ := hb
    refine ⟨l, r, hb.hand, hb.heap, hb.params, hb.assign, hb.body, hb.size, fun t av ht => ?_, hb.st⟩
    obtain ⟨v, hv, hr⟩ := hb.env t av ht
    exact ⟨v, hv, hr.mono hm fun _ _ _ h => h⟩
   | mpb l =>
    obtain ⟨r, es, cl, hb⟩ := hb
    exact ⟨r, es, cl, hb.hand, hb.heap, hb.size, fun i e k v he hl => let ⟨h1, h2⟩ := hb.rep i e k v he hl; ⟨h1.mono hm, h2.mono hm⟩, hb.uniq⟩
 ·rw [Z3h] at hb
  obtain ⟨c, hc, _⟩ := map_some hb
  exact hf i c hc
theorem Z90 (hs : StoOk P γ w X s) (hf : Full γ s) {v : Value} {av : AV} {x : PV} {s' : Sto} (hr : RepA γ w X v av) (h : Z4 s av = some (x, s')) :
  ∃ X', StoOk P γ w X' s' ∧ Full γ s' ∧ Evo γ w X γ w X' ∧ Rep w X' v x ∧ (∀ i b, s'.lookup i = some b → ∃ b', s.lookup i = some b' ∧ b'.isBox = b.isBox) ∧ (∀ i b, s.lookup i = some b → ∃ b', s'.lookup i = some b' ∧ b'.isBox = b.isBox) := by
 unfold Z4 at h
 split at h
 ·simp at h
  obtain ⟨rfl, rfl⟩ := h
  exact ⟨X, hs, hf, Evo.refl _ _ _, hr.ofP, fun i b h => ⟨b, h, rfl⟩, fun i b h => ⟨b, h, rfl⟩⟩
 ·obtain ⟨y, hy, he⟩ := map_some h
  simp at he
  obtain ⟨rfl, rfl⟩ := he
  obtain ⟨h1, h2, h3, h4⟩ := Z9z hs hf (reach s depth av)
  refine ⟨_, h1, h2, h3, Zgu hs h3.cell h4 depth av v y hr hy fun _ h => h, fun i b hb => ?_, fun i b hb => ?_⟩
  ·rw [Z3h] at hb
   obtain ⟨c, hc, rfl⟩ := map_some hb
   refine ⟨c, hc, ?_⟩
   split <;> cases c <;> rfl
  ·rw [Z3h, hb]
   refine ⟨_, rfl, ?_⟩
   split <;> cases b <;> rfl
theorem Z67 : ∀ (avs : List AV) {X : Own} {s : Sto} (vs : Nat → Value) {xs : List PV} {s' : Sto}, StoOk P γ w X s → Full γ s → (∀ (i : Nat) a, avs[i]? = some a → RepA γ w X (vs i) a) → Z03 s avs = some (xs, s') →
  ∃ X', StoOk P γ w X' s' ∧ Full γ s' ∧ Evo γ w X γ w X' ∧ xs.length = avs.length ∧ (∀ (i : Nat) x, xs[i]? = some x → Rep w X' (vs i) x) ∧
   (∀ i b, s'.lookup i = some b → ∃ b', s.lookup i = some b' ∧ b'.isBox = b.isBox) ∧ (∀ i b, s.lookup i = some b → ∃ b', s'.lookup i = some b' ∧ b'.isBox = b.isBox)
 | [], X, s, vs, xs, s', hs, hf, _, h => by
  simp [Z03] at h
  obtain ⟨rfl, rfl⟩ := h
  exact ⟨X, hs, hf, Evo.refl _ _ _, rfl, fun i x h => by simp at h, fun i b h => ⟨b, h, rfl⟩, fun i b h => ⟨b, h, rfl⟩⟩
 | a :: r, X, s, vs, xs, s', hs, hf, hr, h => by
  simp only [Z03] at h
  split at h
  case h_2 => cases h
  rename_i x s1 h1
  split at h
  case h_2 => cases h
  rename_i l s2 h2
  simp at h
  obtain ⟨rfl, rfl⟩ := h
  obtain ⟨X1, a1, a2, a3, a4, a5, a6⟩ := Z90 hs hf (hr 0 a rfl) h1
  obtain ⟨X2, b1, b2, b3, b4, b5, b6, b7⟩ := Z67 r (fun i => vs (i + 1)) a1 a2 (fun i a ha => (hr (i + 1) a ha).mono a3.cell fun _ _ _ h => h) h2
  refine ⟨X2, b1, b2, a3.trans b3, by simp [b4], fun i y hy => ?_, fun i b hb => ?_, fun i b hb => ?_⟩
  ·cases i with
   | zero => simp at hy; subst hy; exact a4.mono b3.cell
   | succ i => exact b5 i y (by simpa using hy)
  ·obtain ⟨b', q1, q2⟩ := b6 i b hb
   obtain ⟨b'', q3, q4⟩ := a5 i b' q1
   exact ⟨b'', q3, q4.trans q2⟩
  ·obtain ⟨b', q1, q2⟩ := a6 i b hb
   obtain ⟨b'', q3, q4⟩ := b7 i b' q1
   exact ⟨b'', q3, q4.trans q2⟩
end
theorem Q1 {s : Sto} {id : Id} (h : ¬ s.has id = true) : s.lookup id = none := by
 unfold Sto.has at h
 cases hl : s.lookup id with
 | none => rfl
 | some b => rw [hl] at h; simp at h
section
variable {P : Program} {C : Call} {π : Id} {γ γ' : Hand} {w w' : World} {X X' : Own} {s : Sto} {e : Env} {a : Act}
theorem StoOk.noHand (hs : StoOk P γ w X s) {id : Id} (h : s.lookup id = none) : γ id = none := by
 cases hg : γ id with
 | none => rfl
 | some v => obtain ⟨b, hb, _⟩ := hs.blk id v hg; rw [h] at hb; cases hb
theorem lookup_append (n s : Sto) (i : Id) : (n ++ s).lookup i = match n.lookup i with | some b => some b | none => s.lookup i := by
 induction n with
 | nil => rfl
 | cons x r ih =>
  obtain ⟨j, b⟩ := x
  rw [List.cons_append, List.lookup_cons, List.lookup_cons]
  split
  ·rfl
  ·exact ih
theorem StoOk.more (hs : StoOk P γ w X s) (news : Sto) (h : ∀ i, γ i ≠ none → news.lookup i = none) : StoOk P γ w X (news ++ s) :=
 ⟨fun i v hi => by
  obtain ⟨b, hb, hk⟩ := hs.blk i v hi
  refine ⟨b, ?_, hk⟩
  rw [lookup_append, h i (by rw [hi]; simp)]
  exact hb, hs.apart, hs.lt⟩
theorem Zgy (hs : StoOk P γ w X s) {sz : Nat} (h0 : 0 < sz) {v : Value} {av : AV} {l : List PV} (hr : RepA γ w X v av) (h : rowOf s sz av = some l) :
  ∃ (a2 : Option Addr) (c2 : Nat) (news : Array Value), v = .slice a2 l.length c2 ∧ Flat w X news l sz ∧ (l = [] ∨ ∃ b o, a2 = some ⟨b, o, none⟩ ∧ ∀ (k : Nat) u, news[k]? = some u → w.cell? ⟨b, o + k, none⟩ = some u) := by
 cases hr with
 | p hp =>
  rename_i x
  obtain ⟨nl0, rfl⟩ : ∃ nl, x = .sl sz nl l := by
   cases x <;> simp only [rowOf] at h <;> try (cases h; done)
   split at h
   ·rename_i hsz; simp at h; subst h; subst hsz; exact ⟨_, rfl⟩
   ·cases h
  cases hp with
  | slE b cap _ _ k1 k2 k0 km => exact ⟨b, cap, #[], rfl, ⟨by simp, by simp, by simp, by simp⟩, .inl rfl⟩
  | slC bb oo cap _ _ _ f k1 hn hM hz hc hh =>
   have inr : ∀ (i : Nat) e, l[i]? = some e → ∀ (j : Nat) c, e.cells[j]? = some c → i * sz + j < l.length * sz := by
    intro i e hi j c hj
    have h1 := (List.getElem?_eq_some_iff.1 hi).1
    have h2 := (List.getElem?_eq_some_iff.1 hj).1
    rw [(hz i e hi).1] at h2
    have : (i + 1) * sz ≤ l.length * sz := Nat.mul_le_mul_right _ h1
    rw [Nat.add_mul] at this
    omega
   have split : ∀ k, k < l.length * sz → ∃ i e j c, l[i]? = some e ∧ e.cells[j]? = some c ∧ k = i * sz + j := by
    intro k hk
    have hi : k / sz < l.length := (Nat.div_lt_iff_lt_mul h0).2 hk
    have hj : k % sz < sz := Nat.mod_lt _ h0
    have he : l[k / sz]? = some l[k / sz] := List.getElem?_eq_getElem hi
    have hlt : k % sz < (l[k / sz]).cells.length := by rw [(hz _ _ he).1]; exact hj
    refine ⟨k / sz, _, k % sz, _, he, List.getElem?_eq_getElem hlt, ?_⟩
    have := Nat.div_add_mod k sz
    rw [Nat.mul_comm] at this
    omega
   refine ⟨_, cap, ((List.range (l.length * sz)).map f).toArray, rfl, ⟨by simp, fun e he => ?_, fun i e hi j c hj => ⟨f (i * sz + j), ?_, hh i e hi j c hj⟩, fun u hu => ?_⟩, .inr ⟨bb, oo, rfl, fun k u hk => ?_⟩⟩
   ·obtain ⟨i, hi⟩ := List.getElem?_of_mem he
    exact hz i e hi
   ·simp [inr i e hi j c hj]
   ·simp at hu
    obtain ⟨k, hk, rfl⟩ := hu
    obtain ⟨i, e, j, c, hi, hj, rfl⟩ := split k hk
    exact (hh i e hi j c hj).oneCell (List.all_eq_true.1 (hz i e hi).2 c (List.mem_of_getElem? hj))
   ·have hkl : k < l.length * sz := by
     have := (Array.getElem?_eq_some_iff.1 hk).1
     simpa using this
    simp [hkl] at hk
    subst hk
    obtain ⟨i, e, j, c, hi, hj, rfl⟩ := split k hkl
    exact (hc i e hi j c hj).cell
 | ap0 id a0 hγ =>
  simp only [rowOf] at h
  split at h
  case h_2 => cases h
  rename_i b1 T1 sz' nl1 l' hl
  split at h
  case isFalse => cases h
  rename_i hsz
  simp at h
  subst h; subst hsz
  obtain ⟨blk, hb1, hb2⟩ := hs.blk id _ hγ
  rw [hl] at hb1
  simp at hb1
  subst hb1
  obtain ⟨xs, hrow⟩ := hb2
  obtain ⟨rfl, rfl⟩ := hrow.zero
  exact ⟨a0, 0, #[], rfl, ⟨by simp, by simp, by simp, by simp⟩, .inl rfl⟩
 | ap id v hγ hz =>
  simp only [rowOf] at h
  split at h
  case h_2 => cases h
  rename_i b1 T1 sz' nl1 l' hl
  split at h
  case isFalse => cases h
  rename_i hsz
  simp at h
  subst h; subst hsz
  obtain ⟨blk, hb1, hb2⟩ := hs.blk id _ hγ
  rw [hl] at hb1
  simp at hb1
  subst hb1
  obtain ⟨xs, hrow⟩ := hb2
  have hflat : Flat w X xs.toArray l' sz' := ⟨by simpa using hrow.len, hrow.shape, fun i e hi j c hj => by
   obtain ⟨u, hu, hr⟩ := hrow.rep i e hi j c hj
   exact ⟨u, by simpa using hu, hr⟩, fun u hu => hrow.one u (by simpa using hu)⟩
  rcases (hrow.rows hz).2 with ⟨rfl, hn⟩ | ⟨g, oo, cap, cur, rfl, hg, _, _, _, ht⟩
  ·exact ⟨none, 0, xs.toArray, by rw [hn], hflat, .inl (List.eq_nil_of_length_eq_zero hn)⟩
  ·refine ⟨_, cap, xs.toArray, rfl, hflat, .inr ⟨g, oo, rfl, fun k u hk => ?_⟩⟩
   rw [cell_of_row w g _ cur T1 (0, 0) hg]
   have h2 : xs[k]? = some u := by simpa using hk
   rw [← ht, List.getElem?_take] at h2
   split at h2
   ·rw [List.getElem?_drop] at h2; simpa using h2
   ·cases h2
 | _ => simp [rowOf] at h
theorem Ld {t ty T : TypeId} {sz : Nat} (ht : P.underlying t = some (.slice T)) (hsz : szB P T = some sz) (b a2 : Option Addr) (n cap c2 : Nat) (hn : n ≤ cap) (hb : b = none → n = 0) :
  (Builtin.append_ #[t, t] ty #[.slice b n cap, .slice a2 0 c2]).run P w = .ok (.slice b n cap) w := by
 have hf : (Builtin.firstCells sz 0 (.slice a2 0 c2)).run P w = .ok #[] w := by
  cases a2 <;> simp [Builtin.firstCells, loadCells, loadCellsFrom]
 cases b with
 | none => simp [Builtin.append_, run_underlying ht, Wy hsz, Builtin.lenOf, hn, hf]
 | some ad => simp [Builtin.append_, run_underlying ht, Wy hsz, Builtin.lenOf, hn, hf, storeCells]
theorem Zdd {T : TypeId} {i : TypeInfo} {z : Value} {n m : Nat} {xs news : List Value} (hzs : z.cells.size = i.size) (hlo : xs.length = n * i.size) (hl : news.length = m * i.size) (h63 : n + m ≤ maxLen) (old : Nat) :
  rowAt (w.drew.alloc (.cells (xs.toArray ++ news.toArray ++ Builtin.zeroCells z.cells (grownCap w (n + m) old T - (n + m))) T)) T i.size
   (.slice (some ⟨w.heap.size, 0, none⟩) (n + m) (grownCap w (n + m) old T)) (n + m) (xs ++ news) := by
 have hlen : (xs ++ news).length = (n + m) * i.size := by rw [List.length_append, hlo, hl, Nat.add_mul]
 have hge := grownCap_ge w (n + m) old T
 have hcm : grownCap w (n + m) old T ≤ maxLen := grownCap_le_maxLen w (n + m) old T h63
 refine ⟨hlen, .inr ⟨w.heap.size, 0, _, _, rfl, heap_alloc_new w.drew _, hge, hcm, Nat.le_of_eq ?_, ?_⟩⟩
 ·simp only [Array.size_append, List.size_toArray, size_zeroCells, hzs, hlo, hl, ← Nat.add_mul, Nat.zero_add]
  congr 1
  omega
 ·simp only [Array.toList_append, List.append_assoc, List.drop_zero]
  rw [← List.append_assoc, ← hlen]
  exact List.take_left
theorem Z74 (t ty e : TypeId) (i : TypeInfo) (ht : P.underlying t = some (.slice e)) (hi : P.info? e = some i)
  (g oo sLen sCap : Nat) (cur : Array Value) (hg : w.heap[g]? = some (.cells cur e (0, 0)))
  (a : Addr) (m c : Nat) (news : List Value) (hl : news.length = m * i.size) (hnews : ∀ (j : Nat) u, news[j]? = some u → w.cell? (a.add j) = some u) (h1 : ∀ u ∈ news, u.oneCell' = true)
  (hroom : sLen + m ≤ sCap) (hfit : oo + sLen * i.size + news.length ≤ cur.size) :
  (Builtin.append_ #[t, t] ty #[.slice (some ⟨g, oo, none⟩) sLen sCap, .slice (some a) m c]).run P w =
   .ok (.slice (some ⟨g, oo, none⟩) (sLen + m) sCap) (w.setRow g (cur.toList.take (oo + sLen * i.size) ++ news ++ cur.toList.drop (oo + sLen * i.size + news.length)).toArray) := by
 have hf := run_firstCells_some (P := P) w i.size m a m c news hl hnews
 have hst := run_storeCells_at P g (oo + sLen * i.size) e news 0 cur w hg (by simpa using hfit) h1
 simp only [Nat.add_zero] at hst
 simp [Builtin.append_, run_underlying ht, sizeOf, typeInfo, hi, Builtin.lenOf, hroom, hf, Addr.add_lit, hst]
theorem Zgq {t ty T : TypeId} {i : TypeInfo} {z : Value} {sz n : Nat} {h : Value} {xs : List Value} (ht : P.underlying t = some (.slice T)) (hi : P.info? T = some i) (hz : i.zero = some z) (hsz : i.size = sz) (hby : i.bytes ≤ 32768)
  (hzs : z.cells.size = sz) (_h0 : 0 < sz) (hown : rowAt w T sz h n xs) {b2 o2 m c2 : Nat} {news : Array Value} (hl : news.size = m * sz) (hnews : ∀ (k : Nat) u, news[k]? = some u → w.cell? ⟨b2, o2 + k, none⟩ = some u)
  (h1 : ∀ u ∈ news, u.oneCell' = true) (hroom : n + m ≤ room) (hm : 0 < m) :
  ∃ v' w', (Builtin.append_ #[t, t] ty #[h, .slice (some ⟨b2, o2, none⟩) m c2]).run P w = .ok v' w' ∧ rowAt w' T sz v' (n + m) (xs ++ news.toList) ∧ w.grownBy w' h.ownBlock ∧ v' ≠ .slice none 0 0 ∧
   ((hblk v' = hblk h ∧ hblk h ≠ none ∧ hoff v' = hoff h ∧ ∀ b o, hblk h = some b → o < hoff h + n * sz → w'.cell? ⟨b, o, none⟩ = w.cell? ⟨b, o, none⟩) ∨ (hblk v' = some w.heap.size ∧ ∀ b, b < w.heap.size → w'.heap[b]? = w.heap[b]?)) := by
 have hroom' : n + m ≤ 4294967296 := hroom
 have hnews' : ∀ (j : Nat) u, news.toList[j]? = some u → w.cell? ((⟨b2, o2, none⟩ : Addr).add j) = some u := fun j u hu => by rw [Addr.add_lit]; exact hnews j u (by simpa using hu)
 have hone : ∀ u ∈ news.toList, u.oneCell' = true := fun u hu => h1 u (by simpa using hu)
 have hbytes : (n + m) * i.bytes ≤ 140737488355328 := Nat.le_trans (Nat.mul_le_mul hroom' hby) (by decide)
 have h63 : n + m ≤ maxLen := by simp only [maxLen]; omega
 subst hsz
 have hl' : news.toList.length = m * i.size := by simpa using hl
 rcases hown.2 with ⟨rfl, rfl⟩ | ⟨g, oo, cap, cur, rfl, hgh, hcap, hcm, hcur, htake⟩
 ·have hxs : xs = [] := List.eq_nil_of_length_eq_zero (by simpa using hown.1)
  subst hxs
  have hx := run_append_nil (P := P) w t ty T i z ht hi hz ⟨b2, o2, none⟩ m c2 news.toList hl' hnews' hm (by omega) (by simp only [Nat.zero_add] at hbytes; omega)
  have hg := Zdd (w := w) (T := T) (z := z) (n := 0) (m := m) (xs := []) (news := news.toList) hzs (by simp) hl' h63 0
  simp only [Nat.zero_add, List.nil_append, Array.empty_append] at hg ⊢
  exact ⟨_, _, hx, hg, ⟨rfl, rfl, rfl, by simp, fun k hk _ => heap_alloc_old w.drew _ k hk⟩, by simp, .inr ⟨rfl, fun b hb => heap_alloc_old w.drew _ b hb⟩⟩
 ·by_cases hc : n + m ≤ cap
  ·have hmul : (n + m) * i.size ≤ cap * i.size := Nat.mul_le_mul_right _ hc
   rw [Nat.add_mul] at hmul
   have hfit : oo + n * i.size + news.toList.length ≤ cur.size := by omega
   have hx := Z74 (P := P) (w := w) t ty T i ht hi g oo n cap cur hgh ⟨b2, o2, none⟩ m c2 news.toList hl' hnews' hone hc hfit
   refine ⟨_, _, hx, ⟨by rw [List.length_append, hown.1, hl', Nat.add_mul], .inr ⟨g, oo, cap, _, rfl, setRow_heap w g cur _ T (0, 0) hgh, hc, hcm, ?_, ?_⟩⟩, ⟨rfl, rfl, rfl, by simp [World.setRow], fun k _ hk => setRow_other w g k _ (fun he => hk (by simp [Value.ownBlock, he]))⟩, by simp, .inl ⟨rfl, by simp [hblk], rfl, fun b o hb ho => ?_⟩⟩
   ·simp only [List.size_toArray, List.length_append, List.length_take, List.length_drop, Array.length_toList]
    omega
   ·have hlen : (cur.toList.take (oo + n * i.size)).length = oo + n * i.size := by rw [List.length_take, Array.length_toList]; omega
    simp only [List.append_assoc]
    rw [List.drop_append_of_le_length (by omega), Nat.add_mul, List.drop_take, show oo + n * i.size - oo = n * i.size by omega, htake, ← hl', ← hown.1, ← List.append_assoc, ← List.length_append]
    exact List.take_left
   ·simp [hblk] at hb
    subst hb
    simp only [hoff] at ho
    rw [cell_of_row _ g o _ T (0, 0) (setRow_heap w g cur _ T (0, 0) hgh), cell_of_row w g o cur T (0, 0) hgh]
    have hlen : (cur.toList.take (oo + n * i.size)).length = oo + n * i.size := by rw [List.length_take, Array.length_toList]; omega
    simp only [List.getElem?_toArray, List.append_assoc]
    rw [List.getElem?_append_left (by omega), List.getElem?_take, if_pos ho]
    simp
  ·have holds : ∀ (j : Nat) u, xs[j]? = some u → w.cell? ((⟨g, oo, none⟩ : Addr).add j) = some u := fun j u hu => by
    rw [Addr.add_lit, cell_of_row w g _ cur T (0, 0) hgh]
    rw [← htake, List.getElem?_take] at hu
    split at hu
    ·rw [List.getElem?_drop] at hu; simpa using hu
    ·cases hu
   have hx := run_append_grow (P := P) w t ty T i z ht hi hz ⟨g, oo, none⟩ n cap xs hown.1 holds ⟨b2, o2, none⟩ m c2 news.toList hl' hnews' (by omega) (by omega) (growslice_fits (by omega) hbytes)
   exact ⟨_, _, hx, Zdd hzs hown.1 hl' h63 cap, ⟨rfl, rfl, rfl, by simp, fun k hk _ => heap_alloc_old w.drew _ k hk⟩, by simp, .inr ⟨rfl, fun b hb => heap_alloc_old w.drew _ b hb⟩⟩
theorem nil_base {v : Value} {sz : Nat} {l : List PV} (h : Rep w X v (.sl sz (some true) l)) : ∃ n c, v = .slice none n c := by
 cases h with
 | slE a cap _ _ k1 => exact ⟨0, cap, by rw [k1 rfl]⟩
 | slC bb oo cap _ _ _ f k1 => exact absurd rfl k1
theorem Zet {t ty T : TypeId} {i : TypeInfo} {z : Value} {sz n : Nat} {ba : Option Addr} {olds : List Value} (ht : P.underlying t = some (.slice T)) (hi : P.info? T = some i) (hz : i.zero = some z) (hsz : i.size = sz) (hby : i.bytes ≤ 32768)
  (hzs : z.cells.size = sz) (h0 : 0 < sz) (hlo : olds.length = n * sz) (holds : ∀ ad, ba = some ad → ∀ (j : Nat) u, olds[j]? = some u → w.cell? (ad.add j) = some u) (hba : ba = none → n = 0)
  {b2 o2 m c2 : Nat} {news : Array Value} (hl : news.size = m * sz) (hnews : ∀ (k : Nat) u, news[k]? = some u → w.cell? ⟨b2, o2 + k, none⟩ = some u)
  (h1 : ∀ u ∈ news, u.oneCell' = true) (hroom : n + m ≤ room) (hm : 0 < m) :
  ∃ v' w', (Builtin.append_ #[t, t] ty #[.slice ba n n, .slice (some ⟨b2, o2, none⟩) m c2]).run P w = .ok v' w' ∧ rowAt w' T sz v' (n + m) (olds ++ news.toList) ∧ v' ≠ .slice none 0 0 ∧
   (∃ cap cur, v' = .slice (some ⟨w.heap.size, 0, none⟩) (n + m) cap ∧ w'.heap[w.heap.size]? = some (.cells cur T (0, 0))) ∧ Below w.heap.size w w' := by
 have hroom' : n + m ≤ 4294967296 := hroom
 have hnews' : ∀ (j : Nat) u, news.toList[j]? = some u → w.cell? ((⟨b2, o2, none⟩ : Addr).add j) = some u := fun j u hu => by rw [Addr.add_lit]; exact hnews j u (by simpa using hu)
 have hbytes : (n + m) * i.bytes ≤ 140737488355328 := Nat.le_trans (Nat.mul_le_mul hroom' hby) (by decide)
 have h63 : n + m ≤ maxLen := by simp only [maxLen]; omega
 subst hsz
 have hl' : news.toList.length = m * i.size := by simpa using hl
 have hlen : (olds ++ news.toList).length = (n + m) * i.size := by rw [List.length_append, hlo, hl', Nat.add_mul]
 have grown : ∀ (old : Nat), old < n + m →
   rowAt (w.drew.alloc (.cells (olds.toArray ++ news.toList.toArray ++ Builtin.zeroCells z.cells (grownCap w (n + m) old T - (n + m))) T)) T i.size
    (.slice (some ⟨w.heap.size, 0, none⟩) (n + m) (grownCap w (n + m) old T)) (n + m) (olds ++ news.toList) ∧
   Below w.heap.size w (w.drew.alloc (.cells (olds.toArray ++ news.toList.toArray ++ Builtin.zeroCells z.cells (grownCap w (n + m) old T - (n + m))) T)) :=
  fun old _ => ⟨Zdd hzs hlo hl' h63 old, ⟨rfl, rfl, rfl, by simp, fun k hk => heap_alloc_old w.drew _ k hk⟩⟩
 cases ba with
 | none =>
  have hn := hba rfl
  subst hn
  have hx : olds = [] := List.eq_nil_of_length_eq_zero (by simpa using hlo)
  subst hx
  have hr := run_append_nil (P := P) w t ty T i z ht hi hz ⟨b2, o2, none⟩ m c2 news.toList hl' hnews' hm (by omega) (by simp only [Nat.zero_add] at hbytes; omega)
  obtain ⟨g1, g2⟩ := grown 0 (by omega)
  simp only [Nat.zero_add, List.nil_append, Array.empty_append] at g1 g2 ⊢
  exact ⟨_, _, hr, g1, by simp, ⟨_, _, rfl, heap_alloc_new w.drew _⟩, g2⟩
 | some ad =>
  have hr := run_append_grow (P := P) w t ty T i z ht hi hz ad n n olds hlo (holds ad rfl) ⟨b2, o2, none⟩ m c2 news.toList hl' hnews' (by omega) (by omega) (growslice_fits (by omega) hbytes)
  obtain ⟨g1, g2⟩ := grown n (by omega)
  exact ⟨_, _, hr, g1, by simp, ⟨_, _, rfl, heap_alloc_new w.drew _⟩, g2⟩
end
theorem calls_in {P : Program} {ro : Option Nat} {n : Nat} {f : FuncId} {args : Array Value} {w : World} {R : Ending → World → Prop} (h : Calls P f args w R) : CallsIn (WR ro) n P f args w R :=
 (callsIn_wide (n := n)).2 h
theorem rows_in {P : Program} {ro : Option Nat} {n : Nat} {row : String} {args : Array Value} {w : World} {R : Value → World → Prop} (h : Rows P row args w R) : RowsIn (WR ro) n P row args w R := fun c cs _ =>
 let ⟨v, w', r, s⟩ := h c cs
 ⟨v, w', r, (stepsIn_wide (P := P)).2 s⟩
def Zh2 (o : Oper) : Bool := match o.op with | .defer _ => false | _ => true
theorem Zcz {P : Program} {ro : Option Nat} {n : Nat} {o : Oper} {a : Act} {w : World} {K : Act → World → Prop} {Q : Exit → Act → World → Prop} (hp : Zh2 o = true) (h : o.wp P a w K Q) : o.wpIn (WR ro) n P a w K Q := by
 refine ⟨fun _ _ => trivial, ?_⟩
 rw [Oper.semAt_eq _ _ _ fun c hc => by unfold Zh2 at hp; rw [hc] at hp; cases hp]
 unfold Oper.wp at h
 generalize (execOp a.eval o).run P w = r at h
 cases r with
 | ok x w' => cases x <;> simp only [Oper.upon] at h <;> first | exact h | exact ⟨fun hd => by simp [WR, Fence.wide] at hd, calls_in h⟩ | exact ⟨fun hd => by simp [WR, Fence.wide] at hd, rows_in h⟩
 | halt x w' => cases x <;> simp only [Oper.upon] at h <;> first | exact h | exact h.elim
theorem Z8r {P : Program} {o : Oper} {i : IOp} (h : mop P o.op i = true) : Zh2 o = true := by
 unfold Zh2
 cases ho : o.op <;> try rfl
 rw [ho] at h
 cases i <;> simp [mop] at h
theorem L4 {s : Sto} {i : Id} {b : Blk} (h : s.lookup i = some b) : (i, b) ∈ s := by
 induction s with
 | nil => simp at h
 | cons x r ih =>
  obtain ⟨j, c⟩ := x
  rw [List.lookup_cons] at h
  split at h
  ·rename_i he
   have h1 : i = j := by simpa using he
   have h2 : c = b := by simpa using h
   rw [h1, h2]; exact List.mem_cons_self
  ·exact List.mem_cons_of_mem _ (ih h)
theorem zeroB_rep {w : World} {X : Own} {z : Value} {c : PV} (h : zeroB z c = true) : Rep w X z c := by
 unfold zeroB at h
 split at h
 ·obtain ⟨h1, h2⟩ := Z6c h
  exact .agg _ _ (by simpa using h1) fun i v c hv hc => (h2 w X i v c (by simpa using hv) hc).1
 ·exact (cst_rep h w X).1
section
variable {P : Program} {γ γ' : Hand} {w w' : World} {X X' : Own} {s news : Sto}
theorem Zck {v : Value} {c : PV} (h : Rep w X v c) (hc : c.clean = true) : Rep w' X' v c := by
 unfold PV.clean at hc
 split at hc
 ·cases h with
  | slE a cap sz nl h1 h2 h0 hm => exact .slE a cap _ _ h1 h2 h0 hm
  | slC b o cap sz nl l f h1 hn hm hz hc h => exact .slE (some ⟨b, o, none⟩) cap _ _ (fun e => absurd e h1) (fun _ e => by cases e) (fun e => by cases e) hm
 ·exact scalRep h hc
theorem clean_mem {cs : List AV} (h : AV.clean.AV.cleanL cs = true) {c : AV} (hc : c ∈ cs) : c.clean = true := by
 induction cs with
 | nil => cases hc
 | cons a r ih =>
  simp only [AV.clean.AV.cleanL, Bool.and_eq_true] at h
  rcases List.mem_cons.1 hc with rfl | hc
  ·exact h.1
  ·exact ih h.2 hc
theorem Ze2 {v : Value} {c : AV} (h : RepA γ w X v c) (hc : c.clean = true) (sub : ∀ i v, γ i = some v → γ' i = some v) : RepA γ' w' X' v c := by
 revert hc
 induction h with
 | p h => exact fun hc => .p (Zck h hc)
 | ref id off b h => exact fun _ => .ref id off b (sub _ _ h)
 | ap id v h hz => exact fun _ => .ap id v (sub _ _ h) hz
 | ap0 id a h => exact fun _ => .ap0 id a (sub _ _ h)
 | yld id l h => exact fun _ => .yld id l (sub _ _ h)
 | mp id r h => exact fun _ => .mp id r (sub _ _ h)
 | agg vs cs hl _ ih => exact fun hc => .agg vs cs hl fun i v c hv hcc => ih i v c hv hcc (clean_mem hc (List.mem_of_getElem? hcc))
 | _ => exact fun hc => by simp [AV.clean] at hc
theorem clean_blk {h : Value} {blk : Blk} (hb : BlkOk P γ w X h blk) (hc : blk.clean = true) (hX : ∀ b, hblk h = some b → ∀ o, X' b o ↔ X b o) (sub : ∀ i v, γ i = some v → γ' i = some v) : BlkOk P γ' w X' h blk := by
 cases blk with
 | row lent T sz nl l =>
  obtain ⟨xs, hb⟩ := hb
  refine ⟨xs, hb.len, hb.at0, hb.nil, hb.shape, fun i e hi j c hj => ?_, hb.one, fun b hk o => (hX b hk o).trans (hb.own b hk o)⟩
  obtain ⟨u, hu, hr⟩ := hb.rep i e hi j c hj
  exact ⟨u, hu, Zck hr (List.all_eq_true.1 (List.all_eq_true.1 hc e (List.mem_of_getElem? hi)) c (List.mem_of_getElem? hj))⟩
 | box lent cs =>
  obtain ⟨b, c, T, hb⟩ := hb
  have e : hblk h = some b := by rw [hb.hand]; rfl
  exact ⟨b, c, T, hb.hand, hb.heap, hb.size, hb.one, fun i v a hv ha => Ze2 (hb.rep i v a hv ha) (List.all_eq_true.1 hc a (List.mem_of_getElem? ha)) sub, fun o => (hX b e o).trans (hb.own o)⟩
 | frm π nt e ps as bd st =>
  obtain ⟨l, r, hb⟩ := hb
  refine ⟨l, r, hb.hand, hb.heap, hb.params, hb.assign, hb.body, hb.size, fun t av ht => ?_, hb.st⟩
  obtain ⟨v, hv, hr⟩ := hb.env t av ht
  have hm : ∀ (l : Env) (t : Nat) (av : AV), l.lookup t = some av → ∃ x ∈ l, x.2 = av := by
   intro l
   induction l with
   | nil => intro t av h; simp at h
   | cons x r ih =>
    intro t av h
    obtain ⟨j, c⟩ := x
    rw [List.lookup_cons] at h
    split at h
    ·exact ⟨(j, c), by simp, by simpa using h⟩
    ·obtain ⟨y, hy, e⟩ := ih t av h
     exact ⟨y, by simp [hy], e⟩
  obtain ⟨x, hx, rfl⟩ := hm e t av ht
  exact ⟨v, hv, Ze2 hr (List.all_eq_true.1 hc x hx) sub⟩
 | mpb l =>
  obtain ⟨r, es, cl, hb⟩ := hb
  refine ⟨r, es, cl, hb.hand, hb.heap, hb.size, fun i e k v he hl => ?_, hb.uniq⟩
  obtain ⟨h1, h2⟩ := hb.rep i e k v he hl
  have := List.all_eq_true.1 hc (k, v) (List.mem_of_getElem? hl)
  simp only [Bool.and_eq_true] at this
  exact ⟨Zck h1 this.1, Zck h2 this.2⟩
theorem join_clean {r : AV} {v : Value} {en : Ending} (hs : StoOk P γ w X s) (hL : Left P (fun _ => none) w (fun _ _ => False) [] r news en w' v γ' X')
  (hnew : ∀ id b, news.lookup id = some b → γ id = none ∧ s.lookup id = some b) (hc1 : r.clean = true) (hc2 : news.all (fun x => x.2.clean) = true) :
  ∃ X2, Evo γ w X (joinH γ γ') w' X2 ∧ StoOk P (joinH γ γ') w' X2 s ∧ (∀ id h, γ id = some h → joinH γ γ' id = some h) ∧ (∀ id h, joinH γ γ' id = some h → γ id = some h ∨ ∃ b, news.lookup id = some b) ∧
   (∀ id b, news.lookup id = some b → (joinH γ γ' id).isSome) ∧ RepA (joinH γ γ') w' X2 v r := by
 have hb := hL.evo.below
 have newH : ∀ id h, γ' id = some h → γ id = none ∧ ∃ b, news.lookup id = some b ∧ BlkOk P γ' w' X' h b := fun id h hh => by
  obtain ⟨b, hb1, hb2⟩ := hL.sto.blk id h hh
  exact ⟨(hnew id b hb1).1, b, hb1, hb2⟩
 have sub : ∀ id v, γ' id = some v → joinH γ γ' id = some v := fun id v h => by unfold joinH; rw [(newH id v h).1]; exact h
 have hX' : ∀ b o, X' b o → ¬ b < w.heap.size := fun b o hx hlt => hL.evo.less b o hlt hx
 refine ⟨fun b o => X' b o ∨ X b o, ?_⟩
 obtain ⟨g1, g2⟩ := grow (γ := γ) (γ' := joinH γ γ') (X' := fun b o => X' b o ∨ X b o) hs hb (fun id h hh => by unfold joinH; rw [hh])
  (fun b o hlt => ⟨fun h => h.elim (fun h => absurd hlt (hX' b o h)) (fun h => h), .inr⟩)
  (fun b o h => h.elim (hL.sto.lt b o) fun h => Nat.lt_of_lt_of_le (hs.lt b o h) hb.size)
  (fun id h hh hn => by
   unfold joinH at hh
   rw [hn] at hh
   obtain ⟨_, b, hb1, hb3⟩ := newH id h hh
   have hge : ∀ k, hblk h = some k → w.heap.size ≤ k := fun k hk => by
    rcases Nat.lt_or_ge k w.heap.size with hlt | hge
    ·obtain ⟨_, _, hh', _⟩ := hL.evo.owned k hlt ⟨id, h, hh, hk⟩; cases hh'
    ·exact hge
   refine ⟨⟨b, (hnew id b hb1).2, clean_blk hb3 (List.all_eq_true.1 hc2 (id, b) (L4 hb1)) (fun k hk o => ⟨fun h => h.elim (fun h => h) fun h => ?_, .inl⟩) sub⟩, hge⟩
   have := hs.lt k o h
   have := hge k hk
   omega)
  (fun i j h k b hi hj hi' hj' hbi hbj => by
   unfold joinH at hi' hj'
   rw [hi] at hi'
   rw [hj] at hj'
   exact hL.sto.apart i j h k b hi' hj' hbi hbj)
 refine ⟨g2, g1, fun id h hh => by unfold joinH; rw [hh], fun id h hh => ?_, fun id b hib => ?_, Ze2 hL.rep hc1 sub⟩
 ·cases hg : γ id with
  | some h0 => unfold joinH at hh; rw [hg] at hh; exact .inl hh
  | none =>
   unfold joinH at hh; rw [hg] at hh
   obtain ⟨_, b, hb1, _⟩ := newH id h hh
   exact .inr ⟨b, hb1⟩
 ·have := hL.full id b hib
  obtain ⟨h, hh⟩ := Option.isSome_iff_exists.1 this
  rw [sub id h hh]; rfl
end
section
variable {P : Program} {C : Call} {π : Id}
theorem ok_mkp : NewOk P C π .mkp := by
 intro K Q a o γ w X s e s0 g d av news h hm hg H hs sub hnew hK
 obtain ⟨dst, op, type, pos, after, guard⟩ := o
 simp only [evA] at h
 split at h
 ·cases h
 simp at h; obtain ⟨rfl, rfl⟩ := h
 simp only [mop] at hm
 split at hm
 case h_2 => cases hm
 rename_i t r
 have hr : r = none := by simpa using hm
 subst hr
 obtain ⟨hid, hl⟩ := hnew _ _ (Mj _ _)
 refine Zd4 (w1 := w.alloc (.map #[] 0)) (v := .map (some w.heap.size)) (h := .map (some w.heap.size)) hs (Yr w _) (by simp) hid hl rfl
  ⟨w.heap.size, #[], 0, rfl, heap_alloc_new w _, rfl, fun i e k v he => by simp at he, fun i j e f he => by simp at he⟩ ?_ (.mp _ _ (by simp [addH])) hK
 simp [execOp, Instr.makeMap, run_newObj_alloc, Result.andThen]
theorem ok_lkp (m k : Opd) (z zero : PV) (ok : Bool) : PureOk P C π (.lkp m k z zero ok) := by
 intro K Q a o γ w X s e s0 g d av news h hm hg H hs sub hK
 obtain ⟨dst, op, type, pos, after, guard⟩ := o
 simp only [evA] at h
 split at h
 case h_2 => cases h
 rename_i id u zv hxm hxk hz
 split at h
 case h_2 => cases h
 rename_i l hl
 split at h
 case isFalse => cases h
 rename_i hc
 simp only [Bool.and_eq_true] at hc
 obtain ⟨hu, hkl⟩ := hc
 obtain ⟨res, hres, he⟩ := map_some h
 simp only [Prod.mk.injEq] at he
 obtain ⟨rfl, rfl⟩ := he
 simp only [mop] at hm
 split at hm
 case h_2 => cases hm
 rename_i t m' k' c
 simp only [Bool.and_eq_true, beq_iff_eq] at hm
 obtain ⟨⟨⟨ht, rfl⟩, hm1⟩, hm2⟩ := hm
 split at ht
 case h_2 => cases ht
 rename_i kt et hu'
 rw [hz] at ht
 simp only [Bool.and_eq_true] at ht
 obtain ⟨hkt, hzr⟩ := ht
 split at hzr
 case h_2 => cases hzr
 rename_i zr hzr'
 obtain ⟨inf, hinf, hzz⟩ := Option.bind_eq_some_iff.1 hzr'
 obtain ⟨kp, hkp, hku⟩ := Option.bind_eq_some_iff.1 hxk
 have hrm := H.x' hg hm1 hxm (by simp [IOp.opds])
 have hrk := H.pv hg hm2 hkp (by simp [IOp.opds])
 have hke : a.eval k' = u := Zhb hrk hku
 have hzrun : (zeroValue et).run P w = .ok zr w := by simp [zeroValue, typeInfo, hinf, hzz]
 generalize hmv : a.eval m' = mv at hrm
 cases hrm with
 | mp _ r hb =>
  obtain ⟨blk, hb1, hb2⟩ := hs.blk id _ hb
  rw [sub id _ hl] at hb1
  simp at hb1
  subst hb1
  obtain ⟨r', es, cl, hmap⟩ := hb2
  have hlook := map_lookup hmap hu' hkt hkl hu hres hzrun c
  have pair : ∀ (x : Value) (p : PV) (b : Bool), Rep w X x p → Rep w X (.tuple #[x, .bool b]) (.tup [p, .bool b]) := fun x p b hx => .tup _ _ rfl fun i v c hv hc => by
   match i with
   | 0 => simp at hv hc; subst hv; subst hc; exact hx
   | 1 => simp at hv hc; subst hv; subst hc; exact .bool b
   | i + 2 => simp at hc
  cases res with
  | none =>
   refine Zt (v := if c = true then .tuple #[zr, .bool false] else zr) hs (by simp [execOp, hmv, hke, hlook]) ?_ hK
   cases c with
   | true => exact .p (pair _ _ _ (zeroB_rep hzr))
   | false => exact .p (zeroB_rep hzr)
  | some q =>
   obtain ⟨x, hx, hlook⟩ := hlook
   refine Zt (v := if c = true then .tuple #[x, .bool true] else x) hs (by simp [execOp, hmv, hke, hlook]) ?_ hK
   cases c with
   | true => exact .p (pair _ _ _ hx)
   | false => exact .p hx
end
section
variable {P : Program} {K : Act → World → Prop} {Q : Exit → Act → World → Prop} {a : Act} {o : Oper} {γ : Hand} {w : World} {X : Own} {s : Sto}
variable {C : Call} {π : Id} {e : Env} {s0 : Sto} {g : Bool} {d : Nat} {av : AV} {news : Sto} {iop : IOp}
theorem ok_callV (rd : Bool) (f : Opd) (args : List Opd) (hE : FS P C) : NewOk P C π (.callV rd f args) := by
 intro K Q a o γ w X s e s0 g d av news h hm hg H hs sub hnew hK
 obtain ⟨dst, op, type, pos, after, guard⟩ := o
 simp only [evA] at h
 split at h
 case h_2 => cases h
 rename_i fv vs hf hvs
 split at h
 case h_2 => cases h
 rename_i k caps ps hft hps
 split at h
 case h_2 => cases h
 rename_i r nw hc
 simp only [mop] at hm
 split at hm
 case h_2 => cases hm
 rename_i c
 split at hm
 case h_2 => cases hm
 rename_i f' hcal
 simp only [Bool.and_eq_true] at hm
 obtain ⟨hmf, hma⟩ := hm
 obtain ⟨cal, cargs, ats⟩ := c
 simp only at hcal hma
 subst hcal
 have hrf := H.x' hg hmf hf (by simp [IOp.opds])
 obtain ⟨hlen, hra⟩ := Zcd H hg cargs.toList args vs hma hvs fun y hy => by simp only [IOp.opds]; exact List.mem_cons_of_mem _ hy
 have s0ok : ∀ (n : Nat) (av : AV) (pv : PV), toPV s0 n av = some pv → toPV s n av = some pv := by
  intro n
  induction n with
  | zero => intro av pv h; simp [toPV] at h
  | succ n ih =>
   have lst : ∀ (cs : List AV) (ps : List PV), cs.mapM (toPV s0 n) = some ps → cs.mapM (toPV s n) = some ps := by
    intro cs
    induction cs with
    | nil => intro ps h; exact h
    | cons c r ihc =>
     intro ps h
     obtain ⟨b, l', hb, hl', rfl⟩ := Nb h
     rw [List.mapM_cons, ih c b hb, ihc l' hl']; rfl
   intro av pv h
   have one : ∀ (cs : List AV) (k : List PV → PV), (cs.mapM (toPV s0 n)).map k = some pv → (cs.mapM (toPV s n)).map k = some pv := by
    intro cs k hk
    obtain ⟨ps, hps, rfl⟩ := map_some hk
    rw [lst cs ps hps]; rfl
   cases av with
   | p x => exact h
   | top => simp [toPV] at h
   | wh => simp [toPV] at h
   | yld => simp [toPV] at h
   | mp => simp [toPV] at h
   | mth => simp [toPV] at h
   | part => simp [toPV] at h
   | bpt => simp [toPV] at h
   | clip => exact h
   | agg cs => exact one cs _ h
   | tup cs => exact one cs _ h
   | fn f cs => exact one cs _ h
   | ap id =>
    simp only [toPV] at h ⊢
    cases hl : s0.lookup id with
    | none => simp [hl] at h
    | some b => rw [sub id b hl]; rw [hl] at h; exact h
   | er id sz i off =>
    simp only [toPV] at h ⊢
    cases hl : s0.lookup id with
    | none => simp [hl] at h
    | some b => rw [sub id b hl]; rw [hl] at h; exact h
   | ref id off =>
    simp only [toPV] at h ⊢
    cases hl : s0.lookup id with
    | none => simp [hl] at h
    | some b =>
     rw [sub id b hl]; rw [hl] at h
     cases b with
     | row => simp at h
     | frm => simp at h
     | mpb => simp at h
     | box lent cs => exact one _ _ h
 have run : ∀ (us : Array Value), a.eval f' = .func (.func k) #[] us → (Z0q P k) →
   (execOp a.eval ⟨dst, .call ⟨.value f', cargs, ats⟩, type, pos, after, guard⟩).run P w = .ok (.enter k (cargs.map a.eval ++ us)) w := by
  intro us hv hen
  simp [execOp, resolve, Deferred.ofValue, hv, invoke, Z1d hen]
 have key : ∀ (X0 : Own), (∀ b o, X0 b o → b < w.heap.size) → (∀ (i : Nat) v c, (cargs.map a.eval)[i]? = some v → ps[i]? = some c → Rep w X0 v c) → Rep w X0 (a.eval f') (.fn k caps) →
   ∃ us, a.eval f' = .func (.func k) #[] us ∧ Z0q P k ∧ Calls P k (cargs.map a.eval ++ us) w fun e w' => ∃ v γ' X', Left P (fun _ => none) w X0 [] r nw e w' v γ' X' := by
  intro X0 hX hp hfr
  generalize hfv : a.eval f' = fval at hfr
  cases hfr with
  | fn f us cs hl hh =>
   have hps' := (Uz hps).1
   have e1 : (cargs.map a.eval).size = ps.length := by simp; have := hlen; simp at this; omega
   have hc' : C (d :: π) k (((ps.map PV.fg) ++ (caps.map PV.fg)).map AV.p) [] = some (r, nw) := by
    rw [← hc]; congr 1; simp [List.map_append, List.map_map, Function.comp_def]
   obtain ⟨h1, h2⟩ := Zgp (w := w) (X0 := X0) (vals := cargs.map a.eval ++ us) hE hc' (by simp at e1 hl ⊢; omega) (fun i v c hv hc => by
    by_cases hi : i < ps.length
    ·rw [List.getElem?_append_left (by simpa using hi)] at hc
     rw [Array.getElem?_append_left (by omega)] at hv
     simp only [List.getElem?_map, Option.map_eq_some_iff] at hc
     obtain ⟨c', hc', rfl⟩ := hc
     exact (hp i v c' hv hc').fg
    ·rw [List.getElem?_append_right (by simp; omega)] at hc
     rw [Array.getElem?_append_right (by omega)] at hv
     simp only [List.getElem?_map, Option.map_eq_some_iff, List.length_map] at hc
     obtain ⟨c', hc', rfl⟩ := hc
     rw [e1] at hv
     exact (hh _ v c' hv hc').fg) hX
   exact ⟨us, rfl, h1, h2⟩
 split at h
 ·
  rename_i hp
  simp only [Bool.and_eq_true] at hp
  replace hp := hp.2
  split at h
  case isFalse => cases h
  simp at h; obtain ⟨rfl, rfl⟩ := h
  obtain ⟨us, hv, hen, hcall⟩ := key X hs.lt (fun i v c hv hc => by
   obtain ⟨av, hav⟩ := getElem?_same (Uz hps).1 hc
   have h1 := (Uz hps).2 i av c hav hc
   obtain ⟨x, rfl⟩ := getP_p (List.all_eq_true.1 hp.1 av (List.mem_of_getElem? hav))
   have h2 : toPV s0 depth (.p x) = some x := rfl
   rw [h2] at h1; simp at h1; subst h1
   exact (hra i v _ (by simpa using hv) hav).ofP) (by
   obtain ⟨x, rfl⟩ := getP_p hp.2
   have h2 : toPV s0 depth (.p x) = some x := rfl
   rw [h2] at hft; simp at hft; subst hft
   exact hrf.ofP)
  unfold Oper.wp
  rw [run us hv hen, Oper.upon_enter]
  refine hcall.mono fun en w' hL => ?_
  obtain ⟨v, γ', X', hL⟩ := hL
  obtain ⟨j1, j2, j3, j4, j5, j6⟩ := join_grow hs hL hnew
  have := hL.ret
  subst this
  exact hK v _ w' X' j1 j2 j3 j4 j5 j6
 ·split at h
  case isFalse =>
   split at h
   case isFalse =>
    split at h
    case isFalse => cases h
    rename_i hp
    simp only [Bool.and_eq_true] at hp
    obtain ⟨⟨_, hc1, hc2⟩, _⟩ := hp
    simp only [Option.some.injEq, Prod.mk.injEq] at h; obtain ⟨rfl, rfl⟩ := h
    have hno : ∀ b o, (fun _ _ => False : Own) b o → b < w.heap.size := fun _ _ h => h.elim
    have hcell : ∀ b o v, CellAt w X b o v → CellAt w (fun _ _ => False) b o v := fun b o v h => ⟨h.cell, fun h => h⟩
    have conv : ∀ (av : AV) (v : Value) (x : PV), RepA γ w X v av → toPV s0 depth av = some x → Rep w (fun _ _ => False) v x := fun av v x hr ht =>
     Zgu hs hcell (R := reach s depth av) (fun _ _ _ _ _ _ _ _ _ _ h => h) depth av v x hr (s0ok _ _ _ ht) fun _ h => h
    obtain ⟨us, hv, hen, hcall⟩ := key (fun _ _ => False) hno (fun i v c hv hc => by
     obtain ⟨av, hav⟩ := getElem?_same (Uz hps).1 hc
     exact conv av v c (hra i v _ (by simpa using hv) hav) ((Uz hps).2 i av c hav hc)) (conv _ _ _ hrf hft)
    unfold Oper.wp
    rw [run us hv hen, Oper.upon_enter]
    refine hcall.mono fun en w' hL => ?_
    obtain ⟨v, γ', X', hL⟩ := hL
    obtain ⟨X2, j1, j2, j3, j4, j5, j6⟩ := join_clean hs hL hnew hc1 hc2
    have := hL.ret
    subst this
    exact hK v _ w' X2 j1 j2 j3 j4 j5 j6
   rename_i hp
   simp only [Bool.and_eq_true] at hp
   obtain ⟨⟨_, hp⟩, _⟩ := hp
   obtain ⟨y, hfz, hy⟩ := map_some h
   simp at hy
   obtain ⟨rfl, rfl⟩ := hy
   obtain ⟨us, hv, hen, hcall⟩ := key X hs.lt (fun i v c hv hc => by
    obtain ⟨av, hav⟩ := getElem?_same (Uz hps).1 hc
    have h1 := (Uz hps).2 i av c hav hc
    obtain ⟨x, rfl⟩ := getP_p (List.all_eq_true.1 hp.1 av (List.mem_of_getElem? hav))
    have h2 : toPV s0 depth (.p x) = some x := rfl
    rw [h2] at h1; simp at h1; subst h1
    exact (hra i v _ (by simpa using hv) hav).ofP) (by
    obtain ⟨x, rfl⟩ := getP_p hp.2
    have h2 : toPV s0 depth (.p x) = some x := rfl
    rw [h2] at hft; simp at hft; subst hft
    exact hrf.ofP)
   unfold Oper.wp
   rw [run us hv hen, Oper.upon_enter]
   refine hcall.mono fun en w' hL => ?_
   obtain ⟨v, γ', X', hL⟩ := hL
   obtain ⟨X2, k1, k2, k3, k4, _, _⟩ := Z90 hL.sto hL.full hL.rep hfz
   have hL2 : Left P (fun _ => none) w X [] (.p y.1) y.2 en w' v γ' X2 := ⟨hL.ret, .p k4, k1, k2, hL.evo.trans k3, hL.box, fun h => by cases h⟩
   obtain ⟨j1, j2, j3, j4, j5, j6⟩ := join_grow hs hL2 hnew
   have := hL2.ret
   subst this
   exact hK v _ w' X2 j1 j2 j3 j4 j5 j6
  rename_i hsc
  simp at h; obtain ⟨rfl, rfl⟩ := h
  simp only [Bool.and_eq_true] at hsc
  replace hsc := hsc.2
  have hn0 : nw = [] := by simpa using hsc.2
  subst hn0
  have hno : ∀ b o, (fun _ _ => False : Own) b o → b < w.heap.size := fun _ _ h => h.elim
  have hcell : ∀ b o v, CellAt w X b o v → CellAt w (fun _ _ => False) b o v := fun b o v h => ⟨h.cell, fun h => h⟩
  have conv : ∀ (av : AV) (v : Value) (x : PV), RepA γ w X v av → toPV s0 depth av = some x → Rep w (fun _ _ => False) v x := fun av v x hr ht =>
   Zgu hs hcell (R := reach s depth av) (fun _ _ _ _ _ _ _ _ _ _ h => h) depth av v x hr (s0ok _ _ _ ht) fun _ h => h
  obtain ⟨us, hv, hen, hcall⟩ := key (fun _ _ => False) hno (fun i v c hv hc => by
   obtain ⟨av, hav⟩ := getElem?_same (Uz hps).1 hc
   exact conv av v c (hra i v _ (by simpa using hv) hav) ((Uz hps).2 i av c hav hc)) (conv _ _ _ hrf hft)
  unfold Oper.wp
  rw [run us hv hen, Oper.upon_enter]
  refine hcall.mono fun en w' hL => ?_
  obtain ⟨v, γ', X', hL⟩ := hL
  have := hL.ret
  subst this
  have hb := hL.evo.below
  cases r with
  | p x =>
   obtain ⟨g1, g2⟩ := grow (γ := γ) (γ' := γ) (X' := X) hs hb (fun _ _ h => h) (fun _ _ _ => Iff.rfl) (fun b o h => Nat.lt_of_lt_of_le (hs.lt b o h) hb.size)
    (fun id h hh hn => by rw [hn] at hh; cases hh) (fun i j h k b hi _ hi' => by rw [hi] at hi'; cases hi')
   exact hK v γ w' X g2 g1 (fun _ _ h => h) (fun _ _ h => .inl h) (fun _ _ h => by cases h) (.p (scalRep hL.rep.ofP (by simpa [AV.scal] using hsc.1)))
  | _ => simp [AV.scal] at hsc
theorem evA_ok (hE : FS P C) : ∀ iop, NewOk P C π iop
 | .mv x => (ok_mv x).new
 | .pick c a b => (ok_pick c a b).new
 | .bin b x y => (ok_bin b x y).new
 | .beq n x y => (ok_beq n x y).new
 | .aeq n k x y => fun _ _ _ _ _ _ _ _ _ _ _ _ _ _ h => by simp [evA] at h
 | .isnil k n x => (ok_isnil k n x).new
 | .un b x => (ok_un b x).new
 | .conv k x => (ok_conv k x).new
 | .s2b x => fun _ _ _ _ _ _ _ _ _ _ _ _ _ _ h => by simp [evA] at h
 | .bad => fun K Q a o γ w X s e s0 g d av news h => by simp [evA] at h
 | .len k x => (ok_len k x).new
 | .mm m x y => (ok_mm m x y).new
 | .ext x i => (ok_ext x i).new
 | .fld x o z g => (ok_fld x o z g).new
 | .fa x o => (ok_fa x o).new
 | .ia x i z => (ok_ia x i z).new
 | .iaa x i n z => (ok_iaa x i n z).new
 | .idx x i => (ok_idx x i).new
 | .ld x z g => (ok_ld x z g).new
 | .st x v z => fun _ _ _ _ _ _ _ _ _ _ _ _ _ _ h => by simp [evA] at h
 | .alloc z => ok_alloc z
 | .alt n => ok_alt n
 | .xag x i n => (ok_xag x i n).new
 | .box x z => ok_box x z
 | .build z p => (ok_build z p).new
 | .bsl T z g zz n p => ok_bsl T z g zz n p
 | .bsp T z g zz n p => (ok_bsp T z g zz n p).new
 | .mks T z g zz n c => ok_mks T z g zz n c
 | .mkf f l => (ok_mkf f l).new
 | .mkm f x => fun _ _ _ _ _ _ _ _ _ _ _ _ _ _ h => by simp [evA] at h
 | .nck x => (ok_nck x).new
 | .slc t x lo hi z => (ok_slc t x lo hi z).new
 | .prt x lo hi z => fun _ _ _ _ _ _ _ _ _ _ _ _ _ _ h => by simp [evA] at h
 | .slf x lo hi m z => fun _ _ _ _ _ _ _ _ _ _ _ _ _ _ h => by simp [evA] at h
 | .cpy x y z => fun _ _ _ _ _ _ _ _ _ _ _ _ _ _ h => by simp [evA] at h
 | .shf x lo z => fun _ _ _ _ _ _ _ _ _ _ _ _ _ _ h => by simp [evA] at h
 | .clr x T z g zz => fun _ _ _ _ _ _ _ _ _ _ _ _ _ _ h => by simp [evA] at h
 | .app x y T z => fun _ _ _ _ _ _ _ _ _ _ _ _ _ _ h => by simp [evA] at h
 | .apx x y T z _ => fun _ _ _ _ _ _ _ _ _ _ _ _ _ _ h => by simp [evA] at h
 | .apn x y T z => fun _ _ _ _ _ _ _ _ _ _ _ _ _ _ h => by simp [evA] at h
 | .callV rd f l => ok_callV rd f l hE
 | .callS f l => fun _ _ _ _ _ _ _ _ _ _ _ _ _ _ h => by simp [evA] at h
 | .callB f l => fun _ _ _ _ _ _ _ _ _ _ _ _ _ _ h => by simp [evA] at h
 | .mkp => ok_mkp
 | .mvl x => fun _ _ _ _ _ _ _ _ _ _ _ _ _ _ h => by simp [evA] at h
 | .mkc f g x => fun _ _ _ _ _ _ _ _ _ _ _ _ _ _ h => by simp [evA] at h
 | .lkp m k z zero ok => (ok_lkp m k z zero ok).new
 | .slb x n => fun _ _ _ _ _ _ _ _ _ _ _ _ _ _ h => by simp [evA] at h
 | .mpu m k v z => fun _ _ _ _ _ _ _ _ _ _ _ _ _ _ h => by simp [evA] at h
 | .cpb x y => fun _ _ _ _ _ _ _ _ _ _ _ _ _ _ h => by simp [evA] at h
end
def KT (P : Program) (K : Act → World → Prop) (a : Act) (o : Oper) (γ : Hand) (w : World) (X : Own) (s0 : Sto) (e' : Env) (s' : Sto) (av : AV) : Prop :=
 ∀ v γ' w' X', Evo γ w X γ' w' X' → StoOk P γ' w' X' s' → Full γ' s' → EnvOk γ' w' X' (fun t => e'.lookup t) a.tmps → (∀ id b, s0.lookup id = some b → b.isBox = true → γ' id = γ id) → RepA γ' w' X' v av → K (a.put o.dst v) w'
def TOk (P : Program) (C : Call) (π : Id) (iop : IOp) : Prop :=
 ∀ (K : Act → World → Prop) (Q : Exit → Act → World → Prop) (a : Act) (o : Oper) (γ : Hand) (w : World) (X : Own) (e : Env) (s : Sto) (d : Nat) (av : AV) (e' : Env) (s' : Sto),
  evT C π e s d iop = some (av, e', s') → mop P o.op iop = true → StoOk P γ w X s → Full γ s → EnvOk γ w X (fun t => e.lookup t) a.tmps → KT P K a o γ w X s e' s' av → o.wp P a w K Q
theorem Z95 (e : Env) (x : Opd) : evT.x' e x = evA.x' e true x := by cases x <;> rfl
theorem evT_pv (e : Env) (x : Opd) : evT.pv e x = evA.pv e true x := by unfold evT.pv evA.pv; rw [Z95]
section
variable {P : Program} {C : Call} {π : Id} {γ γ' : Hand} {w w' : World} {X X' : Own} {s : Sto} {e : Env} {a : Act}
theorem EnvOk.ops (h : EnvOk γ w X (fun t => e.lookup t) a.tmps) (l : List Opd) : OpsOk γ w X a e l := fun x y av _ hm hr =>
 opd_rep hm (fun t b ht hb => h t b hb) (by cases y <;> exact hr)
theorem EnvOk.mono (h : EnvOk γ w X (fun t => e.lookup t) a.tmps) (hm : ∀ b o v, CellAt w X b o v → CellAt w' X' b o v) (hγ : ∀ i v, γ i = some v → γ' i = some v) : EnvOk γ' w' X' (fun t => e.lookup t) a.tmps := fun t av ht => by
 obtain ⟨v, hv, hr⟩ := h t av ht
 exact ⟨v, hv, hr.mono hm fun i _ v hv => hγ i v hv⟩
theorem EnvOk.kill {id : Id} (h : EnvOk γ w X (fun t => e.lookup t) a.tmps) (hm : ∀ b o v, CellAt w X b o v → CellAt w' X' b o v) (hγ : ∀ i v, i ≠ id → γ i = some v → γ' i = some v) : EnvOk γ' w' X' (fun t => (e.kill id).lookup t) a.tmps := fun t av ht => by
 simp only [Zhj] at ht
 obtain ⟨b, hb, rfl⟩ := map_some ht
 obtain ⟨v, hv, hr⟩ := h t b hb
 exact ⟨v, hv, Zh9 hr hm hγ⟩
theorem store_run {t : TypeId} {n : Nat} (hs : szB P t = some n) {v : Value} (hv : v.cells.size = n) (h1 : ∀ u ∈ v.cells, u.oneCell' = true) {b o : Nat} {cur : Array Value} {T : TypeId} (hg : w.heap[b]? = some (.cells cur T (0, 0))) (hle : o + n ≤ cur.size) :
  (Instr.storeAt t (.pointer (some ⟨b, o, none⟩)) v).run P w = .ok () (w.setRow b (Zr cur.toList o v.cells.toList).toArray) := by
 have := run_storeCells_at P b o T v.cells.toList 0 cur w hg (by simpa [hv] using hle) (fun u hu => h1 u (by simpa using hu))
 simp only [Nat.add_zero] at this
 simp [Instr.storeAt, Instr.sureAddr, storeVar, Wy hs, hv, Zr, this]
theorem Ws {id : Id} {h : Value} (hid : γ id = some h) : addH γ id h = γ := by
 funext i
 unfold addH
 split
 ·rename_i he; subst he; exact hid.symm
 ·rfl
theorem elem_set {old : PV} {vs : List PV} {sz o z : Nat} (hz : old.cells.length = z) (hv : vs.length = sz) (hle : o + sz ≤ z) (h0 : 0 < sz) (h1 : vs.all PV.cell1 = true) :
  (old.setc o vs).cells = Zr old.cells o vs := by
 have other : old.cells = [old] → (vs.headD .und).cells = Zr old.cells o vs := by
  intro hc
  rw [hc] at hz ⊢
  simp at hz
  have ho : o = 0 := by omega
  subst ho
  match vs, hv with
  | [v], _ =>
   simp at h1
   simp [Zr]
   cases v <;> first | rfl | simp [PV.cell1] at h1
  | [], hv => simp at hv; omega
  | _ :: _ :: _, hv => simp at hv; omega
 cases old with
 | agg cs => rfl
 | _ => exact other rfl
theorem one_cells {v : Value} (h : v.oneCell' = true) : v.cells = #[v] := by
 cases v <;> first | rfl | (simp [Value.oneCell'] at h)
theorem cells_frz (h1 : ∀ id v, γ id = some v → v.oneCell' = true) {s1 : Sto} {vs : List PV} {v : Value} {q : AV} (hq : RepA γ w X v q) (hfz : Z03 s q.cells = some (vs, s1)) (hall : vs.all PV.cell1 = true) :
  v.cells.size = q.cells.length ∧ ∀ (i : Nat) c, q.cells[i]? = some c → RepA γ w X (v.cells.getD i undef) c := by
 have arr : ∀ (us : Array Value) (cs : List AV), us.size = cs.length → (∀ (i : Nat) u c, us[i]? = some u → cs[i]? = some c → RepA γ w X u c) → ∀ (i : Nat) c, cs[i]? = some c → RepA γ w X (us.getD i undef) c := by
  intro us cs hl hh i c hc
  have hlt : i < us.size := by have := (List.getElem?_eq_some_iff.1 hc).1; omega
  have := hh i us[i] c (Array.getElem?_eq_getElem hlt) hc
  simpa [hlt] using this
 have one : v.cells = #[v] → q.cells = [q] → v.cells.size = q.cells.length ∧ ∀ (i : Nat) c, q.cells[i]? = some c → RepA γ w X (v.cells.getD i undef) c := by
  intro h1 h2
  rw [h1, h2]
  refine ⟨rfl, arr _ _ rfl fun i u c hu hc => ?_⟩
  cases i with
  | zero => simp at hu hc; subst hu; subst hc; exact hq
  | succ i => simp at hu
 have notp : ∀ (us : Array Value) (cs : List AV), us.size = cs.length → v = .agg us → q.cells = cs → (∀ (i : Nat) u c, us[i]? = some u → cs[i]? = some c → RepA γ w X u c) → v.cells.size = q.cells.length ∧ ∀ (i : Nat) c, q.cells[i]? = some c → RepA γ w X (v.cells.getD i undef) c := by
  intro us cs hl hv hc hh
  subst hv
  rw [hc]
  exact ⟨hl, arr us cs hl hh⟩
 have bad : q.cells = [q] → (∀ x, q ≠ .p x) → toPV s depth q = none ∨ (∃ l, toPV s depth q = some (.tup l)) → False := by
  intro h1 h2 h3
  rw [h1] at hfz
  simp only [Z03] at hfz
  split at hfz
  case h_2 => cases hfz
  rename_i x s2 hx
  simp only [Option.some.injEq, Prod.mk.injEq] at hfz
  obtain ⟨rfl, rfl⟩ := hfz
  unfold Z4 at hx
  split at hx
  ·exact h2 _ rfl
  ·rcases h3 with h3 | ⟨l, h3⟩
   ·rw [h3] at hx; simp at hx
   ·rw [h3] at hx; simp at hx; rw [← hx.1] at hall; simp [PV.cell1] at hall
 cases hq with
 | p hp =>
  cases hp with
  | agg us cs hl hh =>
   exact notp us (cs.map .p) (by simpa using hl) rfl rfl fun i u c hu hc => by
    simp only [List.getElem?_map, Option.map_eq_some_iff] at hc
    obtain ⟨c', hc', rfl⟩ := hc
    exact .p (hh i u c' hu hc')
  | _ => exact one rfl rfl
 | agg us cs hl hh => exact notp us cs hl rfl rfl hh
 | top v => exact (bad rfl (fun _ => by simp) (.inl rfl)).elim
 | whT _ => exact (bad rfl (fun _ => by simp) (.inl rfl)).elim
 | whF _ => exact (bad rfl (fun _ => by simp) (.inl rfl)).elim
 | ap id v hγ hz => exact one (one_cells (h1 id v hγ)) rfl
 | ap0 => exact one rfl rfl
 | part => exact (bad rfl (fun _ => by simp) (.inl rfl)).elim
 | bpt => exact (bad rfl (fun _ => by simp) (.inl rfl)).elim
 | clip a sz nl l h => exact one rfl rfl
 | mth => exact one rfl rfl
 | tup us cs hl hh =>
  refine (bad rfl (fun _ => by simp) ?_).elim
  show (cs.mapM (toPV s 11)).map PV.tup = none ∨ ∃ l, (cs.mapM (toPV s 11)).map PV.tup = some (.tup l)
  cases cs.mapM (toPV s 11) with
  | none => exact .inl rfl
  | some l => exact .inr ⟨l, rfl⟩
 | _ => exact one rfl rfl
theorem rowset {w : World} {b oo cap T z sz o i : Nat} {nl : Option Bool} {l vs : List PV} {xs : List Value} {cur us : Array Value} {old new : PV} (hrow : RowOk w X (.slice (some ⟨b, oo, none⟩) l.length cap) false T z nl l xs)
  (hg : w.heap[b]? = some (.cells cur T (0, 0))) (hcap : l.length ≤ cap) (hcm : cap ≤ maxLen) (hcur : oo + cap * z ≤ cur.size) (htake : (cur.toList.drop oo).take (l.length * z) = xs) (hold : l[i]? = some old) (hnew : new.cells = Zr old.cells o vs)
  (hvs : vs.length = sz) (hle : o + sz ≤ z) (hus : us.size = sz) (h1 : ∀ u ∈ us, u.oneCell' = true) (hall : vs.all PV.cell1 = true) (hmono : ∀ k o u, CellAt w X k o u → CellAt w' X k o u)
  (hw' : w'.heap[b]? = some (.cells (Zr cur.toList (oo + (i * z + o)) us.toList).toArray T (0, 0))) (hrep : ∀ (j : Nat) c, vs[j]? = some c → Rep w' X (us.getD j undef) c) :
  RowOk w' X (.slice (some ⟨b, oo, none⟩) l.length cap) false T z nl (l.set i new) (((Zr cur.toList (oo + (i * z + o)) us.toList).drop oo).take (l.length * z)) := by
 have hi := (List.getElem?_eq_some_iff.1 hold).1
 have hoz := (hrow.shape old (List.mem_of_getElem? hold)).1
 have hoc := (hrow.shape old (List.mem_of_getElem? hold)).2
 have hmul : (i + 1) * z ≤ l.length * z := Nat.mul_le_mul_right _ hi
 have hmul2 : l.length * z ≤ cap * z := Nat.mul_le_mul_right _ hcap
 rw [Nat.add_mul] at hmul
 have hlen2 : (Zr cur.toList (oo + (i * z + o)) us.toList).length = cur.size := by rw [Qi _ _ _ (by simp; omega)]; simp
 have hxs : ∀ k, k < l.length * z → xs[k]? = cur[oo + k]? := fun k hk => by rw [← htake, List.getElem?_take, if_pos hk, List.getElem?_drop]; simp
 have hget : ∀ (i' : Nat) q, (l.set i new)[i']? = some q → (i' = i ∧ q = new) ∨ (i' ≠ i ∧ l[i']? = some q) := by
  intro i' q he
  rw [List.getElem?_set] at he
  by_cases h' : i = i'
  ·subst h'
   simp [hi] at he
   exact .inl ⟨rfl, he.symm⟩
  ·rw [if_neg h'] at he
   exact .inr ⟨fun h => h' h.symm, he⟩
 have hnl : new.cells.length = z := by rw [hnew, Qi _ _ _ (by omega)]; exact hoz
 refine ⟨by simp [hlen2]; omega, .inr ⟨by simp [hlen2]; omega, .inr ⟨b, oo, cap, _, by simp, hw', by simpa using hcap, hcm, by simpa [hlen2] using hcur, by simp⟩⟩, hrow.nil, fun q hq => ?_, fun i' q hi' j c hj => ?_, fun u hu => ?_, fun k hk o => ?_⟩
 ·rcases List.mem_or_eq_of_mem_set hq with h | rfl
  ·exact hrow.shape q h
  ·refine ⟨hnl, ?_⟩
   rw [hnew, List.all_eq_true]
   intro c hc
   unfold Zr at hc
   rcases List.mem_append.1 hc with hc | hc
   ·rcases List.mem_append.1 hc with hc | hc
    ·exact List.all_eq_true.1 hoc c (List.mem_of_mem_take hc)
    ·exact List.all_eq_true.1 hall c hc
   ·exact List.all_eq_true.1 hoc c (List.mem_of_mem_drop hc)
 ·have hjz : j < z := by
   have h1 := (List.getElem?_eq_some_iff.1 hj).1
   rcases hget i' q hi' with ⟨rfl, rfl⟩ | ⟨hne, hl'⟩
   ·omega
   ·have := (hrow.shape q (List.mem_of_getElem? hl')).1; omega
  have hi'' : i' < l.length := by have := (List.getElem?_eq_some_iff.1 hi').1; simpa using this
  have hm' : (i' + 1) * z ≤ l.length * z := Nat.mul_le_mul_right _ hi''
  rw [Nat.add_mul] at hm'
  rw [List.getElem?_take, if_pos (by omega), List.getElem?_drop, Qj _ _ _ (by simp; omega)]
  simp only [Array.length_toList, Array.getElem?_toList]
  rcases hget i' q hi' with ⟨rfl, rfl⟩ | ⟨hne, hl'⟩
  ·rw [hnew, Qj _ _ _ (by omega)] at hj
   by_cases hr : o ≤ j ∧ j < o + vs.length
   ·rw [if_pos hr] at hj
    rw [if_pos ⟨by omega, by omega⟩]
    have hlt : j - o < us.size := by omega
    refine ⟨us[j - o], by rw [show oo + (i' * z + j) - (oo + (i' * z + o)) = j - o by omega]; exact Array.getElem?_eq_getElem hlt, ?_⟩
    have := hrep (j - o) c hj
    simpa [Array.getD, hlt] using this
   ·rw [if_neg hr] at hj
    rw [if_neg (by omega)]
    obtain ⟨u, hu, hrep⟩ := hrow.rep i' old hold j c hj
    exact ⟨u, by rw [← hxs _ (by omega)]; exact hu, hrep.mono hmono⟩
  ·obtain ⟨u, hu, hrep⟩ := hrow.rep i' q hl' j c hj
   refine ⟨u, ?_, hrep.mono hmono⟩
   rw [if_neg ?_]
   ·rw [← hxs _ (by omega)]; exact hu
   ·rintro ⟨g1, g2⟩
    rcases Nat.lt_or_gt_of_ne hne with h | h
    ·have : (i' + 1) * z ≤ i * z := Nat.mul_le_mul_right _ h
     rw [Nat.add_mul] at this; omega
    ·have : (i + 1) * z ≤ i' * z := Nat.mul_le_mul_right _ h
     rw [Nat.add_mul] at this; omega
 ·obtain ⟨k, hk⟩ := List.getElem?_of_mem hu
  rw [List.getElem?_take] at hk
  split at hk
  ·rename_i hkl
   rw [List.getElem?_drop, Qj _ _ _ (by simp; omega)] at hk
   split at hk
   ·exact h1 u (by simpa using List.mem_of_getElem? hk)
   ·simp only [Array.getElem?_toList] at hk
    rw [← hxs k hkl] at hk
    exact hrow.one u (List.mem_of_getElem? hk)
  ·cases hk
 ·have := hrow.own k (by simpa [hblk] using hk) o
  simpa using this
theorem full_put {id : Id} {b : Blk} (hf : Full γ s) : Full γ (s.put id b) := fun i c hc => by
 rw [Zd] at hc
 split at hc
 ·cases hl : s.lookup i with
  | none => rename_i he; subst he; rw [hl] at hc; simp at hc
  | some b' => exact hf i b' hl
 ·exact hf i c hc
theorem st_ref {K : Act → World → Prop} {Q : Exit → Act → World → Prop} {o : Oper} {x v : Opd} {sz o' : Nat} {id : Id} {av' : AV} {cs : List AV} (hp : evA.x' e true x = some (.ref id o')) (hv' : evA.x' e true v = some av') (hl : s.lookup id = some (.box false cs))
  (hc1 : av'.cells.length = sz) (hc2 : o' + sz ≤ cs.length) (hc3 : av'.cells.all AV.cell1 = true) (hm : mop P o.op (.st x v sz) = true) (hs : StoOk P γ w X s) (hf : Full γ s) (H : OpsOk γ w X a e [x, v])
  (hK : ∀ w', Evo γ w X γ w' X → StoOk P γ w' X (s.put id (.box false (Zr cs o' av'.cells))) → K (a.put o.dst undef) w') : o.wp P a w K Q := by
 obtain ⟨dst, op, type, pos, after, guard⟩ := o
 simp only [mop] at hm
 split at hm
 case h_2 => cases hm
 rename_i t x' v'
 simp only [Bool.and_eq_true, beq_iff_eq, decide_eq_true_eq] at hm
 obtain ⟨⟨⟨hsz, h0⟩, hx⟩, hv⟩ := hm
 have fin : ∀ (w' : World), (Instr.storeAt t (a.eval x') (a.eval v')).run P w = .ok () w' → K (a.put dst undef) w' → Oper.wp P ⟨dst, .store t x' v', type, pos, after, guard⟩ a w K Q := by
  intro w' hr hk
  unfold Oper.wp
  have : (execOp a.eval ⟨dst, .store t x' v', type, pos, after, guard⟩).run P w = .ok .skip w' := by simp only [execOp, Sem.run_bind, hr, Result.andThen_ok, Sem.run_pure]
  rw [this]
  exact hk
 have hr := H.x' rfl hx hp (by simp)
 have hrv := H.x' rfl hv hv' (by simp)
 obtain ⟨k1, k2, k3⟩ := hrv.cells hs.one (by simpa using hc3)
 generalize hxv : a.eval x' = xv at hr
 cases hr with
 | ref id off b hb =>
  obtain ⟨blk, hb1, hb2⟩ := hs.blk id _ hb
  rw [hl] at hb1
  simp at hb1
  subst hb1
  obtain ⟨b', c, T, hbox⟩ := hb2
  have hbb := hbox.hand
  simp at hbb
  subst hbb
  have hcs := hbox.size
  have hrun := store_run (P := P) hsz (by omega) k3 hbox.heap (o := o') (by omega)
  have hsame : ∀ k, k < w.heap.size → hblk (.pointer (some ⟨b, 0, none⟩)) ≠ some k → (w.setRow b (Zr c.toList o' (a.eval v').cells.toList).toArray).heap[k]? = w.heap[k]? := fun k _ hne => setRow_other w b k _ (fun he => hne (by simp [hblk, he]))
  have hXb : ∀ k o, hblk (.pointer (some ⟨b, 0, none⟩)) = some k → X k o := fun k o hk => by simp [hblk] at hk; subst hk; exact (hbox.own o).2 rfl
  have hno : ∀ k o u, hblk (.pointer (some ⟨b, 0, none⟩)) = some k → CellAt w X k o u → CellAt (w.setRow b (Zr c.toList o' (a.eval v').cells.toList).toArray) X k o u := fun k o u hk hc => absurd (hXb k o hk) hc.free
  have hmono : ∀ k o u, CellAt w X k o u → CellAt (w.setRow b (Zr c.toList o' (a.eval v').cells.toList).toArray) X k o u := fun k o u hc => by
   by_cases hk : hblk (.pointer (some ⟨b, 0, none⟩)) = some k
   ·exact hno k o u hk hc
   ·exact ⟨(Y5 (hsame k hc.lt hk)).trans hc.cell, hc.free⟩
  obtain ⟨u1, u2, u3, u4, u5⟩ := upd (γ := γ) (w := w) (w' := w.setRow b (Zr c.toList o' (a.eval v').cells.toList).toArray) (X := X) (X' := X) (s := s) (id := id) (h := .pointer (some ⟨b, 0, none⟩)) (h' := .pointer (some ⟨b, 0, none⟩))
   (blk' := .box false (Zr cs o' av'.cells)) (s' := s.put id (.box false (Zr cs o' av'.cells))) hs hf hb rfl rfl rfl (by simp [World.setRow]) hsame (fun _ _ _ _ => Iff.rfl) hno (fun _ _ _ h => h)
   (fun k o hx => Nat.lt_of_lt_of_le (hs.lt k o hx) (by simp [World.setRow])) (.inl rfl)
   (by
    rw [Ws hb]
    refine ⟨b, _, T, rfl, setRow_heap w b c _ T (0, 0) hbox.heap, ?_, fun i u hu => ?_, fun i u q hu hq => ?_, hbox.own⟩
    ·rw [Qi _ _ _ (by omega), List.size_toArray, Qi _ _ _ (by simp; omega)]
     simpa using hcs
    ·rw [List.getElem?_toArray, Qj _ _ _ (by simp; omega)] at hu
     split at hu
     ·exact k3 u (by simpa using List.mem_of_getElem? hu)
     ·exact hbox.one i u (by simpa using hu)
    ·rw [List.getElem?_toArray, Qj _ _ _ (by simp; omega)] at hu
     rw [Qj _ _ _ (by omega)] at hq
     simp only [Array.length_toList] at hu
     by_cases hi : o' ≤ i ∧ i < o' + av'.cells.length
     ·rw [if_pos hi] at hq
      rw [if_pos ⟨hi.1, by omega⟩] at hu
      exact (k2 _ u q (by simpa using hu) hq).mono hmono fun _ _ _ h => h
     ·rw [if_neg hi] at hq
      rw [if_neg (by omega)] at hu
      exact (hbox.rep i u q (by simpa using hu) hq).mono hmono fun _ _ _ h => h)
   (by rw [Zd, if_pos rfl, hl]; rfl) (fun i hne => .inr ⟨by rw [Zd, if_neg hne], rfl⟩)
  rw [Ws hb] at u1 u2 u3
  exact fin _ (by rw [hxv]; exact hrun) (hK _ u3 u1)
theorem ok_st (x v : Opd) (sz : Nat) : TOk P C π (.st x v sz) := by
 intro K Q a o γ w X e s d av e' s' h hm hs hf hE hK
 obtain ⟨dst, op, type, pos, after, guard⟩ := o
 simp only [mop] at hm
 split at hm
 case h_2 => cases hm
 rename_i t x' v'
 simp only [Bool.and_eq_true, beq_iff_eq, decide_eq_true_eq] at hm
 obtain ⟨⟨⟨hsz, h0⟩, hx⟩, hv⟩ := hm
 have H := hE.ops (IOp.st x v sz).opds
 simp only [evT, Z95] at h
 have fin : ∀ (w' : World), (Instr.storeAt t (a.eval x') (a.eval v')).run P w = .ok () w' → K (a.put dst undef) w' → Oper.wp P ⟨dst, .store t x' v', type, pos, after, guard⟩ a w K Q := by
  intro w' hr hk
  unfold Oper.wp
  have : (execOp a.eval ⟨dst, .store t x' v', type, pos, after, guard⟩).run P w = .ok .skip w' := by simp only [execOp, Sem.run_bind, hr, Result.andThen_ok, Sem.run_pure]
  rw [this]
  exact hk
 split at h
 ·rename_i id o' av' hp hv'
  split at h
  case h_2 => cases h
  rename_i cs hl
  split at h
  case isFalse => cases h
  rename_i hc
  obtain ⟨hc1, hc2, hc3⟩ := hc
  simp at h
  obtain ⟨rfl, rfl, rfl⟩ := h
  exact st_ref hp hv' hl hc1 hc2 (by simpa using hc3) (by simp only [mop, hsz, hx, hv, h0]; simp) hs hf (fun y z av hy hm hr => H y z av (by simpa [IOp.opds] using hy) hm hr) fun w' k1 k2 => hK undef γ w' X k1 k2 (full_put hf) (hE.mono k1.cell fun _ _ h => h) (fun _ _ _ _ => rfl) (.p .und)
 ·rename_i id z i o' av' hp hv'
  split at h
  case h_2 => cases h
  rename_i vs s1 hfr
  split at h
  case h_2 => cases h
  rename_i T z' nl l hl
  split at h
  case h_2 => cases h
  rename_i old hold
  split at h
  case isFalse => cases h
  rename_i hc
  obtain ⟨rfl, hc1, hc2, hc3⟩ := hc
  simp only [Option.some.injEq, Prod.mk.injEq] at h
  obtain ⟨rfl, rfl, rfl⟩ := h
  have hrv := H.x' rfl hv hv' (by simp [IOp.opds])
  have hcells := cells_frz hs.one hrv hfr hc3
  obtain ⟨X1, f1, f2, f3, f4, f5, f6, f7⟩ := Z67 av'.cells (fun i => (a.eval v').cells.getD i undef) hs hf hcells.2 hfr
  have hE1 := hE.mono (γ' := γ) f3.cell fun _ _ h => h
  have hr := (hE1.ops (IOp.st x v sz).opds).x' rfl hx hp (by simp [IOp.opds])
  have hvsz : (a.eval v').cells.size = sz := by rw [hcells.1, ← f4]; exact hc1
  have hone : ∀ u ∈ (a.eval v').cells, u.oneCell' = true := fun u hu => by
   obtain ⟨k, hk⟩ := Array.getElem?_of_mem hu
   have hlt : k < vs.length := by have := (Array.getElem?_eq_some_iff.1 hk).1; omega
   have := (f5 k vs[k] (List.getElem?_eq_getElem hlt)).oneCell (List.all_eq_true.1 hc3 _ (List.getElem_mem hlt))
   simpa [hk] using this
  generalize (a.eval v') = vv at hvsz hone f5 fin
  generalize hxv : a.eval x' = xv at hr
  cases hr with
  | er id sz' i off b oo len cap hb =>
   obtain ⟨blk, hb1, hb2⟩ := f1.blk id _ hb
   rw [hl] at hb1
   simp at hb1
   subst hb1
   obtain ⟨xs, hrow⟩ := hb2
   have hnew := elem_set (o := o') (vs := vs) (hrow.shape old (List.mem_of_getElem? hold)).1 hc1 (by rw [(hrow.shape old (List.mem_of_getElem? hold)).1] at hc2; exact hc2) h0 hc3
   have hoz := (hrow.shape old (List.mem_of_getElem? hold)).1
   generalize old.setc o' vs = new at hnew hK
   rcases (hrow.rows (Xt _ _ _)).2 with ⟨hn, _⟩ | ⟨b', oo', cap', cur, hv3, hg, hcap, hcm, hcur, htake⟩
   ·cases hn
   ·simp only [Value.slice.injEq, Option.some.injEq, Addr.mk.injEq, and_true] at hv3
    obtain ⟨⟨rfl, rfl⟩, rfl, rfl⟩ := hv3
    have hi := (List.getElem?_eq_some_iff.1 hold).1
    have hmul : (i + 1) * z' ≤ l.length * z' := Nat.mul_le_mul_right _ hi
    have hmul2 : l.length * z' ≤ cap * z' := Nat.mul_le_mul_right _ hcap
    rw [Nat.add_mul] at hmul
    have hrun := store_run (P := P) hsz hvsz hone hg (o := oo + (i * z' + o')) (by omega)
    have hw2 := setRow_heap w b cur (Zr cur.toList (oo + (i * z' + o')) vv.cells.toList).toArray T (0, 0) hg
    have hsz2 : w.heap.size ≤ (w.setRow b (Zr cur.toList (oo + (i * z' + o')) vv.cells.toList).toArray).heap.size := by simp [World.setRow]
    have hoth : ∀ k, k ≠ b → (w.setRow b (Zr cur.toList (oo + (i * z' + o')) vv.cells.toList).toArray).heap[k]? = w.heap[k]? := fun k hk => setRow_other w b k _ hk
    have hos : (w.setRow b (Zr cur.toList (oo + (i * z' + o')) vv.cells.toList).toArray).os = w.os ∧ (w.setRow b (Zr cur.toList (oo + (i * z' + o')) vv.cells.toList).toArray).tape = w.tape ∧ (w.setRow b (Zr cur.toList (oo + (i * z' + o')) vv.cells.toList).toArray).output = w.output := ⟨rfl, rfl, rfl⟩
    generalize w.setRow b (Zr cur.toList (oo + (i * z' + o')) vv.cells.toList).toArray = w2 at hrun hw2 hsz2 hoth hos
    have hsame : ∀ k, k < w.heap.size → hblk (.slice (some ⟨b, oo, none⟩) l.length cap) ≠ some k → w2.heap[k]? = w.heap[k]? := fun k _ hne => hoth k (fun he => hne (by rw [he]; rfl))
    have hXb : ∀ k o, hblk (.slice (some ⟨b, oo, none⟩) l.length cap) = some k → X1 k o := fun k o hk => (hrow.own k hk o).2 (.inl rfl)
    have hno : ∀ k o u, hblk (.slice (some ⟨b, oo, none⟩) l.length cap) = some k → CellAt w X1 k o u → CellAt w2 X1 k o u := fun k o u hk hc => absurd (hXb k o hk) hc.free
    have hmono : ∀ k o u, CellAt w X1 k o u → CellAt w2 X1 k o u := fun k o u hc => by
     by_cases hk : hblk (.slice (some ⟨b, oo, none⟩) l.length cap) = some k
     ·exact hno k o u hk hc
     ·exact ⟨(Y5 (hsame k hc.lt hk)).trans hc.cell, hc.free⟩
    have hrs := rowset (w' := w2) hrow hg hcap hcm hcur htake hold hnew hc1 (by rw [hoz] at hc2; exact hc2) hvsz hone hc3 hmono hw2 (fun j c hj => (f5 j c hj).mono hmono)
    obtain ⟨u1, u2, u3, u4, u5⟩ := upd (γ := γ) (w := w) (w' := w2) (X := X1) (X' := X1) (s := s1) (id := id) (h := .slice (some ⟨b, oo, none⟩) l.length cap) (h' := .slice (some ⟨b, oo, none⟩) l.length cap)
     (blk' := .row false T z' nl (l.set i new)) (s' := s1.put id (.row false T z' nl (l.set i new))) f1 f2 hb hos.1 hos.2.1 hos.2.2 hsz2 hsame (fun _ _ _ _ => Iff.rfl) hno (fun _ _ _ h => h)
     (fun k o hx => Nat.lt_of_lt_of_le (f1.lt k o hx) hsz2) (.inl rfl) (by rw [Ws hb]; exact ⟨_, hrs⟩)
     (by rw [Zd, if_pos rfl, hl]; rfl) (fun i hne => .inr ⟨by rw [Zd, if_neg hne], rfl⟩)
    rw [Ws hb] at u1 u2 u3
    refine fin _ (by rw [hxv]; exact hrun) (hK undef γ _ X1 (f3.trans u3) u1 u2 (hE1.mono u4 fun _ _ h => h) (fun _ _ _ _ => rfl) (.p .und))
 ·cases h
end
section
variable {P : Program} {C : Call} {π : Id} {γ γ' : Hand} {w w' : World} {X X' : Own} {s : Sto} {e : Env} {a : Act}
def appX (X : Own) (v' : Value) (lent : Bool) (k : Nat) : Own := fun b o => if hblk v' = some b then (lent = false ∨ hoff v' + k ≤ o) else X b o
theorem row_append {h v' : Value} {lent : Bool} {nl : Option Bool} {T sz : Nat} {l l2 : List PV} {xs : List Value} {news : Array Value} (hrow : RowOk w X h lent T sz nl l xs) (hf : Flat w X news l2 sz) (hm : ∀ b o v, CellAt w X b o v → CellAt w' (appX X v' lent ((l.length + l2.length) * sz)) b o v)
  (ho : rowAt w' T sz v' (l.length + l2.length) (xs ++ news.toList)) (hv : v' ≠ .slice none 0 0) (hvz : v' ≠ zc) (hl2 : l2 ≠ []) : RowOk w' (appX X v' lent ((l.length + l2.length) * sz)) v' lent T sz (bif l2.isEmpty then nl else some false) (l ++ l2) (xs ++ news.toList) := by
 have hxl := hrow.len
 refine ⟨by rw [ho.1, List.length_append], .inr (by rw [List.length_append]; exact ho), ?_, fun e he => ?_, fun i e hi j c hj => ?_, fun u hu => ?_, fun b hb o => ?_⟩
 ·have : l2.isEmpty = false := by cases l2 with | nil => exact absurd rfl hl2 | cons => rfl
  rw [this]
  exact ⟨fun h => (by cases h), fun _ => ⟨hv, hvz⟩⟩
 ·rcases List.mem_append.1 he with h | h
  ·exact hrow.shape e h
  ·exact hf.shape e h
 ·by_cases hil : i < l.length
  ·rw [List.getElem?_append_left hil] at hi
   obtain ⟨u, hu, hr⟩ := hrow.rep i e hi j c hj
   exact ⟨u, by rw [List.getElem?_append_left (List.getElem?_eq_some_iff.1 hu).1]; exact hu, hr.mono hm⟩
  ·rw [List.getElem?_append_right (by omega)] at hi
   obtain ⟨u, hu, hr⟩ := hf.rep _ e hi j c hj
   have hmul : l.length * sz ≤ i * sz := Nat.mul_le_mul_right _ (by omega)
   refine ⟨u, ?_, hr.mono hm⟩
   rw [List.getElem?_append_right (by rw [hxl]; omega), hxl, Array.getElem?_toList, ← hu]
   congr 1
   rw [Nat.sub_mul]; omega
 ·rcases List.mem_append.1 hu with h | h
  ·exact hrow.one u h
  ·exact hf.one u (by simpa using h)
 ·unfold appX
  rw [if_pos hb, List.length_append]
theorem Zfq (x y : Opd) (T' sz' : Nat) {K : Act → World → Prop} {Q : Exit → Act → World → Prop} {o : Oper} {id : Id} {lent : Bool} {nl : Option Bool} {l l2 : List PV} (hp : evA.x' e true x = some (.ap id)) (hl : s.lookup id = some (.row lent T' sz' nl l))
  (hl2 : (evA.x' e true y).bind (rowOf s sz') = some l2) (hroom : l.length + l2.length ≤ room) (hm : mop P o.op (.app x y T' sz') = true) (hs : StoOk P γ w X s) (hf : Full γ s) (H : OpsOk γ w X a e [x, y])
  (hK : ∀ v γ' w' X', Evo γ w X γ' w' X' → StoOk P γ' w' X' ((s.kill id).put id (.row lent T' sz' (bif l2.isEmpty then nl else some false) (l ++ l2))) → Full γ' ((s.kill id).put id (.row lent T' sz' (bif l2.isEmpty then nl else some false) (l ++ l2))) →
   (∀ j, j ≠ id → γ' j = γ j) → RepA γ' w' X' v (.ap id) → K (a.put o.dst v) w') : o.wp P a w K Q := by
 obtain ⟨dst, op, type, pos, after, guard⟩ := o
 simp only [mop] at hm
 split at hm
 case h_2 => cases hm
 rename_i c
 split at hm
 case h_2 => cases hm
 rename_i t t' x' y' hc1 hc2 hc3
 simp only [Bool.and_eq_true, beq_iff_eq, decide_eq_true_eq] at hm
 obtain ⟨⟨⟨⟨⟨⟨⟨rfl, ht⟩, hsz⟩, h0⟩, hze⟩, hby⟩, hx⟩, hy⟩ := hm
 obtain ⟨cal, args, ats⟩ := c
 simp only at hc1 hc2 hc3
 have ha : args = #[x', y'] := by cases args; simp_all
 have ht' : ats = #[t, t] := by cases ats; simp_all
 subst hc1; subst ha; subst ht'
 have hu := Z3b ht
 split at hze
 case h_2 => cases hze
 rename_i zl hzl
 obtain ⟨i, z, hi, hiz, rfl⟩ := Z87 hzl
 have hzs : z.cells.size = sz' := by simpa using hze
 rw [hi] at hby
 have hby' : i.bytes ≤ 32768 := by simpa using hby
 have hisz : i.size = sz' := by unfold szB at hsz; rw [hi] at hsz; simpa using hsz
 have run : ∀ (v' : Value) (w' : World), (Builtin.append_ #[t, t] type #[a.eval x', a.eval y']).run P w = .ok v' w' → (execOp a.eval ⟨dst, .call ⟨.builtin .append, #[x', y'], #[t, t]⟩, type, pos, after, guard⟩).run P w = .ok (.value v') w' := by
  intro v' w' hr
  simp [execOp, resolve, invoke, builtin, hr]
 have fin : ∀ (v' : Value) (w' : World), (Builtin.append_ #[t, t] type #[a.eval x', a.eval y']).run P w = .ok v' w' → K (a.put dst v') w' → Oper.wp P ⟨dst, .call ⟨.builtin .append, #[x', y'], #[t, t]⟩, type, pos, after, guard⟩ a w K Q := by
  intro v' w' hr hk
  unfold Oper.wp
  rw [run v' w' hr]
  exact hk
 rw [Option.bind_eq_some_iff] at hl2
 obtain ⟨avy, hay, hrow2⟩ := hl2
 obtain ⟨a2, c2, news, hyv, hflat, hcase⟩ := Zgy hs h0 (H.x' rfl hy hay (by simp [IOp.opds])) hrow2
 have hr := H.x' rfl hx hp (by simp [IOp.opds])
 generalize hxv : a.eval x' = xv at hr
 cases hr with
 | ap0 id a0 hγ =>
  obtain ⟨blk, hb1, hb2⟩ := hs.blk id _ hγ
  rw [hl] at hb1
  simp at hb1
  subst hb1
  obtain ⟨xs, hrow⟩ := hb2
  obtain ⟨rfl, rfl⟩ := hrow.zero
  have lk : ((s.kill id).put id (.row lent T' sz' (bif l2.isEmpty then none else some false) ([] ++ l2))).lookup id = some (.row lent T' sz' (bif l2.isEmpty then none else some false) ([] ++ l2)) := by rw [Zd, if_pos rfl, Xi, hl]; rfl
  have lo : ∀ j, j ≠ id → ((s.kill id).put id (.row lent T' sz' (bif l2.isEmpty then none else some false) ([] ++ l2))).lookup j = (s.lookup j).map (Blk.kill id) := fun j hj => by rw [Zd, if_neg hj, Xi]
  have boxes : ∀ (v' : Value) j, j ≠ id → addH γ id v' j = γ j := fun v' j hj => by
   unfold addH
   rw [if_neg hj]
  by_cases hl20 : l2 = []
  ·subst hl20
   have hrun := Ld (P := P) (w := w) (ty := type) hu hsz a0 a2 0 0 c2 (Nat.le_refl _) (fun _ => rfl)
   obtain ⟨u1, u2, u3, u4, u5⟩ := upd (γ := γ) (w := w) (w' := w) (X := X) (X' := X) (id := id) (h := zc) (h' := zc) (s := s) (blk' := .row lent T' sz' (bif ([] : List PV).isEmpty then none else some false) ([] ++ []))
    (s' := (s.kill id).put id (.row lent T' sz' (bif ([] : List PV).isEmpty then none else some false) ([] ++ []))) hs hf hγ rfl rfl rfl (Nat.le_refl _) (fun _ _ _ => rfl) (fun _ _ _ _ => Iff.rfl) (fun _ _ _ _ h => h) (fun _ _ _ h => h) hs.lt (.inl rfl)
    (by rw [Ws hγ]; simp only [List.isEmpty_nil, cond_true, List.append_nil]; exact ⟨xs, hrow⟩) lk (fun j hj => .inl (lo j hj))
   exact fin _ w (by rw [hxv, hyv]; exact hrun) (hK _ _ w X u3 u1 u2 (boxes _) (.ap0 _ _ (by simp [addH])))
  ·obtain ⟨b2, o2, rfl, hcells⟩ := hcase.resolve_left hl20
   have hm0 : 0 < l2.length := by cases l2 with | nil => exact absurd rfl hl20 | cons => simp
   obtain ⟨v', w', hr, ho, hvn, hplace, hbel⟩ := Zet (P := P) (ty := type) (c2 := c2) (ba := a0) (olds := []) hu hi hiz hisz hby' hzs h0 (by simp) (fun _ _ _ _ h => by simp at h) (fun _ => rfl) hflat.size hcells hflat.one hroom hm0
   have hemp : l2.isEmpty = false := by cases l2 with | nil => exact absurd rfl hl20 | cons => rfl
   have hlt : w.heap.size < w'.heap.size := by
    obtain ⟨cap, cur, hv, hg⟩ := hplace
    exact (Array.getElem?_eq_some_iff.1 hg).1
   obtain ⟨cap, cur, hv', hg'⟩ := hplace
   have hblk' : hblk v' = some w.heap.size := by rw [hv']; rfl
   have hvz : v' ≠ zc := by rw [hv']; exact Xt _ _ _
   have hXo : ∀ b o, b < w.heap.size → (appX X v' lent ((([] : List PV).length + l2.length) * sz') b o ↔ X b o) := fun b o hb => by
    unfold appX
    rw [if_neg]
    intro he; rw [hblk'] at he; simp at he; omega
   have hmono : ∀ b o v, CellAt w X b o v → CellAt w' (appX X v' lent ((([] : List PV).length + l2.length) * sz')) b o v := fun b o v hc =>
    ⟨(Y5 (hbel.block b hc.lt)).trans hc.cell, fun hx => hc.free ((hXo b o hc.lt).1 hx)⟩
   obtain ⟨u1, u2, u3, u4, u5⟩ := upd (γ := γ) (w := w) (w' := w') (X := X) (X' := appX X v' lent ((([] : List PV).length + l2.length) * sz')) (id := id) (h := zc) (h' := v') (s := s) (blk' := .row lent T' sz' (bif l2.isEmpty then none else some false) ([] ++ l2))
    (s' := (s.kill id).put id (.row lent T' sz' (bif l2.isEmpty then none else some false) ([] ++ l2))) hs hf hγ hbel.os hbel.tape hbel.output hbel.size (fun b hb _ => hbel.block b hb) (fun b o hb _ => hXo b o hb) (fun b o v hb => by simp [hblk, zc] at hb)
    (fun b o hb => by simp [hblk, zc] at hb)
    (fun b o hx => by
     unfold appX at hx
     split at hx
     ·rename_i hb; rw [hblk'] at hb; simp at hb; omega
     ·exact Nat.lt_of_lt_of_le (hs.lt b o hx) hbel.size)
    (.inr fun b hb => by rw [hblk'] at hb; simp at hb; omega)
    (by
     rw [hemp]
     refine ⟨news.toList, by simpa using ho.1, .inr (by simpa using ho), ⟨fun h => (by cases h), fun _ => ⟨hvn, hvz⟩⟩, hflat.shape, fun i e hi j c hj => ?_, fun u hu => hflat.one u (by simpa using hu), fun b hb o => ?_⟩
     ·obtain ⟨u, hu, hr⟩ := hflat.rep i e (by simpa using hi) j c hj
      exact ⟨u, by simpa using hu, hr.mono hmono⟩
     ·unfold appX
      rw [if_pos hb]
      simp) lk (fun j hj => .inl (lo j hj))
   exact fin v' w' (by rw [hxv, hyv]; exact hr) (hK v' _ w' _ u3 u1 u2 (boxes v') (.ap _ _ (by simp [addH]) hvz))
 | ap id xv hγ hz =>
  obtain ⟨blk, hb1, hb2⟩ := hs.blk id _ hγ
  rw [hl] at hb1
  simp at hb1
  subst hb1
  obtain ⟨xs, hrow⟩ := hb2
  have lk : ((s.kill id).put id (.row lent T' sz' (bif l2.isEmpty then nl else some false) (l ++ l2))).lookup id = some (.row lent T' sz' (bif l2.isEmpty then nl else some false) (l ++ l2)) := by rw [Zd, if_pos rfl, Xi, hl]; rfl
  have lo : ∀ j, j ≠ id → ((s.kill id).put id (.row lent T' sz' (bif l2.isEmpty then nl else some false) (l ++ l2))).lookup j = (s.lookup j).map (Blk.kill id) := fun j hj => by rw [Zd, if_neg hj, Xi]
  have boxes : ∀ (v' : Value) j, j ≠ id → addH γ id v' j = γ j := fun v' j hj => by
   unfold addH
   rw [if_neg hj]
  by_cases hl20 : l2 = []
  ·subst hl20
   have hx0 : ∃ b n cap, xv = .slice b n cap ∧ n ≤ cap ∧ (b = none → n = 0) := by
    rcases (hrow.rows hz).2 with ⟨rfl, _⟩ | ⟨g, oo, cap, cur, rfl, hg, hcap, _⟩
    ·exact ⟨none, 0, 0, rfl, Nat.le_refl _, fun _ => rfl⟩
    ·exact ⟨_, _, cap, rfl, hcap, fun h => by cases h⟩
   obtain ⟨b, n, cap, rfl, hcap, hb0⟩ := hx0
   have hrun := Ld (P := P) (w := w) (ty := type) hu hsz b a2 n cap c2 hcap hb0
   obtain ⟨u1, u2, u3, u4, u5⟩ := upd (γ := γ) (w := w) (w' := w) (X := X) (X' := X) (id := id) (h := .slice b n cap) (h' := .slice b n cap) (s := s) (blk' := .row lent T' sz' (bif ([] : List PV).isEmpty then nl else some false) (l ++ []))
    (s' := (s.kill id).put id (.row lent T' sz' (bif ([] : List PV).isEmpty then nl else some false) (l ++ []))) hs hf hγ rfl rfl rfl (Nat.le_refl _) (fun _ _ _ => rfl) (fun _ _ _ _ => Iff.rfl) (fun _ _ _ _ h => h) (fun _ _ _ h => h) hs.lt (.inl rfl)
    (by rw [Ws hγ]; simp only [List.isEmpty_nil, cond_true, List.append_nil]; exact ⟨xs, hrow⟩) lk (fun j hj => .inl (lo j hj))
   refine fin _ w (by rw [hxv, hyv]; exact hrun) (hK _ _ w X u3 u1 u2 (boxes _) (.ap _ _ (by simp [addH]) hz))
  ·obtain ⟨b2, o2, rfl, hcells⟩ := hcase.resolve_left hl20
   have hm0 : 0 < l2.length := by cases l2 with | nil => exact absurd rfl hl20 | cons => simp
   obtain ⟨v', w', hr, ho, hg, hvn, hplace⟩ := Zgq (P := P) (ty := type) (c2 := c2) hu hi hiz hisz hby' hzs h0 (hrow.rows hz) hflat.size hcells hflat.one hroom hm0
   have hvz : v' ≠ zc := by
    rcases ho.2 with ⟨hv, _⟩ | ⟨g, oo', cap', cur', hv, _⟩
    ·exact absurd hv hvn
    ·rw [hv]; exact Xt _ _ _
   have hob : ∀ b, hblk xv ≠ some b → some b ≠ xv.ownBlock := by
    intro b hne he
    cases xv <;> simp [Value.ownBlock] at he
    rename_i ad n cp
    cases ad with
    | none => simp [Value.ownBlock] at he
    | some ad => simp [Value.ownBlock] at he; exact hne (by simp [hblk, he])
   have hX1 : ∀ b o, b < w.heap.size → hblk xv ≠ some b → (appX X v' lent ((l.length + l2.length) * sz') b o ↔ X b o) := by
    intro b o hb hne
    unfold appX
    rw [if_neg]
    intro he
    rcases hplace with ⟨e1, _, _⟩ | ⟨e1, _⟩
    ·rw [e1] at he; exact hne he
    ·rw [e1] at he; simp at he; omega
   have hcell : ∀ b o u, hblk xv = some b → CellAt w X b o u → CellAt w' (appX X v' lent ((l.length + l2.length) * sz')) b o u := by
    intro b o u hb hc
    have hown := hrow.own b hb o
    have hnx : ¬ (lent = false ∨ hoff xv + l.length * sz' ≤ o) := fun hh => hc.free (hown.2 hh)
    rcases hplace with ⟨e1, _, e3, e4⟩ | ⟨e1, e2⟩
    ·have hb' : hblk v' = some b := by rw [e1]; exact hb
     refine ⟨(e4 b o hb (by omega)).trans hc.cell, ?_⟩
     unfold appX
     rw [if_pos hb', e3]
     rintro (h | h)
     ·exact hnx (.inl h)
     ·exact hnx (.inr (by rw [Nat.add_mul] at h; omega))
    ·refine ⟨(Y5 (e2 b hc.lt)).trans hc.cell, ?_⟩
     unfold appX
     rw [if_neg (by rw [e1]; simp; have := hc.lt; omega)]
     exact hc.free
   have hm : ∀ b o v, CellAt w X b o v → CellAt w' (appX X v' lent ((l.length + l2.length) * sz')) b o v := fun b o v hc => by
    by_cases hb : hblk xv = some b
    ·exact hcell b o v hb hc
    ·exact ⟨(Y5 (hg.block b hc.lt (hob b hb))).trans hc.cell, fun hx => hc.free ((hX1 b o hc.lt hb).1 hx)⟩
   obtain ⟨u1, u2, u3, u4, u5⟩ := upd (γ := γ) (w := w) (w' := w') (X := X) (X' := appX X v' lent ((l.length + l2.length) * sz')) (id := id) (h := xv) (h' := v') (s := s) (blk' := .row lent T' sz' (bif l2.isEmpty then nl else some false) (l ++ l2))
    (s' := (s.kill id).put id (.row lent T' sz' (bif l2.isEmpty then nl else some false) (l ++ l2))) hs hf hγ hg.os hg.tape hg.output hg.size (fun b hb hne => hg.block b hb (hob b hne)) hX1 hcell
    (fun b o hb hx => by
     unfold appX at hx
     split at hx
     ·rename_i hvb
      refine (hrow.own b hb o).2 ?_
      rcases hx with h | h
      ·exact .inl h
      ·rcases hplace with ⟨_, _, e3, _⟩ | ⟨e1, _⟩
       ·exact .inr (by rw [e3, Nat.add_mul] at h; omega)
       ·rw [e1] at hvb
        simp only [Option.some.injEq] at hvb
        obtain ⟨blk, hb1, hb2⟩ := hs.blk id _ hγ
        have := hb2.lt b hb
        omega
     ·exact hx)
    (fun b o hx => by
     unfold appX at hx
     split at hx
     ·rename_i hb
      rcases ho.2 with ⟨hv, _⟩ | ⟨g, oo', cap', cur', hv, hg', _⟩
      ·exact absurd hv hvn
      ·rw [hv] at hb; simp [hblk] at hb; subst hb
       exact (Array.getElem?_eq_some_iff.1 hg').1
     ·exact Nat.lt_of_lt_of_le (hs.lt b o hx) hg.size)
    (by
     rcases hplace with ⟨e1, _, _⟩ | ⟨e1, _⟩
     ·exact .inl e1
     ·exact .inr fun b hb => by rw [e1] at hb; simp at hb; omega)
    ⟨_, row_append hrow hflat hm ho hvn hvz hl20⟩ lk (fun j hj => .inl (lo j hj))
   exact fin v' w' (by rw [hxv, hyv]; exact hr) (hK v' _ w' _ u3 u1 u2 (boxes v') (.ap _ _ (by simp [addH]) hvz))
theorem ok_app (x y : Opd) (T sz : Nat) : TOk P C π (.app x y T sz) := by
 intro K Q a o γ w X e s d av e' s' h hm hs hf hE hK
 have hm' := hm
 obtain ⟨dst, op, type, pos, after, guard⟩ := o
 simp only [mop] at hm
 split at hm
 case h_2 => cases hm
 rename_i c
 split at hm
 case h_2 => cases hm
 rename_i t t' x' y' hc1 hc2 hc3
 simp only [Bool.and_eq_true, beq_iff_eq, decide_eq_true_eq] at hm
 obtain ⟨⟨⟨⟨⟨⟨⟨rfl, ht⟩, hsz⟩, h0⟩, hze⟩, hby⟩, hx⟩, hy⟩ := hm
 obtain ⟨cal, args, ats⟩ := c
 simp only at hc1 hc2 hc3
 have ha : args = #[x', y'] := by cases args; simp_all
 have ht' : ats = #[t, t] := by cases ats; simp_all
 subst hc1; subst ha; subst ht'
 have hu := Z3b ht
 split at hze
 case h_2 => cases hze
 rename_i zl hzl
 obtain ⟨i, z, hi, hiz, rfl⟩ := Z87 hzl
 have hzs : z.cells.size = sz := by simpa using hze
 rw [hi] at hby
 have hby' : i.bytes ≤ 32768 := by simpa using hby
 have hisz : i.size = sz := by unfold szB at hsz; rw [hi] at hsz; simpa using hsz
 have H := hE.ops (IOp.app x y T sz).opds
 simp only [evT, Z95] at h
 have run : ∀ (v' : Value) (w' : World), (Builtin.append_ #[t, t] type #[a.eval x', a.eval y']).run P w = .ok v' w' → (execOp a.eval ⟨dst, .call ⟨.builtin .append, #[x', y'], #[t, t]⟩, type, pos, after, guard⟩).run P w = .ok (.value v') w' := by
  intro v' w' hr
  simp [execOp, resolve, invoke, builtin, hr]
 have fin : ∀ (v' : Value) (w' : World), (Builtin.append_ #[t, t] type #[a.eval x', a.eval y']).run P w = .ok v' w' → K (a.put dst v') w' → Oper.wp P ⟨dst, .call ⟨.builtin .append, #[x', y'], #[t, t]⟩, type, pos, after, guard⟩ a w K Q := by
  intro v' w' hr hk
  unfold Oper.wp
  rw [run v' w' hr]
  exact hk
 split at h
 case h_2 => cases h
 rename_i l2 hl2
 have hl2' := hl2
 rw [Option.bind_eq_some_iff] at hl2
 obtain ⟨avy, hay, hrow2⟩ := hl2
 obtain ⟨a2, c2, news, hyv, hflat, hcase⟩ := Zgy hs h0 (H.x' rfl hy hay (by simp [IOp.opds])) hrow2
 split at h
 ·rename_i id hp
  split at h
  case h_2 => cases h
  rename_i lent T' sz' nl l hl
  split at h
  case isFalse => cases h
  rename_i hc
  obtain ⟨rfl, rfl, hroom⟩ := hc
  simp only [Option.some.injEq, Prod.mk.injEq] at h
  obtain ⟨rfl, rfl, rfl⟩ := h
  exact Zfq x y T' sz' hp hl hl2' hroom hm' hs hf H fun v γ' w' X' k1 k2 k3 k5 k6 => hK v γ' w' X' k1 k2 k3 (hE.kill k1.cell fun i v hi hv => by rw [k5 i hi]; exact hv) (fun j b hb hbx => k5 j (by
   rintro rfl
   rw [hl] at hb
   simp at hb
   subst hb
   simp [Blk.isBox] at hbx)) k6
 ·rename_i szn hp
  split at h
  ·cases h
  rename_i hno
  split at h
  case isFalse => cases h
  rename_i hroom
  simp only [Option.some.injEq, Prod.mk.injEq] at h
  obtain ⟨rfl, rfl, rfl⟩ := h
  have hr := (H.x' rfl hx hp (by simp [IOp.opds])).ofP
  have hnl := Q1 hno
  have hγ := hs.noHand hnl
  have hxv : a.eval x' = .slice none 0 0 := by
   generalize a.eval x' = xv at hr
   cases hr with
   | slE b cap sz nl k1 k2 k0 km =>
    have := k1 rfl
    subst this
    rw [k0 rfl]
   | slC bb oo cap sz nl l f k1 hn hM hz hc hh => exact absurd rfl k1
  have hs2 : StoOk P γ w X ((d :: π, .row false T sz l2.isEmpty l2) :: s) := hs.more [(d :: π, .row false T sz l2.isEmpty l2)] (fun j hj => by
   rw [List.lookup_cons]
   have : (j == d :: π) = false := by
    rw [beq_eq_false_iff_ne]
    rintro rfl
    exact hj hγ
   simp [this])
  have full : ∀ (v' : Value), Full (addH γ (d :: π) v') ((d :: π, .row false T sz l2.isEmpty l2) :: s) := fun v' j b hb => by
   unfold addH
   by_cases hj : j = d :: π
   ·simp [hj]
   ·rw [if_neg hj]
    rw [List.lookup_cons] at hb
    have : (j == d :: π) = false := by simpa using hj
    simp only [this] at hb
    exact hf j b hb
  have boxes : ∀ (v' : Value) id' b, s.lookup id' = some b → b.isBox = true → addH γ (d :: π) v' id' = γ id' := fun v' id' b hb _ => by
   unfold addH
   rw [if_neg]
   rintro rfl
   rw [hnl] at hb
   cases hb
  have mono : ∀ (v' : Value) i v, γ i = some v → addH γ (d :: π) v' i = some v := fun v' i v hv => by
   unfold addH
   rw [if_neg]
   ·exact hv
   ·rintro rfl
    rw [hγ] at hv
    cases hv
  have lkn : ((d :: π, Blk.row false T sz (some l2.isEmpty) l2) :: s).lookup (d :: π) = some (.row false T sz (some l2.isEmpty) l2) := by simp
  by_cases hl20 : l2 = []
  ·subst hl20
   have hrun := Ld (P := P) (w := w) (ty := type) hu hsz none a2 0 0 c2 (Nat.le_refl _) (fun _ => rfl)
   obtain ⟨g1, g2⟩ := grow (γ := γ) (γ' := addH γ (d :: π) (.slice none 0 0)) (w := w) (w' := w) (X := X) (X' := X) hs2 (Below.refl _ _) (mono _) (fun _ _ _ => Iff.rfl) hs.lt
    (fun j h hj hn => by
     unfold addH at hj
     split at hj
     ·rename_i he; subst he; simp at hj; subst hj
      exact ⟨⟨_, lkn, [], ⟨by simp, .inr (Z8h (World.ownsRow_nil w 0 T sz)), ⟨fun _ => rfl, fun h => (by simp at h)⟩, by simp, by simp, by simp, fun b hb => by simp [hblk] at hb⟩⟩, fun k hk => by simp [hblk] at hk⟩
     ·rw [hn] at hj; cases hj)
    (fun i j h k b hi hj hi' hj' hb _ => by
     unfold addH at hi'
     split at hi'
     ·simp at hi'; subst hi'; simp [hblk] at hb
     ·rw [hi] at hi'; cases hi')
   exact fin _ w (by rw [hxv, hyv]; exact hrun) (hK _ _ w X g2 g1 (full _) (hE.mono g2.cell (mono _)) (boxes _) (.ap _ _ (by simp [addH]) (Ne.symm Z2a)))
  ·obtain ⟨b2, o2, rfl, hcells⟩ := hcase.resolve_left hl20
   have hm0 : 0 < l2.length := by cases l2 with | nil => exact absurd rfl hl20 | cons => simp
   obtain ⟨v', w', hr, ho, hg, hvn, hplace⟩ := Zgq (P := P) (ty := type) (c2 := c2) (n := 0) (xs := []) hu hi hiz hisz hby' hzs h0 (Z8h (World.ownsRow_nil w 0 T sz)) hflat.size hcells hflat.one (by simpa using hroom) hm0
   have hpl : hblk v' = some w.heap.size ∧ ∀ b, b < w.heap.size → w'.heap[b]? = w.heap[b]? := by
    rcases hplace with ⟨_, e, _⟩ | e
    ·exact absurd rfl e
    ·exact e
   have hvz : v' ≠ zc := by
    rcases ho.2 with ⟨hv, _⟩ | ⟨g, oo', cap', cur', hv, _⟩
    ·exact absurd hv hvn
    ·rw [hv]; exact Xt _ _ _
   have hb : Below w.heap.size w w' := ⟨hg.os, hg.tape, hg.output, hg.size, fun k hk => hpl.2 k hk⟩
   simp only [Nat.zero_add, List.nil_append] at ho
   have hlt : w.heap.size < w'.heap.size := by
    rcases ho.2 with ⟨hv, _⟩ | ⟨g, oo', cap', cur', hv, hg', _⟩
    ·exact absurd hv hvn
    ·have := hpl.1; rw [hv] at this; simp [hblk] at this; rw [← this]
     exact (Array.getElem?_eq_some_iff.1 hg').1
   have hmono := fun b o v (hc : CellAt w X b o v) => hc.grow hb
   have hemp : l2.isEmpty = false := by cases l2 with | nil => exact absurd rfl hl20 | cons => rfl
   obtain ⟨g1, g2⟩ := grow (γ := γ) (γ' := addH γ (d :: π) v') (w := w) (w' := w') (X := X) (X' := addX X w.heap.size) hs2 hb (mono _)
    (fun b o hb' => ⟨fun hx => hx.elim (fun h => h) (fun he => by omega), .inl⟩)
    (fun b o hx => hx.elim (fun h => Nat.lt_of_lt_of_le (hs.lt b o h) hb.size) (fun he => by omega))
    (fun j h hj hn => by
     unfold addH at hj
     split at hj
     ·rename_i he; subst he; simp at hj; subst hj
      refine ⟨⟨_, lkn, news.toList, ⟨ho.1, .inr ho, ?_, hflat.shape, fun i e hi j c hj => ?_, fun u hu => hflat.one u (by simpa using hu), fun b hb o => ⟨fun _ => .inl rfl, fun _ => .inr (by rw [hpl.1] at hb; simp at hb; exact hb.symm)⟩⟩⟩, fun k hk => by rw [hpl.1] at hk; simp at hk; omega⟩
      ·rw [hemp]; exact ⟨fun h => (by cases h), fun _ => ⟨hvn, hvz⟩⟩
      ·obtain ⟨u, hu, hr⟩ := hflat.rep i e hi j c hj
       exact ⟨u, by simpa using hu, hr.mono hmono⟩
     ·rw [hn] at hj; cases hj)
    (fun i j h k b hi hj hi' hj' _ _ => by
     unfold addH at hi' hj'
     split at hi'
     ·split at hj'
      ·simp_all
      ·rw [hj] at hj'; cases hj'
     ·rw [hi] at hi'; cases hi')
   exact fin v' w' (by rw [hxv, hyv]; exact hr) (hK v' _ w' _ g2 g1 (full _) (hE.mono g2.cell (mono _)) (boxes _) (.ap _ _ (by simp [addH]) hvz))
 ·rename_i szc nlc lc hp
  split at h
  ·cases h
  rename_i hno
  split at h
  case isFalse => cases h
  rename_i hc
  obtain ⟨rfl, hroom, hor⟩ := hc
  simp only [Option.some.injEq, Prod.mk.injEq] at h
  obtain ⟨rfl, rfl, rfl⟩ := h
  have hr := H.x' rfl hx hp (by simp [IOp.opds])
  have hnl := Q1 hno
  have hγ := hs.noHand hnl
  generalize hxv : a.eval x' = xv at hr
  cases hr with
  | clip ba _ _ _ hrep =>
  generalize hfl : (bif l2.isEmpty then (bif nlc == some true then nlc else none) else some false) = fl at hK
  have hs2 : StoOk P γ w X ((d :: π, .row false T szc fl (lc ++ l2)) :: s) := hs.more [(d :: π, .row false T szc fl (lc ++ l2))] (fun j hj => by
   rw [List.lookup_cons]
   have : (j == d :: π) = false := by
    rw [beq_eq_false_iff_ne]
    rintro rfl
    exact hj hγ
   simp [this])
  have full : ∀ (v' : Value), Full (addH γ (d :: π) v') ((d :: π, .row false T szc fl (lc ++ l2)) :: s) := fun v' j b hb => by
   unfold addH
   by_cases hj : j = d :: π
   ·simp [hj]
   ·rw [if_neg hj]
    rw [List.lookup_cons] at hb
    have : (j == d :: π) = false := by simpa using hj
    simp only [this] at hb
    exact hf j b hb
  have boxes : ∀ (v' : Value) id' b, s.lookup id' = some b → b.isBox = true → addH γ (d :: π) v' id' = γ id' := fun v' id' b hb _ => by
   unfold addH
   rw [if_neg]
   rintro rfl
   rw [hnl] at hb
   cases hb
  have mono : ∀ (v' : Value) i v, γ i = some v → addH γ (d :: π) v' i = some v := fun v' i v hv => by
   unfold addH
   rw [if_neg]
   ·exact hv
   ·rintro rfl
    rw [hγ] at hv
    cases hv
  have lkn : ((d :: π, Blk.row false T szc fl (lc ++ l2)) :: s).lookup (d :: π) = some (.row false T szc fl (lc ++ l2)) := by simp
  by_cases hl20 : l2 = []
  ·subst hl20
   have hlc : lc = [] := hor.resolve_right (fun h => h rfl)
   subst hlc
   have hrun := Ld (P := P) (w := w) (ty := type) hu hsz ba a2 0 0 c2 (Nat.le_refl _) (fun _ => rfl)
   simp only [List.isEmpty_nil, cond_true] at hfl
   have hh : ∃ hv : Value, (hv = .slice none 0 0 ∨ hv = zc) ∧ (∀ γ' : Hand, γ' (d :: π) = some hv → RepA γ' w X (.slice ba 0 0) (.ap (d :: π))) ∧ (fl = some true → hv = .slice none 0 0) ∧ fl ≠ some false := by
    cases nlc with
    | none => subst hfl; exact ⟨zc, .inr rfl, fun γ' h => .ap0 _ _ h, fun h => (by simp at h), by simp⟩
    | some b => cases b with
     | false => subst hfl; exact ⟨zc, .inr rfl, fun γ' h => .ap0 _ _ h, fun h => (by simp at h), by simp⟩
     | true =>
      subst hfl
      refine ⟨.slice none 0 0, .inl rfl, fun γ' h => ?_, fun _ => rfl, by simp⟩
      have hb : ba = none := by
       obtain ⟨n, c, hv⟩ := nil_base hrep
       simp only [Value.slice.injEq] at hv
       exact hv.1
      subst hb
      exact .ap _ _ h (Ne.symm Z2a)
   obtain ⟨hv, hv1, hv2, hv3, hv4⟩ := hh
   have hvb : hblk hv = none := by rcases hv1 with rfl | rfl <;> rfl
   obtain ⟨g1, g2⟩ := grow (γ := γ) (γ' := addH γ (d :: π) hv) (w := w) (w' := w) (X := X) (X' := X) hs2 (Below.refl _ _) (mono _) (fun _ _ _ => Iff.rfl) hs.lt
    (fun j h hj hn => by
     unfold addH at hj
     split at hj
     ·rename_i he; subst he; simp at hj; subst hj
      refine ⟨⟨_, lkn, [], ⟨by simp, ?_, ⟨hv3, fun h => absurd h hv4⟩, by simp, by simp, by simp, fun b hb => by rw [hvb] at hb; cases hb⟩⟩, fun k hk => by rw [hvb] at hk; cases hk⟩
      rcases hv1 with rfl | rfl
      ·exact .inr (Z8h (World.ownsRow_nil w 0 T szc))
      ·exact .inl ⟨rfl, rfl⟩
     ·rw [hn] at hj; cases hj)
    (fun i j h k b hi hj hi' hj' hb _ => by
     unfold addH at hi'
     split at hi'
     ·simp at hi'; subst hi'; rw [hvb] at hb; cases hb
     ·rw [hi] at hi'; cases hi')
   exact fin _ w (by rw [hxv, hyv]; exact hrun) (hK _ _ w X g2 g1 (full _) (hE.mono g2.cell (mono _)) (boxes _) (hv2 _ (by simp [addH])))
  ·obtain ⟨b2, o2, rfl, hcells⟩ := hcase.resolve_left hl20
   have hm0 : 0 < l2.length := by cases l2 with | nil => exact absurd rfl hl20 | cons => simp
   have hemp : l2.isEmpty = false := by cases l2 with | nil => exact absurd rfl hl20 | cons => rfl
   obtain ⟨a1, c1, olds, hov, hflo, hoc⟩ := Zgy (l := lc) (γ := γ) hs h0 (.p hrep) (by simp [rowOf])
   simp only [Value.slice.injEq, true_and] at hov
   obtain ⟨rfl, rfl⟩ := hov
   obtain ⟨v', w', hr, ho, hvn, hplace, hb⟩ := Zet (P := P) (ty := type) (c2 := c2) (ba := ba) (n := lc.length) (olds := olds.toList) hu hi hiz hisz hby' hzs h0 (by simpa using hflo.size) (fun ad had j u hju => by
     rcases hoc with h | ⟨b, o, hbo, hcell⟩
     ·subst h
      have := hflo.size
      simp at this
      rw [this] at hju
      simp at hju
     ·rw [had] at hbo
      simp only [Option.some.injEq] at hbo
      subst hbo
      rw [Addr.add_lit]
      exact hcell j u (by simpa using hju)) (fun h => by
     rcases hoc with h' | ⟨b, o, hbo, _⟩
     ·rw [h']; rfl
     ·rw [h] at hbo; cases hbo) hflat.size hcells hflat.one hroom hm0
   obtain ⟨cap, cur, hv', hg'⟩ := hplace
   have hblk' : hblk v' = some w.heap.size := by rw [hv']; rfl
   have hvz : v' ≠ zc := by rw [hv']; exact Xt _ _ _
   have hlt : w.heap.size < w'.heap.size := (Array.getElem?_eq_some_iff.1 hg').1
   have hmono := fun b o v (hc : CellAt w X b o v) => hc.grow hb
   rw [hemp] at hfl
   simp only [cond_false] at hfl
   subst hfl
   obtain ⟨g1, g2⟩ := grow (γ := γ) (γ' := addH γ (d :: π) v') (w := w) (w' := w') (X := X) (X' := addX X w.heap.size) hs2 hb (mono _)
    (fun b o hb' => ⟨fun hx => hx.elim (fun h => h) (fun he => by omega), .inl⟩)
    (fun b o hx => hx.elim (fun h => Nat.lt_of_lt_of_le (hs.lt b o h) hb.size) (fun he => by omega))
    (fun j h hj hn => by
     unfold addH at hj
     split at hj
     ·rename_i he; subst he; simp at hj; subst hj
      refine ⟨⟨_, lkn, olds.toList ++ news.toList, ⟨by simpa using ho.1, .inr (by simpa using ho), ⟨fun h => (by cases h), fun _ => ⟨hvn, hvz⟩⟩, fun e he => ?_, fun i e hi j c hj => ?_, fun u hu => ?_, fun b hb o => ⟨fun _ => .inl rfl, fun _ => .inr (by rw [hblk'] at hb; simp at hb; exact hb.symm)⟩⟩⟩, fun k hk => by rw [hblk'] at hk; simp at hk; omega⟩
      ·rcases List.mem_append.1 he with h | h
       ·exact hflo.shape e h
       ·exact hflat.shape e h
      ·have hos := hflo.size
       by_cases hil : i < lc.length
       ·rw [List.getElem?_append_left hil] at hi
        obtain ⟨u, hu, hr⟩ := hflo.rep i e hi j c hj
        have hu' : olds.toList[i * szc + j]? = some u := by simpa using hu
        exact ⟨u, by rw [List.getElem?_append_left (List.getElem?_eq_some_iff.1 hu').1]; exact hu', hr.mono hmono⟩
       ·rw [List.getElem?_append_right (by omega)] at hi
        obtain ⟨u, hu, hr⟩ := hflat.rep _ e hi j c hj
        have hmul : lc.length * szc ≤ i * szc := Nat.mul_le_mul_right _ (by omega)
        refine ⟨u, ?_, hr.mono hmono⟩
        rw [List.getElem?_append_right (by simp; omega), Array.length_toList, hos, Array.getElem?_toList, ← hu]
        congr 1
        rw [Nat.sub_mul]; omega
      ·rcases List.mem_append.1 hu with h | h
       ·exact hflo.one u (by simpa using h)
       ·exact hflat.one u (by simpa using h)
     ·rw [hn] at hj; cases hj)
    (fun i j h k b hi hj hi' hj' _ _ => by
     unfold addH at hi' hj'
     split at hi'
     ·split at hj'
      ·simp_all
      ·rw [hj] at hj'; cases hj'
     ·rw [hi] at hi'; cases hi')
   exact fin v' w' (by rw [hxv, hyv]; exact hr) (hK v' _ w' _ g2 g1 (full _) (hE.mono g2.cell (mono _)) (boxes _) (.ap _ _ (by simp [addH]) hvz))
 ·cases h
end
end Go.Proofs.YteecfnfjlclhdaaGreat.V
