/- Copies into own rows, and their clearing. Maps and boxed arrays: the operations that write. Operations that lend, and calls on the caller's own store. Calls on the caller's own store. Single operations of a region, with their guards. Regions: in the order of the text, or in whatever order is drawn. -/
import Derived.Test.YteecfnfjlclhdaaGreatK2
import Derived.StillTail

set_option linter.unusedSimpArgs false
set_option linter.unusedVariables false

/- Copies into own rows, and their clearing. -/
namespace Go.Proofs.YteecfnfjlclhdaaGreat.V
open Go Go.RowKit
section
variable {P : Program} {C : Call} {π : Id} {γ γ' : Hand} {w w' : World} {X X' : Own} {s : Sto} {e : Env} {a : Act}
theorem Flat.take {us : Array Value} {l : List PV} {sz : Nat} (h : Flat w X us l sz) (n : Nat) : Flat w X (us.toList.take (n * sz)).toArray (l.take n) sz := by
 have hsz := h.size
 refine ⟨?_, fun q hq => h.shape q (List.mem_of_mem_take hq), fun i q hi j c hj => ?_, fun u hu => h.one u (by
  have : u ∈ us.toList.take (n * sz) := by simpa using hu
  simpa using List.mem_of_mem_take this)⟩
 ·simp only [List.size_toArray, List.length_take, Array.length_toList, hsz]
  rcases Nat.le_total n l.length with hn | hn
  ·have := Nat.mul_le_mul_right sz hn
   rw [Nat.min_eq_left this, Nat.min_eq_left hn]
  ·have := Nat.mul_le_mul_right sz hn
   rw [Nat.min_eq_right this, Nat.min_eq_right hn]
 ·rw [List.getElem?_take] at hi
  split at hi
  case isFalse => cases hi
  rename_i hin
  obtain ⟨u, hu, hr⟩ := h.rep i q hi j c hj
  have hjz : j < sz := by have := (List.getElem?_eq_some_iff.1 hj).1; have := (h.shape q (List.mem_of_getElem? hi)).1; omega
  have hm : (i + 1) * sz ≤ n * sz := Nat.mul_le_mul_right _ hin
  rw [Nat.add_mul] at hm
  refine ⟨u, ?_, hr⟩
  rw [List.getElem?_toArray, List.getElem?_take, if_pos (by omega), Array.getElem?_toList]
  exact hu
theorem ok_shf (x lo : Opd) (sz : Nat) : TOk P C π (.shf x lo sz) := by
 intro K Q a o γ w X e s d av e' s' h hm hs hf hE hK
 obtain ⟨dst, op, type, pos, after, guard⟩ := o
 simp only [mop] at hm
 split at hm
 case h_2 => cases hm
 rename_i t x' lo' hi' mx
 simp only [Bool.and_eq_true] at hm
 obtain ⟨⟨⟨⟨ht, hmx⟩, hx⟩, hlo⟩, hhi⟩ := hm
 have hmx' : mx = none := by simpa using hmx
 have hhi' : hi' = none := by simpa using hhi
 subst hmx'; subst hhi'
 cases lo' with
 | none => simp [mopdO] at hlo
 | some zl =>
 simp only [mopdO] at hlo
 split at ht
 case h_2 => cases ht
 rename_i el hu
 have hsz : szB P el = some sz := by simpa using ht
 have H := hE.ops (IOp.shf x lo sz).opds
 simp only [evT, Z95, evT_pv] at h
 split at h
 case h_2 => cases h
 rename_i id n hp hn
 split at h
 case h_2 => cases h
 rename_i T sz' nl l hl
 split at h
 case isFalse => cases h
 rename_i hc
 obtain ⟨rfl, hle⟩ := hc
 simp only [Option.some.injEq, Prod.mk.injEq] at h
 obtain ⟨rfl, rfl, rfl⟩ := h
 rw [Option.bind_eq_some_iff] at hn
 obtain ⟨pn, hpn, hn⟩ := hn
 obtain ⟨k, j, hj, hj0, rfl⟩ := nat?_some hn
 simp only [Option.some.injEq] at hj
 subst hj
 have hzl := (H.pv rfl hlo hpn (by simp [IOp.opds])).intI
 have hr := H.x' rfl hx hp (by simp [IOp.opds])
 generalize hxv : a.eval x' = xv at hr
 have fin : ∀ (b : Option Addr) (cap : Nat), xv = .slice b l.length cap → l.length ≤ cap → K (a.put dst (.slice (if cap = j.toNat then b else b.map (·.add (j.toNat * sz'))) (l.length - j.toNat) (cap - j.toNat))) w → Oper.wp P ⟨dst, .slice t x' (some zl) none none, type, pos, after, guard⟩ a w K Q := by
  intro b cap hv hlc hk
  have hbounds : (Instr.sliceBounds true l.length cap (some (a.eval zl)) none none).run P w = .ok (j.toNat, l.length, cap) w := by
   simp [Instr.sliceBounds, hzl, Vf hj0 hle]
  have : (execOp a.eval ⟨dst, .slice t x' (some zl) none none, type, pos, after, guard⟩).run P w = .ok (.value (.slice (if cap = j.toNat then b else b.map (·.add (j.toNat * sz'))) (l.length - j.toNat) (cap - j.toNat))) w := by
   simp [execOp, Instr.sliceAt, run_underlying hu, hxv, hv, Instr.slice, hbounds, Wy hsz]
  unfold Oper.wp
  rw [this]
  exact hk
 have lk : ((s.kill id).put id (.row false T sz' nl (l.drop j.toNat))).lookup id = some (.row false T sz' nl (l.drop j.toNat)) := by rw [Zd, if_pos rfl, Xi, hl]; rfl
 have lo : ∀ i, i ≠ id → ((s.kill id).put id (.row false T sz' nl (l.drop j.toNat))).lookup i = (s.lookup i).map (Blk.kill id) := fun i hi => by rw [Zd, if_neg hi, Xi]
 have bx : ∀ (v' : Value) i b, s.lookup i = some b → b.isBox = true → addH γ id v' i = γ i := fun v' i b hb hbx => by
  unfold addH
  rw [if_neg]
  rintro rfl
  rw [hl] at hb
  simp at hb
  subst hb
  simp [Blk.isBox] at hbx
 have kl : ∀ (v' : Value) i v, i ≠ id → γ i = some v → addH γ id v' i = some v := fun v' i v hi hv => by unfold addH; rw [if_neg hi]; exact hv
 have same : ∀ (h0 : Value), γ id = some h0 → j.toNat = 0 → RepA γ w X (.slice none 0 0) (.ap id) ∨ True → (∀ v', RepA (addH γ id h0) w X v' (.ap id) → K (a.put dst v') w) := by
  intro h0 hγ hz _ v' hv'
  obtain ⟨blk, hb1, hb2⟩ := hs.blk id _ hγ
  rw [hl] at hb1
  simp at hb1
  subst hb1
  obtain ⟨u1, u2, u3, u4, u5⟩ := upd (γ := γ) (w := w) (w' := w) (X := X) (X' := X) (id := id) (h := h0) (h' := h0) (s := s) (blk' := .row false T sz' nl (l.drop j.toNat))
   (s' := (s.kill id).put id (.row false T sz' nl (l.drop j.toNat))) hs hf hγ rfl rfl rfl (Nat.le_refl _) (fun _ _ _ => rfl) (fun _ _ _ _ => Iff.rfl) (fun _ _ _ _ h => h) (fun _ _ _ h => h) hs.lt (.inl rfl)
   (by rw [Ws hγ, hz, List.drop_zero]; exact hb2) lk (fun i hi => .inl (lo i hi))
  exact hK v' _ w X u3 u1 u2 (hE.kill u4 (kl h0)) (bx h0) hv'
 cases hr with
 | ap0 id a0 hγ =>
  obtain ⟨blk, hb1, hb2⟩ := hs.blk id _ hγ
  rw [hl] at hb1
  simp at hb1
  subst hb1
  obtain ⟨xs, hrow⟩ := hb2
  obtain ⟨rfl, _⟩ := hrow.zero
  have hz : j.toNat = 0 := by simpa using hle
  refine fin a0 0 rfl (Nat.le_refl _) (same zc hγ hz (.inr trivial) _ ?_)
  rw [hz]
  exact .ap0 _ _ (by simp [addH])
 | ap id xv hγ hz =>
  obtain ⟨blk, hb1, hb2⟩ := hs.blk id _ hγ
  rw [hl] at hb1
  simp at hb1
  subst hb1
  have hb2' := hb2
  obtain ⟨xs, hrow⟩ := hb2
  rcases (hrow.rows hz).2 with ⟨rfl, hn0⟩ | ⟨g, oo, cap, cur, rfl, hg, hcap, hcm, hcur, ht⟩
  ·have hz0 : j.toNat = 0 := by omega
   refine fin none 0 (by rw [hn0]) (by omega) (same _ hγ hz0 (.inr trivial) _ ?_)
   rw [hz0, hn0]
   exact .ap _ _ (by simp [addH]) hz
  ·have hml : j.toNat * sz' ≤ l.length * sz' := Nat.mul_le_mul_right _ hle
   have hml2 : l.length * sz' ≤ cap * sz' := Nat.mul_le_mul_right _ hcap
   have hxl := hrow.len
   have hblk0 : ∀ (b : Nat), hblk (.slice (some ⟨g, oo, none⟩) l.length cap) = some b → b = g := fun b hb => by simp [hblk] at hb; exact hb.symm
   have hX : ∀ o, X g o := fun o => (hrow.own g rfl o).2 (.inl rfl)
   have hdl : (l.drop j.toNat).length = l.length - j.toNat := List.length_drop ..
   obtain ⟨o2, hv2, ho2⟩ : ∃ o2, (if cap = j.toNat then (some ⟨g, oo, none⟩ : Option Addr) else (some ⟨g, oo, none⟩ : Option Addr).map (·.add (j.toNat * sz'))) = some ⟨g, o2, none⟩ ∧ (o2 = oo ∧ cap = j.toNat ∨ o2 = oo + j.toNat * sz') := by
    by_cases hcj : cap = j.toNat
    ·exact ⟨oo, by rw [if_pos hcj], .inl ⟨rfl, hcj⟩⟩
    ·exact ⟨oo + j.toNat * sz', by rw [if_neg hcj]; simp [Addr.add_lit], .inr rfl⟩
   have hrow2 : RowOk w X (.slice (some ⟨g, o2, none⟩) (l.length - j.toNat) (cap - j.toNat)) false T sz' nl (l.drop j.toNat) (xs.drop (j.toNat * sz')) := by
    refine ⟨by rw [List.length_drop, hxl, hdl, Nat.sub_mul], .inr ⟨by rw [List.length_drop, hxl, hdl, Nat.sub_mul], .inr ⟨g, o2, cap - j.toNat, cur, by rw [hdl], hg, by omega, by omega, ?_, ?_⟩⟩, ⟨fun h => ?_, fun _ => ⟨by simp, Xt _ _ _⟩⟩,
     fun q hq => hrow.shape q (List.mem_of_mem_drop hq), fun i q hi i2 c hj => ?_, fun u hu => hrow.one u (List.mem_of_mem_drop hu), fun b hb o => ?_⟩
    ·rcases ho2 with ⟨rfl, hcj⟩ | rfl
     ·rw [hcj, Nat.sub_self]; omega
     ·rw [Nat.sub_mul]; omega
    ·rcases ho2 with ⟨rfl, hcj⟩ | rfl
     ·have : l.length = j.toNat := by omega
      rw [hdl, this, Nat.sub_self, Nat.zero_mul, List.take_zero, List.drop_eq_nil_of_le (by rw [hxl, this]; exact Nat.le_refl _)]
     ·rw [hdl, Nat.sub_mul, ← List.drop_drop, ← List.drop_take, ht]
    ·have := hrow.nil.1 h; cases this
    ·rw [List.getElem?_drop] at hi
     obtain ⟨u, hu, hr⟩ := hrow.rep _ q hi i2 c hj
     refine ⟨u, ?_, hr⟩
     rw [List.getElem?_drop, ← hu]
     congr 1
     rw [Nat.add_mul]; omega
    ·simp only [hblk, Option.some.injEq] at hb
     subst hb
     exact ⟨fun _ => .inl rfl, fun _ => hX o⟩
   obtain ⟨u1, u2, u3, u4, u5⟩ := upd (γ := γ) (w := w) (w' := w) (X := X) (X' := X) (id := id) (h := .slice (some ⟨g, oo, none⟩) l.length cap) (h' := .slice (some ⟨g, o2, none⟩) (l.length - j.toNat) (cap - j.toNat)) (s := s) (blk' := .row false T sz' nl (l.drop j.toNat))
    (s' := (s.kill id).put id (.row false T sz' nl (l.drop j.toNat))) hs hf hγ rfl rfl rfl (Nat.le_refl _) (fun _ _ _ => rfl) (fun _ _ _ _ => Iff.rfl) (fun _ _ _ _ h => h) (fun _ _ _ h => h) hs.lt (.inl rfl)
    ⟨_, hrow2⟩ lk (fun i hi => .inl (lo i hi))
   refine fin _ cap rfl hcap ?_
   rw [hv2]
   exact hK _ _ w X u3 u1 u2 (hE.kill u4 (kl _)) (bx _) (.ap _ _ (by simp [addH]) (Xt _ _ _))
end
section
variable {P : Program} {C : Call} {π : Id}
theorem ok_mpu (m k v : Opd) (z : PV) : TOk P C π (.mpu m k v z) := by
 intro K Q a o γ w X e s d av e' s' h hm hs hf hE hK
 obtain ⟨dst, op, type, pos, after, guard⟩ := o
 simp only [mop] at hm
 split at hm
 case h_2 => cases hm
 rename_i t m' k' v'
 simp only [Bool.and_eq_true] at hm
 obtain ⟨⟨⟨ht, hm1⟩, hm2⟩, hm3⟩ := hm
 split at ht
 case h_2 => cases ht
 rename_i kt et hu'
 have H := hE.ops (IOp.mpu m k v z).opds
 simp only [evT, Z95, evT_pv] at h
 split at h
 case h_2 => cases h
 rename_i id kp vp hxm hxk hxv
 split at h
 case h_2 => cases h
 rename_i u zv l hku hz hl
 split at h
 case isFalse => cases h
 rename_i hc
 simp only [Bool.and_eq_true] at hc
 obtain ⟨hu, hkl⟩ := hc
 obtain ⟨res, hres, he⟩ := map_some h
 simp only [Prod.mk.injEq] at he
 obtain ⟨rfl, rfl, rfl⟩ := he
 rw [hz] at ht
 have fin : ∀ (w' : World), (Instr.mapUpdate t (a.eval m') (a.eval k') (a.eval v')).run P w = .ok () w' → K (a.put dst undef) w' → Oper.wp P ⟨dst, .mapUpdate t m' k' v', type, pos, after, guard⟩ a w K Q := by
  intro w' hr hk
  unfold Oper.wp
  have : (execOp a.eval ⟨dst, .mapUpdate t m' k' v', type, pos, after, guard⟩).run P w = .ok .skip w' := by simp [execOp, hr]
  rw [this]
  exact hk
 have hrm := H.x' rfl hm1 hxm (by simp [IOp.opds])
 have hrk := H.pv rfl hm2 hxk (by simp [IOp.opds])
 have hrv := H.pv rfl hm3 hxv (by simp [IOp.opds])
 have hke : a.eval k' = u := Zhb hrk hku
 rw [hke] at hrk fin
 generalize hmv : a.eval m' = mv at hrm fin
 generalize a.eval v' = vv at hrv fin
 cases hrm with
 | mp _ r hb =>
  obtain ⟨blk, hb1, hb2⟩ := hs.blk id _ hb
  rw [hl] at hb1
  simp at hb1
  subst hb1
  obtain ⟨r', es, cl, hmap⟩ := hb2
  have hhand := hmap.hand
  simp at hhand
  subst hhand
  obtain ⟨es', cl', hrun, g1, g2, g3⟩ := map_update hmap hu' ht hkl hu hres hrk hrv
  have hrl : r < w.heap.size := (Array.getElem?_eq_some_iff.1 hmap.heap).1
  have hsz2 : w.heap.size ≤ ({ w with heap := w.heap.setIfInBounds r (.map es' cl') } : World).heap.size := by simp
  have hother : ∀ j, r ≠ j → ({ w with heap := w.heap.setIfInBounds r (.map es' cl') } : World).heap[j]? = w.heap[j]? := fun j hne => by simp [Array.getElem?_setIfInBounds, hne]
  have hself : ({ w with heap := w.heap.setIfInBounds r (.map es' cl') } : World).heap[r]? = some (.map es' cl') := by simp [hrl]
  have hos : ({ w with heap := w.heap.setIfInBounds r (.map es' cl') } : World).os = w.os ∧ ({ w with heap := w.heap.setIfInBounds r (.map es' cl') } : World).tape = w.tape ∧ ({ w with heap := w.heap.setIfInBounds r (.map es' cl') } : World).output = w.output := ⟨rfl, rfl, rfl⟩
  generalize ({ w with heap := w.heap.setIfInBounds r (.map es' cl') } : World) = w2 at hrun hsz2 hother hself hos
  have hsame : ∀ j, j < w.heap.size → hblk (.map (some r)) ≠ some j → w2.heap[j]? = w.heap[j]? := fun j _ hne => hother j (fun he => hne (by simp [hblk, he]))
  have hno : ∀ j o u, hblk (.map (some r)) = some j → CellAt w X j o u → CellAt w2 X j o u := fun j o u hk hc => by
   simp [hblk] at hk
   subst hk
   have := hc.cell
   simp [World.cell?, hmap.heap] at this
  have hmono : ∀ j o u, CellAt w X j o u → CellAt w2 X j o u := fun j o u hc => by
   by_cases hk : hblk (.map (some r)) = some j
   ·exact hno j o u hk hc
   ·exact ⟨(Y5 (hsame j hc.lt hk)).trans hc.cell, hc.free⟩
  obtain ⟨u1, u2, u3, u4, u5⟩ := upd (γ := γ) (w := w) (w' := w2) (X := X) (X' := X) (s := s) (id := id) (h := .map (some r)) (h' := .map (some r))
   (blk' := .mpb (putE kp vp l res)) (s' := s.put id (.mpb (putE kp vp l res))) hs hf hb hos.1 hos.2.1 hos.2.2 hsz2 hsame (fun _ _ _ _ => Iff.rfl) hno (fun _ _ _ h => h)
   (fun k o hx => Nat.lt_of_lt_of_le (hs.lt k o hx) hsz2) (.inl rfl)
   (by
    rw [Ws hb]
    exact ⟨r, es', cl', rfl, hself, g1, fun i e k v he hv => ⟨(g2 i e k v he hv).1.mono hmono, (g2 i e k v he hv).2.mono hmono⟩, g3⟩)
   (by rw [Zd, if_pos rfl, hl]; rfl) (fun i hne => .inr ⟨by rw [Zd, if_neg hne], rfl⟩)
  rw [Ws hb] at u1 u2 u3
  exact fin _ hrun (hK undef γ _ X u3 u1 u2 (hE.mono u4 fun _ _ h => h) (fun _ _ _ _ => rfl) (.p .und))
end
section
variable {P : Program} {C : Call} {π : Id} {γ γ' : Hand} {w w' : World} {X X' : Own} {s : Sto} {e : Env} {a : Act}
theorem Gi {news s : Sto} (h : ∀ x ∈ news, ¬ s.has x.1 = true) {i : Id} {b : Blk} (hl : s.lookup i = some b) : news.lookup i = none := by
 induction news with
 | nil => rfl
 | cons x r ih =>
  rw [List.lookup_cons]
  split
  ·rename_i he
   have : i = x.1 := by simpa using he
   subst this
   have := h x (List.mem_cons_self)
   unfold Sto.has at this
   rw [hl] at this
   simp at this
  ·exact ih fun y hy => h y (List.mem_cons_of_mem _ hy)
theorem freezeL_box {avs : List AV} {xs : List PV} {s' : Sto} (hs : StoOk P γ w X s) (hf : Full γ s) (vs : Nat → Value) (hr : ∀ (i : Nat) a, avs[i]? = some a → RepA γ w X (vs i) a) (h : Z03 s avs = some (xs, s')) :
  ∃ X', StoOk P γ w X' s' ∧ Full γ s' ∧ Evo γ w X γ w X' ∧ xs.length = avs.length ∧ (∀ (i : Nat) x, xs[i]? = some x → Rep w X' (vs i) x) ∧ (∀ i, s'.has i = s.has i) := by
 obtain ⟨X', h1, h2, h3, h4, h5, h6, h7⟩ := Z67 avs vs hs hf hr h
 refine ⟨X', h1, h2, h3, h4, h5, fun i => ?_⟩
 unfold Sto.has
 cases hl : s'.lookup i with
 | some b => obtain ⟨b', q, _⟩ := h6 i b hl; rw [q]; rfl
 | none =>
  cases hl2 : s.lookup i with
  | none => rfl
  | some b => obtain ⟨b', q, _⟩ := h7 i b hl2; rw [hl] at q; cases q
theorem mapM_id {α : Type} : ∀ {l : List (Option α)} {r : List α}, l.mapM id = some r → l = r.map some
 | [], r, h => by simp at h; subst h; rfl
 | a :: l, r, h => by
  obtain ⟨b, l', hb, hl, rfl⟩ := Nb h
  rw [List.map_cons, ← mapM_id hl]
  simp at hb
  rw [hb]
theorem Zcy {X2 : Own} (hm : ∀ b o v, CellAt w X b o v → CellAt w X2 b o v) : ∀ (ps : List (Nat × Operand)) (ip : List (Nat × Opd)) (xs : List PV) (f : Nat → Value), Ur ps ip = true → xs.length = ip.length →
  (∀ (i : Nat) x, (ps.map fun x => a.eval x.2)[i]? = some x → f i = x) → (∀ (i : Nat) x, xs[i]? = some x → Rep w X2 (f i) x) →
  Z31 γ w X2 (ps.map fun x => (x.1, a.eval x.2)) ((ip.map (·.1)).zip (xs.map fun v => some (.p v)))
 | [], [], xs, f, _, hl, _, _ => by
  have : xs = [] := List.eq_nil_of_length_eq_zero (by simpa using hl)
  subst this; trivial
 | (i, x) :: r, (j, y) :: r', [], f, _, hl, _, _ => by simp at hl
 | (i, x) :: r, (j, y) :: r', v :: xs, f, h, hl, hf, hr => by
  simp only [Ur, Bool.and_eq_true, beq_iff_eq] at h
  refine ⟨h.1.1, fun av hav => ?_, Zcy hm r r' xs (fun i => f (i + 1)) h.2 (by simpa using hl) (fun i q hq => hf (i + 1) q hq) (fun i q hq => hr (i + 1) q hq)⟩
  simp at hav
  subst hav
  have := hr 0 v rfl
  rw [hf 0 (a.eval x) rfl] at this
  exact .p this
 | [], _ :: _, _, _, h, _, _, _ => by simp [Ur] at h
 | _ :: _, [], _, _, h, _, _, _ => by simp [Ur] at h
theorem Zd5 : ∀ {ps : List (Nat × Operand)} {ip : List (Nat × Opd)}, Ur ps ip = true → ps.length = ip.length ∧ ∀ (i : Nat) x y, ps[i]? = some x → ip[i]? = some y → mopd x.2 y.2 = true
 | [], [], _ => by simp
 | (i, x) :: r, (j, y) :: r', h => by
  simp only [Ur, Bool.and_eq_true, beq_iff_eq] at h
  obtain ⟨h1, h2⟩ := Zd5 h.2
  refine ⟨by simp [h1], fun k p q hp hq => ?_⟩
  cases k with
  | zero => simp at hp hq; subst hp; subst hq; exact h.1.2
  | succ k => exact h2 k p q (by simpa using hp) (by simpa using hq)
 | [], _ :: _, h => by simp [Ur] at h
 | _ :: _, [], h => by simp [Ur] at h
theorem ok_bslT (T sz : Nat) (ag : Bool) (zero : List PV) (n : Nat) (parts : List (Nat × Opd)) : TOk P C π (.bsl T sz ag zero n parts) := by
 intro K Q a o γ w X e s d av e' s' h hm hs hf hE hK
 obtain ⟨dst, op, type, pos, after, guard⟩ := o
 simp only [evT, Z95] at h
 split at h
 ·cases h
 rename_i hno
 split at h
 case h_2 => cases h
 rename_i vs hvs
 split at h
 case h_2 => cases h
 rename_i xs s1 hfr
 obtain ⟨l, hl, he⟩ := map_some h
 simp only [Prod.mk.injEq] at he
 obtain ⟨rfl, rfl, rfl⟩ := he
 simp only [mop] at hm
 split at hm
 case h_2 => cases hm
 rename_i t n' ps
 simp only [Bool.and_eq_true, beq_iff_eq, decide_eq_true_eq] at hm
 obtain ⟨⟨⟨⟨rfl, ht⟩, hel⟩, hn⟩, hp⟩ := hm
 have hu := Z3b ht
 obtain ⟨i, v, hi, hiz, hsz, hby, h0, hvs2, hc, hec, hzl, hza⟩ := Zci hel
 have hmap := mapM_id hvs
 have H := hE.ops (IOp.bsl T sz ag zero n' parts).opds
 obtain ⟨hlen, hpo⟩ := Zd5 hp
 have hvl : vs.length = parts.length := by have := congrArg List.length hmap; simpa using this.symm
 obtain ⟨X1, f1, f2, f3, f4, f5, f6⟩ := freezeL_box hs hf (fun i => ((ps.toList.map fun x => a.eval x.2)[i]?).getD undef) (fun i av hav => by
  have hlt : i < parts.length := by have := (List.getElem?_eq_some_iff.1 hav).1; omega
  have hlt2 : i < ps.toList.length := by omega
  have h1 : parts[i]? = some parts[i] := List.getElem?_eq_getElem hlt
  have h2 : ps.toList[i]? = some ps.toList[i] := List.getElem?_eq_getElem hlt2
  have h3 : (parts.map fun x => evA.x' e true x.2)[i]? = some (some av) := by rw [hmap]; simp [hav]
  simp only [List.getElem?_map, h1, Option.map_some, Option.some.injEq] at h3
  have := H.x' rfl (hpo i _ _ h2 h1) h3 (by simp only [IOp.opds]; exact List.mem_map.2 ⟨parts[i], List.getElem_mem hlt, rfl⟩)
  simpa only [List.getElem?_map, h2, Option.map_some, Option.getD_some] using this) hfr
 have hno1 := hno
 rw [← f6] at hno1
 have hnl := Q1 hno1
 have hid := f1.noHand hnl
 have hs2 : StoOk P γ w X1 ((d :: π, .row false T sz false l) :: s1) := f1.more [(d :: π, .row false T sz false l)] (fun j hj => by
  rw [List.lookup_cons]
  have : (j == d :: π) = false := by
   rw [beq_eq_false_iff_ne]
   rintro rfl
   exact hj hid
  simp [this])
 obtain ⟨us', g1, g2, g3⟩ := Z92 f1.one _ _ _ _ _ (Zcy (a := a) (γ := γ) (w := w) (X := X1) (X2 := X1) (fun _ _ _ h => h) ps.toList parts xs _ hp (by rw [f4, hvl]) (fun i x hx => by rw [hx]; rfl) f5) (Z91 (w := w) (X := X1) (n := n') hc hvs2 hec hzl hza h0) hl
 have hll : l.length = n' := by simpa using g3
 have hrun : (Instr.buildSlice t n' (ps.map fun x => (x.1, a.eval x.2))).run P w = .ok (.slice (some ⟨w.heap.size, 0, none⟩) n' n') (w.alloc (.cells us' T)) := by
  have hf : Instr.fill (fun i => some (i * sz, sz)) (madeCells v.cells (n' * sz)) (ps.map fun x => (x.1, a.eval x.2)).toList = some us' := by simpa using g1
  have hnn : ¬ (16777216 < n' * sz) := by omega
  by_cases hz : n' * sz = 0
  ·have hm0 : madeCells v.cells (n' * sz) = #[] := by rw [hz]; simp [madeCells, Array.range_zero']
   rw [hm0] at hf
   simp [Instr.buildSlice, run_underlying hu, sizeOf, typeInfo, hi, hsz, hz]
   simp [Array.range_zero'] at *
   simp [hf, newRow]
  ·have hm0 : ((Array.range (n' * sz)).map fun x => v.cells[x % v.cells.size]!) = madeCells v.cells (n' * sz) := rfl
   simp [Instr.buildSlice, run_underlying hu, sizeOf, typeInfo, hi, hsz, hnn, hz, zeroValue, hiz]
   rw [hm0]
   simp at hf
   simp [hf, newRow]
 have hml : n' ≤ maxLen := by
  have : n' * 1 ≤ n' * sz := Nat.mul_le_mul_left _ h0
  simp only [maxLen]; omega
 have hm := g2.mono (fun b o v (h : CellAt w X1 b o v) => h.grow (Yr w (.cells us' T)))
 have hok := row_ok (P := P) (γ' := addH γ (d :: π) (.slice (some ⟨w.heap.size, 0, none⟩) n' n')) (cap := n') hm (heap_alloc_new w _) (by omega) hml (by rw [g2.size, hll]) (List.take_of_length_le (by have := g2.size; simp; omega)) (fun o => .inr rfl)
 rw [hll] at hok
 refine Zd4 (id := d :: π) (h := .slice (some ⟨w.heap.size, 0, none⟩) n' n') (v := .slice (some ⟨w.heap.size, 0, none⟩) n' n') (blk := .row false T sz false l) hs2 (Yr w _) (by simp) hid (by simp) rfl hok ?_ (.ap (d :: π) _ (by simp [addH]) (Xt _ _ _)) ?_
 ·simp only [execOp, Sem.run_bind]; rw [hrun]; rfl
 ·intro vv γ' w' X' k1 k2 k3 k4 k5 k6
  refine hK vv γ' w' X' (f3.trans k1) k2 (fun j b hb => ?_) (hE.mono (fun b o v h => k1.cell b o v (f3.cell b o v h)) k3) (fun j b hb _ => ?_) k6
  ·rw [List.lookup_cons] at hb
   split at hb
   ·rename_i he
    have : j = d :: π := by simpa using he
    subst this
    exact k5 _ _ (Mj _ _)
   ·have := f2 j b hb
    obtain ⟨v, hv⟩ := Option.isSome_iff_exists.1 this
    rw [k3 j v hv]; rfl
  ·have := hf j b hb
   obtain ⟨v, hv⟩ := Option.isSome_iff_exists.1 this
   rw [k3 j v hv, hv]
theorem ok_slcT (x : Opd) (lo hi : Option Opd) (sz : Nat) : TOk P C π (.slc false x lo hi sz) := by
 intro K Q a o γ w X e s d av e' s' h hm hs hf hE hK
 obtain ⟨dst, op, type, pos, after, guard⟩ := o
 simp only [mop] at hm
 split at hm
 case h_2 => cases hm
 rename_i t x' lo' hi' mx
 simp only [Bool.and_eq_true] at hm
 obtain ⟨⟨⟨⟨ht, hmx⟩, hx⟩, hlo⟩, hhi⟩ := hm
 have hmx' : mx = none := by simpa using hmx
 subst hmx'
 have H := hE.ops (IOp.slc false x lo hi sz).opds
 have bnd : ∀ (dflt : Nat) (y : Option Opd) (y' : Option Operand) (n : Nat), mopdO y' y = true → (∀ z, y = some z → z ∈ (IOp.slc false x lo hi sz).opds) → nat? (y.elim (some (.int .i64 (dflt : Int))) (evT.pv e)) = some n →
   (y' = none ∧ n = dflt) ∨ ∃ z k i, y' = some z ∧ a.eval z = .int k i ∧ 0 ≤ i ∧ i.toNat = n := by
  intro dflt y y' n hm hmem hn
  cases y with
  | none =>
   cases y' with
   | none => simp [nat?] at hn; exact .inl ⟨rfl, hn.symm⟩
   | some z => simp [mopdO] at hm
  | some y =>
   cases y' with
   | none => simp [mopdO] at hm
   | some z =>
    simp only [mopdO] at hm
    obtain ⟨k, i, hi, h0, h1⟩ := nat?_some hn
    simp only [Option.elim_some, evT_pv] at hi
    exact .inr ⟨z, k, i, rfl, (H.pv rfl hm hi (hmem y rfl)).intI, h0, h1⟩
 have mlo : ∀ z, lo = some z → z ∈ (IOp.slc false x lo hi sz).opds := fun z hz => by simp [IOp.opds, hz]
 have mhi : ∀ z, hi = some z → z ∈ (IOp.slc false x lo hi sz).opds := fun z hz => by simp [IOp.opds, hz]
 simp only [evT, Z95] at h
 split at h
 case h_2 => cases h
 rename_i id hp
 split at h
 case h_2 => cases h
 rename_i b1 T1 sz' nl l n1 hl hn1
 split at h
 case h_2 => cases h
 rename_i n2 hn2
 split at h
 case isFalse => cases h
 rename_i hc
 obtain ⟨rfl, hc1, hc2⟩ := hc
 simp only [Option.some.injEq, Prod.mk.injEq] at h
 obtain ⟨rfl, rfl, rfl⟩ := h
 have hr := H.x' rfl hx hp (by simp [IOp.opds])
 generalize hxv : a.eval x' = xv at hr
 obtain ⟨h1, h2, h3, h4⟩ := Z9z hs hf [id]
 have hrep : Rep w (lendX γ s X [id]) xv (.sl sz' nl l) := by
  cases hr with
  | ap0 id aa hγ =>
   obtain ⟨blk, hb1, hb2⟩ := hs.blk id _ hγ
   rw [hl] at hb1
   simp at hb1
   subst hb1
   obtain ⟨xs, hrow⟩ := hb2
   obtain ⟨rfl, rfl⟩ := hrow.zero
   exact .slE aa 0 sz' none (fun h => by cases h) (fun h => by cases h) (fun _ => rfl) (by simp [maxLen])
  | ap id xv hγ hz =>
   obtain ⟨blk, hb1, hb2⟩ := hs.blk id _ hγ
   rw [hl] at hb1
   simp at hb1
   subst hb1
   exact rowRep hb2 h3.cell (fun b hk o ho => h4 id (List.mem_singleton.2 rfl) xv _ b hγ hl hk o ho) hz
 ·obtain ⟨b, cap, hv⟩ := Zcu hrep
  obtain ⟨q1, q2⟩ := slc_rep hrep hv hc1 hc2
  have e1 := bnd 0 lo lo' n1 hlo mlo hn1
  have e2 := bnd l.length hi hi' n2 hhi mhi hn2
  split at ht
  ·simp at ht
  ·rename_i el hu
   have hsz : szB P el = some sz' := by simpa using ht
   have hbounds : (Instr.sliceBounds true l.length cap (lo'.map a.eval) (hi'.map a.eval) none).run P w = .ok (n1, n2, cap) w := by
    rcases e2 with ⟨rfl, rfl⟩ | ⟨z2, k2, i2, rfl, hz2, h20, rfl⟩
    ·rcases e1 with ⟨rfl, rfl⟩ | ⟨z1, k1, i1, rfl, hz1, h10, rfl⟩
     ·simp [Instr.sliceBounds]
     ·simp [Instr.sliceBounds, hz1, Vf h10 hc1]
    ·rcases e1 with ⟨rfl, rfl⟩ | ⟨z1, k1, i1, rfl, hz1, h10, rfl⟩
     ·simp [Instr.sliceBounds, hz2, Vf h20 q1]
     ·simp [Instr.sliceBounds, hz2, Vf h20 q1, hz1, Vf h10 hc1]
   unfold Oper.wp
   have : (execOp a.eval ⟨dst, .slice t x' lo' hi' none, type, pos, after, guard⟩).run P w = .ok (.value (.slice (if cap = n1 then b else b.map (·.add (n1 * sz'))) (n2 - n1) (cap - n1))) w := by
    simp [execOp, Instr.sliceAt, run_underlying hu, hxv, hv, Instr.slice, hbounds, Wy hsz]
   rw [this]
   exact hK _ γ w _ h3 h1 h2 (hE.mono h3.cell fun _ _ h => h) (fun _ _ _ _ => rfl) (.p q2)
  ·cases ht
theorem ok_callVT (rd : Bool) (f : Opd) (args : List Opd) (hE0 : FS P C) : TOk P C π (.callV rd f args) := by
 intro K Q a o γ w X e s d av e' s' h hm hs hf hE hK
 obtain ⟨dst, op, type, pos, after, guard⟩ := o
 simp only [evT, Z95] at h
 have H := hE.ops (IOp.callV rd f args).opds
 split at h
 case h_2 => cases h
 rename_i fv vs hfv hvs
 split at h
 case isTrue => cases h
 split at h
 case h_2 => cases h
 rename_i k caps s1 hff
 split at h
 case h_2 => cases h
 rename_i ps s2 hps
 split at h
 case h_2 => cases h
 rename_i r news hc
 split at h
 case isFalse => cases h
 rename_i hnw
 simp only [Option.some.injEq, Prod.mk.injEq] at h
 obtain ⟨rfl, rfl, rfl⟩ := h
 simp only [mop] at hm
 split at hm
 case h_2 => cases hm
 rename_i c
 split at hm
 case h_2 => cases hm
 rename_i f' hcal
 simp only [Bool.and_eq_true] at hm
 obtain ⟨hmf, hma⟩ := hm
 obtain ⟨cal, cargs, ats⟩ := c
 simp only at hcal hma
 subst hcal
 have hrf := H.x' rfl hmf hfv (by simp [IOp.opds])
 have hvs' : args.mapM (evA.x' e true) = some vs := hvs
 obtain ⟨hlen, hra⟩ := Zcd H rfl cargs.toList args vs hma hvs' fun y hy => by simp only [IOp.opds]; exact List.mem_cons_of_mem _ hy
 obtain ⟨X1, a1, a2, a3, a4, a5, a6⟩ := Z90 hs hf hrf hff
 have hE1 := hE.mono (γ' := γ) a3.cell fun _ _ h => h
 obtain ⟨X2, b1, b2, b3, b4, b5, b6, b7⟩ := Z67 vs (fun i => ((cargs.toList.map a.eval)[i]?).getD undef) a1 a2 (fun i av hav => by
  have hlt : i < (cargs.toList.map a.eval).length := by have := (List.getElem?_eq_some_iff.1 hav).1; simp at hlen ⊢; omega
  have h1 : (cargs.toList.map a.eval)[i]? = some (cargs.toList.map a.eval)[i] := List.getElem?_eq_getElem hlt
  rw [h1]
  exact (hra i _ av h1 hav).mono a3.cell fun _ _ _ h => h) hps
 have hfr : Rep w X2 (a.eval f') (.fn k caps) := a4.mono b3.cell
 generalize hfv2 : a.eval f' = fval at hfr
 cases hfr with
 | fn f us cs hl hh =>
  have e1 : (cargs.map a.eval).size = ps.length := by rw [b4]; simp; have := hlen; simp at this; omega
  have hc' : C (d :: π) k (((ps.map PV.fg) ++ (caps.map PV.fg)).map AV.p) [] = some (r, news) := by
   rw [← hc]; congr 1; simp [List.map_append, List.map_map, Function.comp_def]
  obtain ⟨hen, hcall⟩ := Zgp (w := w) (X0 := X2) (vals := cargs.map a.eval ++ us) hE0 hc' (by simp at e1 hl ⊢; omega) (fun i v c hv hc => by
   by_cases hi : i < ps.length
   ·rw [List.getElem?_append_left (by simpa using hi)] at hc
    rw [Array.getElem?_append_left (by omega)] at hv
    simp only [List.getElem?_map, Option.map_eq_some_iff] at hc
    obtain ⟨c', hc', rfl⟩ := hc
    have := b5 i c' hc'
    have hv2 : (cargs.toList.map a.eval)[i]? = some v := by simpa using hv
    rw [hv2] at this
    exact this.fg
   ·rw [List.getElem?_append_right (by simp; omega)] at hc
    rw [Array.getElem?_append_right (by omega)] at hv
    simp only [List.getElem?_map, Option.map_eq_some_iff, List.length_map] at hc
    obtain ⟨c', hc', rfl⟩ := hc
    rw [e1] at hv
    exact (hh _ v c' hv hc').fg) b1.lt
  have run : (execOp a.eval ⟨dst, .call ⟨.value f', cargs, ats⟩, type, pos, after, guard⟩).run P w = .ok (.enter k (cargs.map a.eval ++ us)) w := by
   simp [execOp, resolve, Deferred.ofValue, hfv2, invoke, Z1d hen]
  unfold Oper.wp
  rw [run, Oper.upon_enter]
  refine hcall.mono fun en w' hL => ?_
  obtain ⟨v, γc, Xc, hL⟩ := hL
  have hno : ∀ x ∈ news, ¬ s2.has x.1 = true := fun x hx => by
   have := List.all_eq_true.1 hnw x hx
   simpa using this
  have hnone : ∀ i b, (i, b) ∈ news → γ i = none := fun i b hi => b1.noHand (Q1 (hno (i, b) hi))
  have hlk : ∀ i b, (i, b) ∈ news → ∃ b', news.lookup i = some b' := fun i b hi => by
   have : ∀ (l : Sto), (i, b) ∈ l → ∃ b', l.lookup i = some b' := by
    intro l
    induction l with
    | nil => intro h; simp at h
    | cons x r ih =>
     intro h
     rw [List.lookup_cons]
     split
     ·exact ⟨_, rfl⟩
     ·rename_i hne
      rcases List.mem_cons.1 h with rfl | h
      ·simp at hne
      ·exact ih h
   exact this news hi
  have hb := hL.evo.below
  have hXa : ∀ b o, b < w.heap.size → (Xc b o ↔ X2 b o) := fun b o hlt => ⟨hL.evo.less b o hlt, hL.evo.keep b o hlt (fun ⟨_, _, hh, _⟩ => by cases hh)⟩
  have newH : ∀ id h, γc id = some h → γ id = none ∧ ∃ b, news.lookup id = some b ∧ BlkOk P γc w' Xc h b := fun id h hh => by
   obtain ⟨b, hb1, hb2⟩ := hL.sto.blk id h hh
   refine ⟨?_, b, hb1, hb2⟩
   cases hg : γ id with
   | none => rfl
   | some v0 =>
    obtain ⟨b0, hb0, _⟩ := b1.blk id v0 hg
    rw [Gi hno hb0] at hb1
    cases hb1
  have sub : ∀ id v, γc id = some v → joinH γ γc id = some v := fun id v h => by unfold joinH; rw [(newH id v h).1]; exact h
  have hs3 : StoOk P γ w X2 (news ++ s2) := b1.more news fun i hi => by
   cases hγ : γ i with
   | none => exact absurd hγ hi
   | some v =>
    obtain ⟨b, hb, _⟩ := b1.blk i v hγ
    exact Gi hno hb
  obtain ⟨g1, g2⟩ := grow (γ := γ) (γ' := joinH γ γc) hs3 hb (fun id h hh => by unfold joinH; rw [hh]) hXa hL.sto.lt
   (fun id h hh hn => by
    unfold joinH at hh
    rw [hn] at hh
    obtain ⟨_, b, hb1, hb3⟩ := newH id h hh
    refine ⟨⟨b, by rw [lookup_append, hb1], hb3.mono (fun _ _ => rfl) (fun _ _ _ h => h) (fun _ _ _ => Iff.rfl) fun id _ v hv => sub id v hv⟩, fun k hk => ?_⟩
    rcases Nat.lt_or_ge k w.heap.size with hlt | hge
    ·obtain ⟨_, _, hh', _⟩ := hL.evo.owned k hlt ⟨id, h, hh, hk⟩; cases hh'
    ·exact hge)
   (fun i j h k b hi hj hi' hj' hbi hbj => by
    unfold joinH at hi' hj'
    rw [hi] at hi'
    rw [hj] at hj'
    exact hL.sto.apart i j h k b hi' hj' hbi hbj)
  have mono : ∀ i v, γ i = some v → joinH γ γc i = some v := fun i v h => by unfold joinH; rw [h]
  have hEvo := (a3.trans b3).trans g2
  have := hL.ret
  subst this
  refine hK v _ w' Xc hEvo g1 (fun i b hbl => ?_) (hE.mono hEvo.cell mono) (fun i b hbl _ => ?_) (hL.rep.mono (fun _ _ _ h => h) fun id _ v hv => sub id v hv)
  ·rw [lookup_append] at hbl
   cases hl : news.lookup i with
   | some b' =>
    have := hL.full i b' hl
    obtain ⟨v', hv'⟩ := Option.isSome_iff_exists.1 this
    rw [sub i v' hv']; rfl
   | none =>
    rw [hl] at hbl
    have := b2 i b hbl
    obtain ⟨v', hv'⟩ := Option.isSome_iff_exists.1 this
    rw [mono i v' hv']; rfl
  ·have := hf i b hbl
   obtain ⟨v', hv'⟩ := Option.isSome_iff_exists.1 this
   rw [mono i v' hv', hv']
end
def killL (rows : List Id) (v : AV) : AV := rows.foldl (fun v id => v.kill id) v
theorem kill_top (id : Id) : AV.kill id .top = .top := by unfold AV.kill; split <;> rfl
theorem killL_top (rows : List Id) : killL rows .top = .top := by
 unfold killL
 induction rows with
 | nil => rfl
 | cons r rs ih => rw [List.foldl_cons, kill_top]; exact ih
theorem killL_or (rows : List Id) (v : AV) : killL rows v = .top ∨ (killL rows v = v ∧ ∀ id ∈ rows, id ∉ v.ids) := by
 induction rows with
 | nil => exact .inr ⟨rfl, by simp⟩
 | cons r rs ih =>
  have e : killL (r :: rs) v = killL rs (v.kill r) := rfl
  rw [e]
  by_cases h : v.ids.contains r = true
  ·have : v.kill r = .top := by unfold AV.kill; rw [if_pos h]
   rw [this]
   exact .inl (killL_top rs)
  ·have : v.kill r = v := by unfold AV.kill; rw [if_neg h]
   rw [this]
   rcases ih with h1 | ⟨h1, h2⟩
   ·exact .inl h1
   ·refine .inr ⟨h1, fun id hid => ?_⟩
    rcases List.mem_cons.1 hid with rfl | hid
    ·simpa using h
    ·exact h2 id hid
theorem Zdj (rows : List Id) : ∀ (e : Env) (t : Nat), (rows.foldl Env.kill e).lookup t = (e.lookup t).map (killL rows) := by
 induction rows with
 | nil => intro e t; unfold killL; simp
 | cons r rs ih =>
  intro e t
  rw [List.foldl_cons, ih, Zhj, Option.map_map]
  rfl
theorem blk_killL (rows : List Id) (l : Bool) (cs : List AV) : rows.foldl (fun b id => b.kill id) (Blk.box l cs) = .box l (cs.map (killL rows)) := by
 induction rows generalizing cs with
 | nil =>
  have : killL [] = id := rfl
  simp [this]
 | cons r rs ih => rw [List.foldl_cons]; show rs.foldl _ (Blk.box l (cs.map (AV.kill r))) = _; rw [ih, List.map_map]; rfl
theorem row_killL (rows : List Id) (a : Bool) (b c : Nat) (d : Option Bool) (l : List PV) : rows.foldl (fun x id => x.kill id) (Blk.row a b c d l) = .row a b c d l := by
 induction rows with
 | nil => rfl
 | cons r rs ih => rw [List.foldl_cons]; exact ih
theorem Yb (p : Id → Bool) (i : Id) : ∀ (s : Sto), (s.filter fun x => p x.1).lookup i = if p i then s.lookup i else none
 | [] => by simp
 | (j, b) :: r => by
  rw [List.filter_cons]
  by_cases he : i = j
  ·subst he
   by_cases hp : p i = true
   ·simp [hp]
   ·simp only [hp, Bool.false_eq_true, if_false]
    rw [Yb p i r, if_neg hp]
  ·have hne : (i == j) = false := by simpa using he
   by_cases hp : p j = true
   ·simp only [hp, if_true]
    rw [List.lookup_cons, List.lookup_cons, hne]
    exact Yb p i r
   ·simp only [hp, Bool.false_eq_true, if_false]
    rw [Yb p i r, List.lookup_cons, hne]
theorem closF_sub (s : Sto) : ∀ (n : Nat) (ids fr : List Id), ∀ i ∈ ids, i ∈ closF s n ids fr
 | 0, _, _, _, h => h
 | n + 1, ids, fr, i, h => by
  unfold closF
  split
  ·exact h
  ·exact closF_sub s n _ _ i (List.mem_append.2 (.inl h))
theorem closure_sub (s : Sto) (n : Nat) (ids : List Id) : ∀ i ∈ ids, i ∈ Za6 s n ids := fun i h => closF_sub s n ids ids i h
theorem Zcf : ∀ {cs : List AV} {i : Nat} {c : AV}, cs[i]? = some c → ∀ id ∈ c.ids, id ∈ AV.ids.AV.idsL cs
 | [], _, _, h => by simp at h
 | a :: r, i, c, h => by
  intro id hid
  cases i with
  | zero => simp at h; subst h; exact List.mem_append.2 (.inl hid)
  | succ i => exact List.mem_append.2 (.inr (Zcf (by simpa using h) id hid))
section
variable {P : Program} {C : Call} {π : Id} {γ γ' : Hand} {w w' : World} {X X' : Own} {s : Sto} {e : Env} {a : Act}
theorem Z8u {rows : List Id} {v : Value} {av : AV} (h : RepA γ w X v av) (hm : ∀ b o v, CellAt w X b o v → CellAt w' X' b o v) (hγ : ∀ i v, i ∉ rows → γ i = some v → γ' i = some v) : RepA γ' w' X' v (killL rows av) := by
 rcases killL_or rows av with h1 | ⟨h1, h2⟩
 ·rw [h1]; exact .top v
 ·rw [h1]
  exact h.mono hm fun i hi v hv => hγ i v (fun hr => h2 i hr hi) hv
theorem frm_killL (rows : List Id) (π : Id) (nt : Nat) (e : Env) (ps : List Nat) (as bd : IR) (st : FSt) : rows.foldl (fun b id => b.kill id) (Blk.frm π nt e ps as bd st) = .frm π nt (rows.foldl Env.kill e) ps as bd st := by
 induction rows generalizing e with
 | nil => rfl
 | cons r rs ih => rw [List.foldl_cons, List.foldl_cons]; exact ih (e.kill r)
theorem mpb_killL (rows : List Id) (l : List (PV × PV)) : rows.foldl (fun b id => b.kill id) (Blk.mpb l) = .mpb l := by
 induction rows with
 | nil => rfl
 | cons r rs ih => rw [List.foldl_cons]; exact ih
theorem killL_blk {rows : List Id} {h : Value} {blk : Blk} (hb : BlkOk P γ w X h blk) (hk : ∀ b, hblk h = some b → w'.heap[b]? = w.heap[b]?) (hm : ∀ b o v, CellAt w X b o v → CellAt w' X' b o v)
  (hX : ∀ b, hblk h = some b → ∀ o, X' b o ↔ X b o) (hγ : ∀ i v, i ∉ rows → γ i = some v → γ' i = some v) : BlkOk P γ' w' X' h (rows.foldl (fun b id => b.kill id) blk) := by
 cases blk with
 | row lent T sz nl l => rw [row_killL]; exact hb.mono hk hm hX (fun i hi => by simp [Blk.ids] at hi)
 | box lent cs =>
  rw [blk_killL]
  obtain ⟨b, c, T, hb⟩ := hb
  have e : hblk h = some b := by rw [hb.hand]; rfl
  refine ⟨b, c, T, hb.hand, (hk b e).trans hb.heap, by simpa using hb.size, hb.one, fun i v a hv ha => ?_, fun o => (hX b e o).trans (hb.own o)⟩
  simp only [List.getElem?_map, Option.map_eq_some_iff] at ha
  obtain ⟨a', ha', rfl⟩ := ha
  exact Z8u (hb.rep i v a' hv ha') hm hγ
 | frm π nt e ps as bd st =>
  rw [frm_killL]
  obtain ⟨l, r, hb⟩ := hb
  refine ⟨l, r, hb.hand, (hk l (by rw [hb.hand]; rfl)).trans hb.heap, hb.params, hb.assign, hb.body, hb.size, fun t av ht => ?_, hb.st⟩
  rw [Zdj] at ht
  obtain ⟨av', hav, rfl⟩ := map_some ht
  obtain ⟨v, hv, hr⟩ := hb.env t av' hav
  exact ⟨v, hv, Z8u hr hm hγ⟩
 | mpb l => rw [mpb_killL]; exact hb.mono hk hm hX (fun i hi => by simp [Blk.ids] at hi)
def TOkI (P : Program) (C : Call) (π : Id) (iop : IOp) : Prop :=
 ∀ (ro : Option Nat) (kk : Nat) (K : Act → World → Prop) (Q : Exit → Act → World → Prop) (a : Act) (o : Oper) (γ : Hand) (w : World) (X : Own) (e : Env) (s : Sto) (d : Nat) (av : AV) (e' : Env) (s' : Sto),
  evT C π e s d iop = some (av, e', s') → mop P o.op iop = true → StoOk P γ w X s → Full γ s → EnvOk γ w X (fun t => e.lookup t) a.tmps → KT P K a o γ w X s e' s' av → o.wpIn (WR ro) kk P a w K Q
theorem TOk.i {iop : IOp} (h : TOk P C π iop) : TOkI P C π iop := fun _ _ K Q a o γ w X e s d av e' s' h1 h2 h3 h4 h5 h6 => Zcz (Z8r h2) (h K Q a o γ w X e s d av e' s' h1 h2 h3 h4 h5 h6)
theorem ok_callS (f : Opd) (args : List Opd) (hE0 : FS P C) : TOkI P C π (.callS f args) := by
 intro ro kk K Q a o γ w X e s d av e' s' h hm hs hf hE hK
 obtain ⟨dst, op, type, pos, after, guard⟩ := o
 simp only [evT, Z95] at h
 have H := hE.ops (IOp.callS f args).opds
 split at h
 case h_2 => cases h
 rename_i fv vs hfv hvs
 split at h
 case h_2 => cases h
 rename_i k caps hfn
 split at h
 case h_2 => cases h
 rename_i r s1 hc
 split at h
 case isFalse => cases h
 rename_i hchk
 simp only [Option.some.injEq, Prod.mk.injEq] at h
 obtain ⟨rfl, rfl, rfl⟩ := h
 simp only [mop] at hm
 split at hm
 case h_2 => cases hm
 rename_i c
 split at hm
 case h_2 => cases hm
 rename_i f' hcal
 simp only [Bool.and_eq_true] at hm
 obtain ⟨hmf, hma⟩ := hm
 obtain ⟨cal, cargs, ats⟩ := c
 simp only at hcal hma
 subst hcal
 have hrf := H.x' rfl hmf hfv (by simp [IOp.opds])
 obtain ⟨hlen, hra⟩ := Zcd H rfl cargs.toList args vs hma hvs fun y hy => by simp only [IOp.opds]; exact List.mem_cons_of_mem _ hy
 have hcal : (k ≠ Z2 ∧ ∃ us : Array Value, a.eval f' = .func (.func k) #[] us ∧ us.size = caps.length ∧ ∀ (i : Nat) v c, us[i]? = some v → caps[i]? = some c → RepA γ w X v c) ∨
   (k = Z2 ∧ ∃ id l, caps = [.yld id] ∧ a.eval f' = .func (.yield l) #[] #[] ∧ γ id = some (.func (.yield l) #[] #[])) := by
  generalize a.eval f' = fval at hrf
  split at hfn
  ·split at hfn
   ·cases hfn
   rename_i hk
   simp only [Option.some.injEq, Prod.mk.injEq] at hfn
   obtain ⟨rfl, rfl⟩ := hfn
   have hp := hrf.ofP
   cases hp with
   | fn f us cs hl hh =>
    refine .inl ⟨hk, us, rfl, by simpa using hl, fun i v c hv hc => ?_⟩
    simp only [List.getElem?_map, Option.map_eq_some_iff] at hc
    obtain ⟨c', hc', rfl⟩ := hc
    exact .p (hh i v c' hv hc')
  ·split at hfn
   ·cases hfn
   rename_i hk
   simp only [Option.some.injEq, Prod.mk.injEq] at hfn
   obtain ⟨rfl, rfl⟩ := hfn
   cases hrf with
   | fn f us cs hl hh => exact .inl ⟨hk, us, rfl, hl, hh⟩
  ·simp only [Option.some.injEq, Prod.mk.injEq] at hfn
   obtain ⟨rfl, rfl⟩ := hfn
   cases hrf with
   | yld _ l h => exact .inr ⟨rfl, _, l, rfl, rfl, h⟩
  ·cases hfn
 generalize hids : Za6 s 12 (AV.ids.AV.idsL (vs ++ caps)) = ids at hc hchk hK
 generalize hrows : (bif r.keeps then [] else ids.filter fun id => match s.lookup id with | some (.row ..) => true | _ => false) = rows at hK
 simp only [Bool.and_eq_true] at hchk
 obtain ⟨⟨hck1, hck2⟩, hck3⟩ := hchk
 have argIds : ∀ (i : Nat) c, (vs ++ caps)[i]? = some c → ∀ id ∈ c.ids, id ∈ ids := fun i c hc id hid => by
  rw [← hids]; exact closure_sub s 12 _ id (Zcf hc id hid)
 have inS : ∀ i ∈ ids, s.has i = true ∧ s1.has i = true := fun i hi => by
  have := List.all_eq_true.1 hck2 i hi
  simpa using this
 have newS : ∀ i b, s1.lookup i = some b → i ∈ ids ∨ s.lookup i = none := fun i b hb => by
  have := List.all_eq_true.1 hck3 (i, b) (L4 hb)
  simp only [Bool.or_eq_true, Bool.not_eq_true'] at this
  rcases this with h | h
  ·exact .inl (by simpa using h)
  ·exact .inr (Q1 (by rw [h]; simp))
 have boxIds : ∀ i b, i ∈ ids → s.lookup i = some b → ∀ id ∈ b.ids, id ∈ ids := fun i b hi hb id hid => by
  have hm : (i, b) ∈ s.filter fun x => ids.contains x.1 := List.mem_filter.2 ⟨L4 hb, by simpa using hi⟩
  have := List.all_eq_true.1 (List.all_eq_true.1 hck1 _ hm) id hid
  simpa using this
 have rowsMem : r.keeps = false → ∀ i, i ∈ rows ↔ i ∈ ids ∧ ∃ q1 q2 q3 q4 q5, s.lookup i = some (.row q1 q2 q3 q4 q5) := fun hkp i => by
  rw [← hrows, hkp, cond_false, List.mem_filter]
  refine and_congr Iff.rfl ?_
  constructor
  ·intro h
   split at h
   ·rename_i q1 q2 q3 q4 q5 hl; exact ⟨q1, q2, q3, q4, q5, hl⟩
   ·cases h
  ·rintro ⟨q1, q2, q3, q4, q5, hl⟩
   rw [hl]
 let γs : Hand := fun i => if i ∈ ids then γ i else none
 have γsub : ∀ i v, i ∈ ids → γ i = some v → γs i = some v := fun i v hi hv => by show (if i ∈ ids then γ i else none) = some v; rw [if_pos hi]; exact hv
 have γsInv : ∀ i v, γs i = some v → i ∈ ids ∧ γ i = some v := fun i v hv => by
  have hv' : (if i ∈ ids then γ i else none) = some v := hv
  split at hv'
  ·exact ⟨by assumption, hv'⟩
  ·cases hv'
 have lkSub : ∀ i, i ∈ ids → (s.filter fun x => ids.contains x.1).lookup i = s.lookup i := fun i hi => by
  have := Yb (fun j => ids.contains j) i s
  rw [this, if_pos (by simpa using hi)]
 have lkSub' : ∀ i, i ∉ ids → (s.filter fun x => ids.contains x.1).lookup i = none := fun i hi => by
  have := Yb (fun j => ids.contains j) i s
  rw [this, if_neg (by simpa using hi)]
 have hss : StoOk P γs w X (s.filter fun x => ids.contains x.1) := ⟨fun i v hv => by
  obtain ⟨hi, hv⟩ := γsInv i v hv
  obtain ⟨b, hb, hk⟩ := hs.blk i v hv
  exact ⟨b, by rw [lkSub i hi]; exact hb, hk.mono (fun _ _ => rfl) (fun _ _ _ h => h) (fun _ _ _ => Iff.rfl) fun j hj u hu => γsub j u (boxIds i b hi hb j hj) hu⟩,
  fun i j v u b hi hj hbi hbj => hs.apart i j v u b (γsInv i v hi).2 (γsInv j u hj).2 hbi hbj, hs.lt⟩
 have hfs : Full γs (s.filter fun x => ids.contains x.1) := fun i b hb => by
  by_cases hi : i ∈ ids
  ·rw [lkSub i hi] at hb
   obtain ⟨v, hv⟩ := Option.isSome_iff_exists.1 (hf i b hb)
   rw [γsub i v hi hv]; rfl
  ·rw [lkSub' i hi] at hb; cases hb
 have post : ∀ (v : Value) (γ' : Hand) (X' : Own) (w' : World), Left P γs w X (s.filter fun x => ids.contains x.1) r s1 (.returned v) w' v γ' X' → K (a.put dst v) w' := by
  intro v γ' X' w' hL
  let γ2 : Hand := fun i => if i ∈ ids then γ' i else match γ i with | some h => some h | none => γ' i
  have γ2in : ∀ i, i ∈ ids → γ2 i = γ' i := fun i hi => by show (if i ∈ ids then γ' i else _) = _; rw [if_pos hi]
  have γ2old : ∀ i h, i ∉ ids → γ i = some h → γ2 i = some h := fun i h hi hg => by show (if i ∈ ids then γ' i else match γ i with | some h => some h | none => γ' i) = _; rw [if_neg hi, hg]
  have γ2new : ∀ i, i ∉ ids → γ i = none → γ2 i = γ' i := fun i hi hg => by show (if i ∈ ids then γ' i else match γ i with | some h => some h | none => γ' i) = _; rw [if_neg hi, hg]
  have γ'none : ∀ i v, γ' i = some v → i ∉ ids → γ i = none := fun i v hv hi => by
   obtain ⟨b, hb, _⟩ := hL.sto.blk i v hv
   rcases newS i b hb with h | h
   ·exact absurd h hi
   ·exact hs.noHand h
  have sub : ∀ i v, γ' i = some v → γ2 i = some v := fun i v hv => by
   by_cases hi : i ∈ ids
   ·rw [γ2in i hi]; exact hv
   ·rw [γ2new i hi (γ'none i v hv hi)]; exact hv
  have boxH : ∀ i b, s.lookup i = some b → b.isBox = true → γ2 i = γ i := fun i b hb hbx => by
   by_cases hi : i ∈ ids
   ·rw [γ2in i hi, hL.box i b (by rw [lkSub i hi]; exact hb) hbx]
    show (if i ∈ ids then γ i else none) = γ i
    rw [if_pos hi]
   ·obtain ⟨v, hv⟩ := Option.isSome_iff_exists.1 (hf i b hb)
    rw [γ2old i v hi hv, hv]
  have keepH : ∀ i v, i ∉ rows → γ i = some v → γ2 i = some v := fun i v hi hv => by
   by_cases hid : i ∈ ids
   ·obtain ⟨b, hb, _⟩ := hs.blk i v hv
    cases b with
    | box l cs => rw [boxH i _ hb rfl]; exact hv
    | frm => rw [boxH i _ hb rfl]; exact hv
    | mpb => rw [boxH i _ hb rfl]; exact hv
    | row q1 q2 q3 q4 q5 =>
     cases hkp : r.keeps with
     | true =>
      rw [γ2in i hid, hL.stay hkp i _ (by rw [lkSub i hid]; exact hb)]
      exact γsub i v hid hv
     | false => exact absurd ((rowsMem hkp i).2 ⟨hid, q1, q2, q3, q4, q5, hb⟩) hi
   ·exact γ2old i v hid hv
  have ownS : ∀ b, Owned γs b → Owned γ b := fun b ⟨i, v, hv, hk⟩ => ⟨i, v, (γsInv i v hv).2, hk⟩
  have notS : ∀ i v b, i ∉ ids → γ i = some v → hblk v = some b → ¬ Owned γs b := fun i v b hi hv hk ⟨j, u, hu, hku⟩ => by
   obtain ⟨hj, hu⟩ := γsInv j u hu
   have := hs.apart i j v u b hv hu hk hku
   subst this
   exact hi hj
  have oldLt : ∀ i v b, γ i = some v → hblk v = some b → b < w.heap.size := fun i v b hv hk => by
   obtain ⟨bb, _, hbk⟩ := hs.blk i v hv
   exact hbk.lt b hk
  have hEvo : Evo γ w X γ2 w' X' := ⟨hL.evo.os, hL.evo.tape, hL.evo.output, hL.evo.size, fun b hb ho => hL.evo.block b hb fun h => ho (ownS b h), hL.evo.cell, hL.evo.less, fun b o hb ho hx => hL.evo.keep b o hb (fun h => ho (ownS b h)) hx,
   fun b hb ⟨i, v, hv, hk⟩ => by
    by_cases hi : i ∈ ids
    ·rw [γ2in i hi] at hv
     exact ownS b (hL.evo.owned b hb ⟨i, v, hv, hk⟩)
    ·cases hg : γ i with
     | some u =>
      rw [γ2old i u hi hg] at hv
      have := Option.some.inj hv
      subst this
      exact ⟨i, u, hg, hk⟩
     | none =>
      rw [γ2new i hi hg] at hv
      exact ownS b (hL.evo.owned b hb ⟨i, v, hv, hk⟩)⟩
  have lkA : ∀ i, (s1.filter fun x => !ids.contains x.1).lookup i = if i ∈ ids then none else s1.lookup i := fun i => by
   have := Yb (fun j => !ids.contains j) i s1
   rw [this]
   by_cases hi : i ∈ ids
   ·simp [hi]
   ·simp [hi]
  have lkB : ∀ i, (s.map fun x => if ids.contains x.1 then (x.1, (s1.lookup x.1).getD x.2) else (x.1, rows.foldl (fun b id => b.kill id) x.2)).lookup i = (s.lookup i).map fun b => if i ∈ ids then (s1.lookup i).getD b else rows.foldl (fun b id => b.kill id) b := fun i => by
   rw [Fs _ (fun x => by split <;> rfl)]
   cases s.lookup i with
   | none => rfl
   | some b =>
    by_cases hi : i ∈ ids
    ·simp [hi]
    ·simp [hi]
  have lkIn : ∀ i b, i ∈ ids → s1.lookup i = some b → ((s1.filter fun x => !ids.contains x.1) ++ s.map fun x => if ids.contains x.1 then (x.1, (s1.lookup x.1).getD x.2) else (x.1, rows.foldl (fun b id => b.kill id) x.2)).lookup i = some b := fun i b hi hb => by
   rw [lookup_append, lkA, if_pos hi, lkB]
   have := (inS i hi).1
   unfold Sto.has at this
   obtain ⟨b0, hb0⟩ := Option.isSome_iff_exists.1 this
   rw [hb0]
   simp [hi, hb]
  have lkOld : ∀ i b, i ∉ ids → s.lookup i = some b → ((s1.filter fun x => !ids.contains x.1) ++ s.map fun x => if ids.contains x.1 then (x.1, (s1.lookup x.1).getD x.2) else (x.1, rows.foldl (fun b id => b.kill id) x.2)).lookup i = some (rows.foldl (fun b id => b.kill id) b) := fun i b hi hb => by
   rw [lookup_append, lkA, if_neg hi]
   cases h1 : s1.lookup i with
   | some b1 =>
    rcases newS i b1 h1 with h | h
    ·exact absurd h hi
    ·rw [hb] at h; cases h
   | none => rw [lkB, hb]; simp [hi]
  have lkNew : ∀ i b, i ∉ ids → s1.lookup i = some b → ((s1.filter fun x => !ids.contains x.1) ++ s.map fun x => if ids.contains x.1 then (x.1, (s1.lookup x.1).getD x.2) else (x.1, rows.foldl (fun b id => b.kill id) x.2)).lookup i = some b := fun i b hi hb => by
   rw [lookup_append, lkA, if_neg hi, hb]
  have hsto : StoOk P γ2 w' X' ((s1.filter fun x => !ids.contains x.1) ++ s.map fun x => if ids.contains x.1 then (x.1, (s1.lookup x.1).getD x.2) else (x.1, rows.foldl (fun b id => b.kill id) x.2)) := by
   refine ⟨fun i h hi => ?_, fun i j h u b hi hj hbi hbj => ?_, hL.sto.lt⟩
   ·have call : γ' i = some h → ∃ b, s1.lookup i = some b ∧ BlkOk P γ2 w' X' h b := fun hg => by
     obtain ⟨b, hb, hk⟩ := hL.sto.blk i h hg
     exact ⟨b, hb, hk.mono (fun _ _ => rfl) (fun _ _ _ h => h) (fun _ _ _ => Iff.rfl) fun j _ u hu => sub j u hu⟩
    by_cases hid : i ∈ ids
    ·rw [γ2in i hid] at hi
     obtain ⟨b, hb, hk⟩ := call hi
     exact ⟨b, lkIn i b hid hb, hk⟩
    ·cases hg : γ i with
     | none =>
      rw [γ2new i hid hg] at hi
      obtain ⟨b, hb, hk⟩ := call hi
      exact ⟨b, lkNew i b hid hb, hk⟩
     | some u =>
      rw [γ2old i u hid hg] at hi
      have := Option.some.inj hi
      subst this
      obtain ⟨b, hb, hk⟩ := hs.blk i u hg
      exact ⟨_, lkOld i b hid hb, killL_blk hk (fun k hk' => hL.evo.block k (oldLt i u k hg hk') (notS i u k hid hg hk')) hL.evo.cell
       (fun k hk' o => ⟨hL.evo.less k o (oldLt i u k hg hk'), hL.evo.keep k o (oldLt i u k hg hk') (notS i u k hid hg hk')⟩) keepH⟩
   ·have cls : ∀ i h, γ2 i = some h → (γ' i = some h) ∨ (i ∉ ids ∧ γ i = some h) := fun i h hi => by
     by_cases hid : i ∈ ids
     ·rw [γ2in i hid] at hi; exact .inl hi
     ·cases hg : γ i with
      | none => rw [γ2new i hid hg] at hi; exact .inl hi
      | some u => rw [γ2old i u hid hg] at hi; exact .inr ⟨hid, hi⟩
    have mix : ∀ i j h u, γ' i = some h → (j ∉ ids ∧ γ j = some u) → hblk h = some b → hblk u = some b → False := fun i j h u hi hj hb hb' =>
     notS j u b hj.1 hj.2 hb' (hL.evo.owned b (oldLt j u b hj.2 hb') ⟨i, h, hi, hb⟩)
    rcases cls i h hi with h1 | h1 <;> rcases cls j u hj with h2 | h2
    ·exact hL.sto.apart i j h u b h1 h2 hbi hbj
    ·exact (mix i j h u h1 h2 hbi hbj).elim
    ·exact (mix j i u h h2 h1 hbj hbi).elim
    ·exact hs.apart i j h u b h1.2 h2.2 hbi hbj
  refine hK v γ2 w' X' hEvo hsto (fun i b hb => ?_) (fun t av ht => ?_) (fun i b hb hbx => boxH i b hb hbx) (hL.rep.mono (fun _ _ _ h => h) fun id _ v hv => sub id v hv)
  ·by_cases hid : i ∈ ids
   ·have := (inS i hid).2
    unfold Sto.has at this
    obtain ⟨b1, hb1⟩ := Option.isSome_iff_exists.1 this
    rw [γ2in i hid]
    exact hL.full i b1 hb1
   ·cases hg : γ i with
    | some u => rw [γ2old i u hid hg]; rfl
    | none =>
     rw [γ2new i hid hg]
     rw [lookup_append, lkA, if_neg hid] at hb
     cases h1 : s1.lookup i with
     | some b1 => exact hL.full i b1 h1
     | none =>
      rw [h1, lkB] at hb
      obtain ⟨b0, hb0, _⟩ := map_some hb
      have := hf i b0 hb0
      rw [hg] at this
      cases this
  ·simp only [Zdj] at ht
   obtain ⟨b, hb, rfl⟩ := map_some ht
   obtain ⟨v, hv, hr⟩ := hE t b hb
   exact ⟨v, hv, Z8u hr hL.evo.cell keepH⟩
 rcases hcal with ⟨hk, us, hfval, hus, hcr⟩ | ⟨hk, id, l, rfl, hfval, hγid⟩
 ·rcases hE0 (d :: π) k (vs ++ caps) _ _ _ hc with ⟨h1, _⟩ | ⟨_, hen, hcall⟩
  ·exact absurd h1 hk
  have hcall := hcall (cargs.map a.eval ++ us) γs w X (by simp; simp at hlen; omega) (fun i v c hv hc => by
   refine RepA.mono (γ := γ) (fun _ _ _ h => h) ?_ fun id hid u hu => γsub id u (argIds i c hc id hid) hu
   by_cases hi : i < vs.length
   ·rw [List.getElem?_append_left hi] at hc
    rw [Array.getElem?_append_left (by simp; simp at hlen; omega)] at hv
    exact hra i v c (by simpa using hv) hc
   ·rw [List.getElem?_append_right (by omega)] at hc
    rw [Array.getElem?_append_right (by simp; simp at hlen; omega)] at hv
    have e1 : (cargs.map a.eval).size = vs.length := by simp; simpa using hlen
    rw [e1] at hv
    exact hcr _ v c hv hc) hss hfs
  have run : (execOp a.eval ⟨dst, .call ⟨.value f', cargs, ats⟩, type, pos, after, guard⟩).run P w = .ok (.enter k (cargs.map a.eval ++ us)) w := by
   simp [execOp, resolve, Deferred.ofValue, hfval, invoke, Z1d hen]
  refine Zcz rfl ?_
  unfold Oper.wp
  rw [run, Oper.upon_enter]
  refine hcall.mono fun en w' hL => ?_
  obtain ⟨v, γ', X', hL⟩ := hL
  have := hL.ret
  subst this
  exact post v γ' X' w' hL
 ·rcases hE0 (d :: π) k (vs ++ [.yld id]) _ _ _ hc with ⟨_, vs', id', he, hround⟩ | ⟨h1, _⟩
  case inr => exact absurd hk h1
  obtain ⟨h1, h2⟩ := List.append_inj' he rfl
  simp only [List.cons.injEq, AV.yld.injEq, and_true] at h2
  subst h1; subst h2
  have e1 : (cargs.map a.eval).size = vs.length := by simp; simpa using hlen
  obtain ⟨f2, tmps, as, bd, hrun, hR⟩ := hround ro (kk - 1) (cargs.map a.eval) l γs w X e1 (fun i v c hv hc => by
   refine RepA.mono (γ := γ) (fun _ _ _ h => h) (hra i v c (by simpa using hv) hc) fun id hid u hu => γsub id u (argIds i c (by rw [List.getElem?_append_left (List.getElem?_eq_some_iff.1 hc).1]; exact hc) id hid) hu)
   (γsub id _ (argIds vs.length (.yld id) (by simp) id (by simp [AV.ids])) hγid) hss hfs
  refine ⟨fun _ _ => trivial, ?_⟩
  rw [Oper.semAt_eq _ _ _ fun c hc => by cases hc]
  have run : (execOp a.eval ⟨dst, .call ⟨.value f', cargs, ats⟩, type, pos, after, guard⟩).run P w = .ok (.round l f2 tmps as bd) w := by
   simp [execOp, resolve, Deferred.ofValue, hfval, invoke, hrun]
  rw [run, Oper.uponIn_round]
  refine ⟨fun hd => by simp [WR, Fence.wide] at hd, RoundIn.mono hR fun en w' hL => ?_⟩
  obtain ⟨v, γ', X', hL⟩ := hL
  have := hL.ret
  subst this
  exact post v γ' X' w' hL
theorem evT_ok (hE : FS P C) : ∀ iop, TOkI P C π iop
 | .st x v z => (ok_st x v z).i
 | .app x y T z => (ok_app x y T z).i
 | .bsl T z g zz n p => (ok_bslT T z g zz n p).i
 | .callV rd f l => (ok_callVT rd f l hE).i
 | .callS f l => ok_callS f l hE
 | .callB f l => fun _ _ _ _ _ _ _ _ _ _ _ _ _ _ _ h => by simp [evT] at h
 | .mpu m k v z => (ok_mpu m k v z).i
 | .cpb x y => fun _ _ _ _ _ _ _ _ _ _ _ _ _ _ _ h => by simp [evT] at h
 | .slc false x lo hi z => (ok_slcT x lo hi z).i
 | .cpy x y z => fun _ _ _ _ _ _ _ _ _ _ _ _ _ _ _ h => by simp [evT] at h
 | .shf x lo z => (ok_shf x lo z).i
 | .clr x T z g zz => fun _ _ _ _ _ _ _ _ _ _ _ _ _ _ _ h => by simp [evT] at h
 | .apn _ _ _ _ => fun _ _ _ _ _ _ _ _ _ _ _ _ _ _ _ h => by simp [evT] at h
 | .apx _ _ _ _ _ => fun _ _ _ _ _ _ _ _ _ _ _ _ _ _ _ h => by simp [evT] at h
 | .prt _ _ _ _ => fun _ _ _ _ _ _ _ _ _ _ _ _ _ _ _ h => by simp [evT] at h
 | .slf _ _ _ _ _ => fun _ _ _ _ _ _ _ _ _ _ _ _ _ _ _ h => by simp [evT] at h
 | .slc true x lo hi z => fun _ _ _ _ _ _ _ _ _ _ _ _ _ _ _ h => by simp [evT] at h
 | .mv _ | .pick _ _ _ | .bin _ _ _ | .beq _ _ _ | .aeq _ _ _ _ | .isnil _ _ _ | .un _ _ | .conv _ _ | .len _ _ | .mm _ _ _ | .ext _ _ | .fld _ _ _ _ | .fa _ _ | .ia _ _ _ | .iaa _ _ _ _ | .idx _ _ | .ld _ _ _
 | .alloc _ | .box _ _ | .build _ _ | .mks _ _ _ _ _ _ | .mkf _ _ | .mkm _ _ | .nck _ | .s2b _ | .bad | .mkp | .lkp _ _ _ _ _ | .slb _ _ | .mkc _ _ _ | .mvl _ | .xag _ _ _ | .alt _ | .bsp _ _ _ _ _ _ => fun _ _ _ _ _ _ _ _ _ _ _ _ _ _ _ h => by simp [evT] at h
end
section
variable {P : Program} {C : Call} {π : Id} {γ γ' : Hand} {w w' : World} {X X' : Own} {s : Sto} {e : Env} {a : Act}
theorem freeze_ids {s s' : Sto} {v : AV} {y : PV} {x : Id × Blk} (h : Z4 s v = some (y, s')) (hx : x ∈ s') : ∃ z ∈ s, z.1 = x.1 := by
 unfold Z4 at h
 split at h
 ·simp at h; obtain ⟨_, rfl⟩ := h; exact ⟨x, hx, rfl⟩
 ·obtain ⟨q, _, hq⟩ := map_some h
  simp at hq
  obtain ⟨_, rfl⟩ := hq
  simp only [Sto.lend, List.mem_map] at hx
  obtain ⟨z, hz, rfl⟩ := hx
  refine ⟨z, hz, ?_⟩
  split <;> rfl
theorem evA_fresh {g : Bool} {d : Nat} {iop : IOp} {av : AV} {news : Sto} (h : evA C π e s g d iop = some (av, news)) : ∀ x ∈ news, ¬ s.has x.1 = true := by
 intro x hx
 cases iop with
 | alloc zero =>
  simp only [evA] at h
  split at h
  ·cases h
  ·rename_i hn; simp at h; obtain ⟨_, rfl⟩ := h; simp at hx; subst hx; exact hn
 | box y sz =>
  simp only [evA] at h
  split at h
  ·split at h
   ·split at h
    ·cases h
    ·rename_i hn; simp at h; obtain ⟨_, rfl⟩ := h; simp at hx; subst hx; exact hn
   ·cases h
  ·cases h
 | mkc f g y => simp [evA] at h
 | bsl T sz ag zero n parts =>
  simp only [evA] at h
  split at h
  ·cases h
  ·rename_i hn
   obtain ⟨z, _, hz⟩ := map_some h
   simp at hz; obtain ⟨_, rfl⟩ := hz
   simp at hx; subst hx; exact hn
 | mks T sz ag zero n cap =>
  simp only [evA] at h
  split at h
  ·split at h
   ·cases h
   ·rename_i hn
    split at h
    ·simp at h; obtain ⟨_, rfl⟩ := h; simp at hx; subst hx; exact hn
    ·cases h
  ·cases h
 | callV rd f args =>
  simp only [evA] at h
  split at h
  ·split at h
   ·split at h
    ·split at h
     ·split at h
      ·rename_i hn; simp at h; obtain ⟨_, rfl⟩ := h
       have := List.all_eq_true.1 hn x hx
       simpa using this
      ·cases h
     ·split at h
      ·simp at h; obtain ⟨_, rfl⟩ := h; cases hx
      ·split at h
       ·rename_i hn
        simp only [Bool.and_eq_true] at hn
        obtain ⟨y, hfz, hy⟩ := map_some h
        simp at hy
        obtain ⟨_, rfl⟩ := hy
        obtain ⟨z, hz, he⟩ := freeze_ids hfz hx
        have := List.all_eq_true.1 hn.2 z hz
        rw [he] at this
        simpa using this
       ·split at h
        ·rename_i hn
         simp only [Bool.and_eq_true] at hn
         simp only [Option.some.injEq, Prod.mk.injEq] at h; obtain ⟨_, rfl⟩ := h
         have := List.all_eq_true.1 hn.2 x hx
         simpa using this
        ·cases h
    ·cases h
   ·cases h
  ·cases h
 | mkp | alt =>
  simp only [evA] at h
  split at h
  ·cases h
  ·rename_i hn; simp at h; obtain ⟨_, rfl⟩ := h; simp at hx; subst hx; exact hn
 | st | app | apx | callS | callB | mpu | cpb => simp [evA] at h
 | xag =>
  simp only [evA] at h
  repeat' split at h
  all_goals first
   | (cases h; done)
   | (obtain ⟨z, _, hz⟩ := map_some h; injection hz with _ hz; subst hz; cases hx; done)
 | apn => simp [evA] at h
 | _ =>
  simp only [evA] at h
  repeat' split at h
  all_goals first
   | (cases h; done)
   | (injection h with h; injection h with _ h; subst h; cases hx; done)
   | (obtain ⟨z, _, hz⟩ := map_some h; injection hz with _ hz; subst hz; cases hx; done)
   | (rename_i ag _ _; cases ag <;> simp at h <;> first | (obtain ⟨_, _, _, rfl⟩ := h; cases hx; done) | (obtain ⟨_, _, rfl⟩ := h; cases hx; done) | (obtain ⟨_, rfl⟩ := h; cases hx; done))
   | (simp only [cond_eq_ite] at h; split at h <;> first | (cases h; done) | (injection h with h; injection h with _ h; subst h; cases hx; done) | (obtain ⟨z, _, hz⟩ := map_some h; injection hz with _ hz; subst hz; cases hx; done) | (split at h <;> first | (cases h; done) | (injection h with h; injection h with _ h; subst h; cases hx; done)))
def gval (e : Env) : Option (Nat × Bool) → Option Bool
 | none => some true
 | some (t, want) => match e.lookup t with
  | some (.p (.bool b)) => some (b == want)
  | some (.wh c (.p (.bool b))) => some (c && b == want)
  | some (.p .und) => some false
  | _ => none
theorem Z2c {ops : Array Oper} {o : Oper} {gi : Option (Nat × Bool)} {g : Bool} (hm : gdOk ops o.guard gi = true) (hv : gval e gi = some g)
  (hr : ∀ t want, gi = some (t, want) → ∀ av, e.lookup t = some av → ∃ v, a.tmps[t]? = some v ∧ RepA γ w X v av) : Region.wanted o (yielded ops a.tmps) = g := by
 obtain ⟨dst, op, type, pos, after, guard⟩ := o
 simp only at hm
 cases guard with
 | none =>
  cases gi with
  | none => simp [gval] at hv; subst hv; rfl
  | some x => simp [gdOk] at hm
 | some x =>
  obtain ⟨j, want⟩ := x
  cases gi with
  | none => simp [gdOk] at hm
  | some y =>
   obtain ⟨t, want'⟩ := y
   simp only [gdOk, Bool.and_eq_true, beq_iff_eq] at hm
   obtain ⟨hj, rfl⟩ := hm
   have yv : ∀ v, a.tmps[t]? = some v → yielded ops a.tmps j = (match v with | .bool b => some b | _ => none) := fun v hv => by
    unfold yielded
    rw [hj]
    simp only [Option.bind_some, hv]
    cases v <;> rfl
   simp only [gval] at hv
   split at hv
   ·rename_i b hl
    simp at hv; subst hv
    obtain ⟨v, h1, h2⟩ := hr t want rfl _ hl
    have := h2.ofP.boolI
    subst this
    simp only [Region.wanted, yv _ h1]
    cases b <;> cases want <;> rfl
   ·rename_i c b hl
    simp at hv; subst hv
    obtain ⟨v, h1, h2⟩ := hr t want rfl _ hl
    cases h2 with
    | whT h2 =>
     have := h2.ofP.boolI
     subst this
     simp only [Region.wanted, yv _ h1]
     cases b <;> cases want <;> rfl
    | whF =>
     simp only [Region.wanted, yv _ h1]
     cases b <;> cases want <;> rfl
   ·rename_i hl
    simp at hv; subst hv
    obtain ⟨v, h1, h2⟩ := hr t want rfl _ hl
    have h3 := h2.ofP
    cases h3 with
    | und => simp only [Region.wanted, yv _ h1]; cases want <;> rfl
   ·cases hv
structure StepA (P : Program) (ops : Array Oper) (nt : Nat) (io : Ins) (e : Env) (s : Sto) (e1 : Env) (s1 : Sto) (av : AV) (news : Sto) : Prop where
 env : e1 = e.set io.d av
 sto : s1 = news ++ s
 fresh : ∀ x ∈ news, ¬ s.has x.1 = true
 sound : ∀ (ro : Option Nat) (kk : Nat) (K : Act → World → Prop) (Q : Exit → Act → World → Prop) (i : Nat) (o : Oper) (a : Act) (γ : Hand) (w : World) (X : Own) (sT : Sto), ops[i]? = some o → mio P nt ops o io = true → StoOk P γ w X sT →
  (∀ id b, s.lookup id = some b → sT.lookup id = some b) → (∀ t ∈ io.uses, ∀ av, e.lookup t = some av → ∃ v, a.tmps[t]? = some v ∧ RepA γ w X v av) →
  (∀ id b, news.lookup id = some b → γ id = none ∧ sT.lookup id = some b) →
  (∀ v γ' w' X', Evo γ w X γ' w' X' → StoOk P γ' w' X' sT → (∀ id h, γ id = some h → γ' id = some h) → (∀ id h, γ' id = some h → γ id = some h ∨ ∃ b, news.lookup id = some b) →
   (∀ id b, news.lookup id = some b → (γ' id).isSome) → RepA γ' w' X' v av → K (a.put o.dst v) w') → wpOpIn (WR ro) kk P ops Q i K a w
theorem Zd0 {io : Ins} {a : Act} (h : ∀ t ∈ io.uses, ∀ av, e.lookup t = some av → ∃ v, a.tmps[t]? = some v ∧ RepA γ w X v av) : OpsOk γ w X a e io.op.opds := fun x y av hy hm hr =>
 opd_rep hm (fun t b ht hb => h t (by
  unfold Ins.uses
  refine List.mem_append.2 (.inl (List.mem_filterMap.2 ⟨y, hy, ?_⟩))
  subst ht; rfl) b hb) (by cases y <;> exact hr)
theorem Zca (hE : FS P C) {ops : Array Oper} {nt : Nat} {io : Ins} {e1 : Env} {s1 : Sto} (h : stepA C π io e s = some (e1, s1)) : ∃ av news, StepA P ops nt io e s e1 s1 av news := by
 have skip : ∀ (g : Bool) (av : AV), gval e io.g = some g → g = false → (∀ (γ : Hand) (w : World) (X : Own), RepA γ w X undef av) → e1 = e.set io.d av → s1 = s → ∃ av news, StepA P ops nt io e s e1 s1 av news := by
  intro g av hg hg0 hrep he hs1
  refine ⟨av, [], he, hs1, fun x hx => (by cases hx), fun ro kk K Q i o a γ w X sT ho hm hs sub hu hnew hK => ?_⟩
  simp only [mio, Bool.and_eq_true] at hm
  have hw := Z2c (γ := γ) (w := w) (X := X) (a := a) hm.2 hg (fun t want ht av' hav => hu t (by unfold Ins.uses; rw [ht]; exact List.mem_append.2 (.inr (List.mem_singleton.2 rfl))) av' hav)
  unfold wpOpIn
  simp only [ho, hw, hg0, Bool.false_eq_true, if_false]
  exact ⟨fun _ _ => trivial, hK undef γ w X (Evo.refl _ _ _) hs (fun _ _ h => h) (fun _ _ h => .inl h) (fun _ _ h => by cases h) (hrep γ w X)⟩
 have run : ∀ (v av : AV) (news : Sto), gval e io.g = some true → evA C π e s true (io.d.getD 0) io.op = some (v, news) → (∀ (γ : Hand) (w : World) (X : Own) (u : Value), RepA γ w X u v → RepA γ w X u av) →
   e1 = e.set io.d av → s1 = news ++ s → ∃ av news, StepA P ops nt io e s e1 s1 av news := by
  intro v av news hg hev hrep he hs1
  refine ⟨av, news, he, hs1, evA_fresh hev, fun ro kk K Q i o a γ w X sT ho hm hs sub hu hnew hK => ?_⟩
  have hm' := hm
  simp only [mio, Bool.and_eq_true] at hm
  have hw := Z2c (γ := γ) (w := w) (X := X) (a := a) hm.2 hg (fun t want ht av' hav => hu t (by unfold Ins.uses; rw [ht]; exact List.mem_append.2 (.inr (List.mem_singleton.2 rfl))) av' hav)
  unfold wpOpIn
  simp only [ho, hw, if_true]
  refine Zcz (Z8r hm.1.2) (evA_ok hE io.op K Q a o γ w X sT e s true (io.d.getD 0) v news hev hm.1.2 rfl (Zd0 hu) hs sub hnew ?_)
  intro u γ' w' X' k1 k2 k3 k4 k5 k6
  exact hK u γ' w' X' k1 k2 k3 k4 k5 (hrep γ' w' X' u k6)
 unfold stepA at h
 split at h
 ·rename_i hg
  obtain ⟨⟨v, news⟩, hev, hr⟩ := map_some h
  simp only [Prod.mk.injEq] at hr
  exact run v v news (by rw [hg]; rfl) hev (fun _ _ _ _ h => h) hr.1.symm hr.2.symm
 ·rename_i t want hg
  split at h
  ·rename_i gb hgb
   have hgv : gval e io.g = some gb := by
    rw [hg]
    simp only [gval]
    split at hgb
    ·rename_i hl; rw [hl]; simpa using hgb
    ·rename_i hl; rw [hl]; simpa using hgb
    ·simp at hgb
    ·cases hgb
   split at h
   ·rename_i hcg
    simp only [Option.some.injEq, Prod.mk.injEq] at h
    exact skip gb (.p .und) hgv hcg (fun _ _ _ => .p .und) h.1.symm h.2.symm
   split at h
   ·rename_i v hev
    simp only [Option.some.injEq, Prod.mk.injEq] at h
    cases gb with
    | true => exact run v (.wh true v) [] hgv hev (fun _ _ _ _ h => .whT h) h.1.symm h.2.symm
    | false => exact skip false (.wh false v) hgv rfl (fun _ _ _ => .whF _) h.1.symm h.2.symm
   ·rename_i v news _ hev
    cases gb with
    | true =>
     simp only [cond_true, Option.some.injEq, Prod.mk.injEq] at h
     exact run v v news hgv hev (fun _ _ _ _ h => h) h.1.symm h.2.symm
    | false =>
     simp only [cond_false, Option.some.injEq, Prod.mk.injEq] at h
     exact skip false (.p .und) hgv rfl (fun _ _ _ => .p .und) h.1.symm h.2.symm
   ·cases gb with
    | true => simp at h
    | false =>
     simp only [cond_false, Option.some.injEq, Prod.mk.injEq] at h
     exact skip false (.p .und) hgv rfl (fun _ _ _ => .p .und) h.1.symm h.2.symm
  ·rename_i hgb
   simp only [Option.some.injEq, Prod.mk.injEq] at h
   have hgv : gval e io.g = some false := by
    rw [hg]
    simp only [gval]
    split at hgb
    ·simp at hgb
    ·simp at hgb
    ·rename_i hl; rw [hl]
    ·cases hgb
   exact skip false (.p .und) hgv rfl (fun _ _ _ => .p .und) h.1.symm h.2.symm
  ·cases h
def Marks (Z : Nat) (γ : Hand) (w : World) : List Deferred → Prop
 | [] => True
 | d :: ds => (∃ D, d = { target := .collected D, args := #[] } ∧ Z ≤ D ∧ w.heap[D]? = some (.deferred (some [])) ∧ ¬ Owned γ D ∧ ∀ d' ∈ ds, d'.target ≠ .collected D) ∧ Marks Z γ w ds
theorem Marks.mono {Z : Nat} (he : Evo γ w X γ' w' X') : ∀ {ds : List Deferred}, Marks Z γ w ds → Marks Z γ' w' ds
 | [], _ => trivial
 | d :: ds, h => by
  obtain ⟨⟨D, h1, h2, h3, h4, h5⟩, h6⟩ := h
  have hlt : D < w.heap.size := (Array.getElem?_eq_some_iff.1 h3).1
  exact ⟨⟨D, h1, h2, (he.block D hlt h4).trans h3, fun ho => h4 (he.owned D hlt ho), h5⟩, Marks.mono he h6⟩
structure Inv (P : Program) (nt Z : Nat) (γ : Hand) (w : World) (X : Own) (e : Env) (s : Sto) (a : Act) : Prop where
 sto : StoOk P γ w X s
 full : Full γ s
 env : EnvOk γ w X (fun t => e.lookup t) a.tmps
 size : a.tmps.size = nt
 defers : Marks Z γ w a.defers
def After (P : Program) (nt Z : Nat) (γ : Hand) (w : World) (X : Own) (s : Sto) (e' : Env) (s' : Sto) (a' : Act) (w' : World) : Prop :=
 ∃ γ' X', Inv P nt Z γ' w' X' e' s' a' ∧ Evo γ w X γ' w' X' ∧ ∀ id b, s.lookup id = some b → b.isBox = true → γ' id = γ id
theorem Z9n {s' : Sto} (hs : StoOk P γ w X s) (hf : Full γ s) (hs' : StoOk P γ' w' X' s') {id : Id} {b : Blk} (hl : s.lookup id = some b) (hb : b.isBox = true) (hγ : γ' id = γ id) : ∃ b', s'.lookup id = some b' ∧ b'.isBox = true := by
 obtain ⟨v, hv⟩ := Option.isSome_iff_exists.1 (hf id b hl)
 obtain ⟨b0, hb0, hk0⟩ := hs.blk id v hv
 rw [hl] at hb0
 simp at hb0
 subst hb0
 have notRow : ∀ g c n, v ≠ .slice g c n := fun g c n he => by
  subst he
  cases b with
  | row => simp [Blk.isBox] at hb
  | box l cs => obtain ⟨bb, c, T, hbox⟩ := hk0; have := hbox.hand; cases this
  | frm => obtain ⟨l, r, hfr⟩ := hk0; have := hfr.hand; cases this
  | mpb => obtain ⟨r, es, cl, hm⟩ := hk0; have := hm.hand; cases this
 obtain ⟨b1, hb1, hk1⟩ := hs'.blk id v (by rw [hγ]; exact hv)
 refine ⟨b1, hb1, ?_⟩
 cases b1 with
 | box => rfl
 | frm => rfl
 | mpb => rfl
 | row q1 q2 q3 q4 q5 =>
  obtain ⟨xs, hrow⟩ := hk1
  rcases (hrow.rows (fun h => notRow _ _ _ h)).2 with ⟨hh, _⟩ | ⟨g, oo, cap, cur, hh, _⟩
  ·exact absurd hh (notRow _ _ _)
  ·exact absurd hh (notRow _ _ _)
theorem After.trans {nt Z : Nat} {γ1 : Hand} {w1 : World} {X1 : Own} {s1 : Sto} {e1 e2 : Env} {s2 : Sto} {a1 a2 : Act} {w2 : World} (hs : StoOk P γ w X s) (hf : Full γ s) (h1 : Inv P nt Z γ1 w1 X1 e1 s1 a1) (he : Evo γ w X γ1 w1 X1)
  (hb : ∀ id b, s.lookup id = some b → b.isBox = true → γ1 id = γ id) (h2 : After P nt Z γ1 w1 X1 s1 e2 s2 a2 w2) : After P nt Z γ w X s e2 s2 a2 w2 := by
 obtain ⟨γ2, X2, i2, e2', b2⟩ := h2
 refine ⟨γ2, X2, i2, he.trans e2', fun id b hl hbx => ?_⟩
 obtain ⟨b', hb', hbx'⟩ := Z9n hs hf h1.sto hl hbx (hb id b hl hbx)
 rw [b2 id b' hb' hbx', hb id b hl hbx]
theorem env_put {nt : Nat} {d : Option Nat} {v : Value} {av : AV} (hE : EnvOk γ w X (fun t => e.lookup t) a.tmps) (hr : RepA γ w X v av) (hsz : a.tmps.size = nt) (hd : (match d with | some d => decide (d < nt) | none => true) = true) :
  EnvOk γ w X (fun t => (e.set d av).lookup t) (a.put d v).tmps := by
 cases d with
 | none => exact hE
 | some d =>
  intro t b hb
  simp only [Env.set, List.lookup_cons] at hb
  have hd' : d < nt := by simpa using hd
  split at hb
  ·rename_i he
   have : t = d := by simpa using he
   subst this
   simp at hb; subst hb
   have hlt : t < a.tmps.size := by omega
   exact ⟨v, by simp [Act.put, hlt], hr⟩
  ·rename_i he
   have : t ≠ d := by simpa using he
   obtain ⟨u, hu, hr'⟩ := hE t b hb
   exact ⟨u, by simp only [Act.put]; rw [Array.getElem?_setIfInBounds_ne (Ne.symm this)]; exact hu, hr'⟩
theorem Zh1 (a : Act) (d : Option Nat) (v : Value) : (a.put d v).tmps.size = a.tmps.size := by cases d <;> simp [Act.put]
theorem Z9w (a : Act) (d : Option Nat) (v : Value) : (a.put d v).defers = a.defers := by cases d <;> rfl
theorem step_ok (hE : FS P C) {ro : Option Nat} {kk : Nat} {ops : Array Oper} {nt Z : Nat} {io : Ins} {e1 : Env} {s1 : Sto} {K : Act → World → Prop} {Q : Exit → Act → World → Prop} {i : Nat} {o : Oper} (h : step C π io e s = some (e1, s1)) (ho : ops[i]? = some o) (hm : mio P nt ops o io = true)
  (hi : Inv P nt Z γ w X e s a) (hK : ∀ a' w', After P nt Z γ w X s e1 s1 a' w' → K a' w') : wpOpIn (WR ro) kk P ops Q i K a w := by
 have hm' := hm
 simp only [mio, Bool.and_eq_true, beq_iff_eq] at hm'
 obtain ⟨⟨⟨hd, hdn⟩, hmo⟩, hgd⟩ := hm'
 unfold step at h
 split at h
 ·rename_i r hA
  simp only [Option.some.injEq] at h
  subst h
  obtain ⟨av, news, st⟩ := Zca (P := P) hE (ops := ops) (nt := nt) hA
  have hno : ∀ id b, news.lookup id = some b → γ id = none := fun i b hi' => by
   cases hg : γ i with
   | none => rfl
   | some v =>
    obtain ⟨b0, hb0, _⟩ := hi.sto.blk i v hg
    rw [Gi st.fresh hb0] at hi'
    cases hi'
  have hs2 : StoOk P γ w X (news ++ s) := hi.sto.more news fun i hi' => by
   cases hγ : γ i with
   | none => exact absurd hγ hi'
   | some v =>
    obtain ⟨b, hb, _⟩ := hi.sto.blk i v hγ
    exact Gi st.fresh hb
  refine st.sound ro kk K Q i o a γ w X (news ++ s) ho hm hs2 (fun id b hb => by rw [lookup_append, Gi st.fresh hb]; exact hb) (fun t _ av hav => hi.env t av hav) (fun id b hb => ⟨hno id b hb, by rw [lookup_append, hb]⟩) ?_
  intro v γ' w' X' k1 k2 k3 k4 k5 k6
  refine hK _ _ ⟨γ', X', ⟨by rw [st.sto]; exact k2, fun id b hb => ?_, ?_, by rw [Zh1]; exact hi.size, by rw [Z9w]; exact hi.defers.mono k1⟩, k1, fun id b hb _ => ?_⟩
  ·rw [st.sto, lookup_append] at hb
   cases hl : news.lookup id with
   | some b' => exact k5 id b' hl
   | none =>
    rw [hl] at hb
    obtain ⟨v, hv⟩ := Option.isSome_iff_exists.1 (hi.full id b hb)
    rw [k3 id v hv]; rfl
  ·rw [st.env, hd]
   exact env_put (hi.env.mono k1.cell k3) k6 hi.size hdn
  ·obtain ⟨v, hv⟩ := Option.isSome_iff_exists.1 (hi.full id b hb)
   rw [k3 id v hv, hv]
 ·have fin : ∀ av e' s', evT C π e s (io.d.getD 0) io.op = some (av, e', s') → gval e io.g = some true → e1 = e'.set io.d av → s1 = s' → wpOpIn (WR ro) kk P ops Q i K a w := by
   intro av e' s' hT hg he1 hs1
   have hw := Z2c (γ := γ) (w := w) (X := X) (a := a) hgd hg (fun t want ht av' hav => hi.env t av' hav)
   unfold wpOpIn
   simp only [ho, hw, if_true]
   refine (evT_ok hE io.op ro kk K Q a o γ w X e s (io.d.getD 0) av e' s' hT hmo hi.sto hi.full hi.env ?_)
   intro v γ' w' X' k1 k2 k3 k4 k5 k6
   refine hK _ _ ⟨γ', X', ⟨by rw [hs1]; exact k2, by rw [hs1]; exact k3, ?_, by rw [Zh1]; exact hi.size, by rw [Z9w]; exact hi.defers.mono k1⟩, k1, k5⟩
   rw [he1, hd]
   exact env_put k4 k6 hi.size hdn
  split at h
  ·rename_i hg
   obtain ⟨⟨v, e', s'⟩, hT, hr⟩ := map_some h
   simp only [Prod.mk.injEq] at hr
   exact fin v e' s' hT (by rw [hg]; rfl) hr.1.symm hr.2.symm
  ·rename_i t want hg
   split at h
   ·rename_i b hl
    cases hb : (b == want) with
    | true =>
     rw [hb, cond_true] at h
     obtain ⟨⟨v, e', s'⟩, hT, hr⟩ := map_some h
     simp only [Prod.mk.injEq] at hr
     exact fin v e' s' hT (by rw [hg]; simp only [gval, hl, hb]) hr.1.symm hr.2.symm
    | false => rw [hb] at h; simp at h
   ·cases h
end
section
variable {P : Program} {C : Call} {π : Id} {γ γ' : Hand} {w w' : World} {X X' : Own} {s : Sto} {e : Env} {a : Act}
theorem Zh5 {nt : Nat} {ops : Array Oper} : ∀ {r : List Oper} {l : List Ins}, mops P nt ops r l = true → r.length = l.length ∧ ∀ (j : Nat) io, l[j]? = some io → ∃ o, r[j]? = some o ∧ mio P nt ops o io = true
 | [], [], _ => by simp
 | o :: r, i :: l, h => by
  simp only [mops, Bool.and_eq_true] at h
  obtain ⟨h1, h2⟩ := Zh5 h.2
  refine ⟨by simp [h1], fun j io hj => ?_⟩
  cases j with
  | zero => simp at hj; subst hj; exact ⟨o, rfl, h.1⟩
  | succ j => exact h2 j io (by simpa using hj)
 | [], _ :: _, h => by simp [mops] at h
 | _ :: _, [], h => by simp [mops] at h
theorem step_of_A {io : Ins} {r : Env × Sto} (h : stepA C π io e s = some r) : step C π io e s = some r := by unfold step; rw [h]
theorem Zfi : ∀ (n : Nat) (l : List Ins) (e : Env) (s : Sto) (r : Env × Sto), steps C π n l e s = some r → steps C π 0 l e s = some r
 | 0, _, _, _, _, h => h
 | n + 1, [], e, s, r, h => by simpa [steps] using h
 | n + 1, io :: l, e, s, r, h => by
  simp only [steps] at h ⊢
  split at h
  ·rename_i e1 s1 h1
   rw [step_of_A h1]
   exact Zfi n l e1 s1 r h
  ·cases h
theorem seq_ok (hE : FS P C) {ro : Option Nat} {kk : Nat} {nt Z : Nat} {ops : Array Oper} {Q : Exit → Act → World → Prop} : ∀ (l : List Ins) (k : Nat) (e : Env) (s : Sto) (e' : Env) (s' : Sto) (γ : Hand) (w : World) (X : Own) (a : Act), steps C π 0 l e s = some (e', s') →
  (∀ (j : Nat) io, l[j]? = some io → ∃ o, ops[k + j]? = some o ∧ mio P nt ops o io = true) → Inv P nt Z γ w X e s a → (∀ a' w', After P nt Z γ w X s e' s' a' w' → Q .normal a' w') → wpOpsIn (WR ro) kk P ops Q (List.range' k l.length) a w
 | [], k, e, s, e', s', γ, w, X, a, h, _, hi, hQ => by
  simp [steps] at h
  obtain ⟨rfl, rfl⟩ := h
  exact hQ a w ⟨γ, X, hi, Evo.refl _ _ _, fun _ _ _ _ => rfl⟩
 | io :: l, k, e, s, e', s', γ, w, X, a, h, hm, hi, hQ => by
  simp only [steps] at h
  split at h
  case h_2 => cases h
  rename_i e1 s1 h1
  obtain ⟨o, ho, hmo⟩ := hm 0 io rfl
  rw [List.length_cons, List.range'_succ, wpOpsIn_cons]
  refine step_ok hE h1 ho hmo hi fun a1 w1 h2 => ?_
  obtain ⟨γ1, X1, i1, e2, b2⟩ := h2
  exact seq_ok hE l (k + 1) e1 s1 e' s' γ1 w1 X1 a1 h (fun j io hj => by
   obtain ⟨o, ho, hmo⟩ := hm (j + 1) io (by simpa using hj)
   exact ⟨o, by rw [show k + 1 + j = k + (j + 1) by omega]; exact ho, hmo⟩) i1 fun a' w' h3 => hQ a' w' (After.trans hi.sto hi.full i1 e2 b2 h3)
theorem region_seq (hE : FS P C) {ro : Option Nat} {kk : Nat} {nt Z n : Nat} {ops : Array Oper} {l : List Ins} {Q : Exit → Act → World → Prop} {e' : Env} {s' : Sto} (h : steps C π n l e s = some (e', s')) (hm : mops P nt ops ops.toList l = true) (hi : Inv P nt Z γ w X e s a)
  (hQ : ∀ a' w', After P nt Z γ w X s e' s' a' w' → Q .normal a' w') : wpOpsIn (WR ro) kk P ops Q (List.range ops.size) a w := by
 obtain ⟨hl, hm⟩ := Zh5 hm
 rw [List.range_eq_range', show ops.size = l.length by simpa using hl]
 exact seq_ok hE l 0 e s e' s' γ w X a (Zfi n l e s _ h) (fun j io hj => by
  obtain ⟨o, ho, hmo⟩ := hm j io hj
  exact ⟨o, by simpa using ho, hmo⟩) hi hQ
theorem bit_two {i j : Nat} : (2 ^ i).testBit j = true ↔ i = j := by simp [Nat.testBit_two_pow]
theorem befOf_bit {B : Nat → Nat} {o : Oper} {j : Nat} (h : (befOf B o).testBit j = true) : ∃ e ∈ o.after, Region.binds .any e = true ∧ (e.on = j ∨ (B e.on).testBit j = true) := by
 unfold befOf at h
 have gen : ∀ (l : List Edge), (l.foldr (fun e m => if Region.binds .any e then 2 ^ e.on ||| B e.on ||| m else m) 0).testBit j = true → ∃ e ∈ l, Region.binds .any e = true ∧ (e.on = j ∨ (B e.on).testBit j = true) := by
  intro l
  induction l with
  | nil => intro h; simp at h
  | cons x r ih =>
   intro h
   rw [List.foldr_cons] at h
   split at h
   ·rename_i hb
    simp only [Nat.testBit_or, Bool.or_eq_true] at h
    rcases h with (h | h) | h
    ·exact ⟨x, List.mem_cons_self, hb, .inl (bit_two.1 h)⟩
    ·exact ⟨x, List.mem_cons_self, hb, .inr h⟩
    ·obtain ⟨e, he, h'⟩ := ih h
     exact ⟨e, List.mem_cons_of_mem _ he, h'⟩
   ·obtain ⟨e, he, h'⟩ := ih h
    exact ⟨e, List.mem_cons_of_mem _ he, h'⟩
 obtain ⟨e, he, h'⟩ := gen _ h
 exact ⟨e, by simpa using he, h'⟩
def Zba (ops : Array Oper) (listed : Array Bool) : Prop := ∀ (k : Nat) o, ops[k]? = some o → listed.getD k false = true → ∀ e ∈ o.after, Region.binds .any e = true → listed.getD e.on false = true
def Inert (ops : Array Oper) (l : List Ins) (n : Nat) (B : Nat → Nat) (i : Nat) : Prop :=
 ∃ d x o, l[i]? = some ⟨some d, none, .mv x⟩ ∧ ops[i]? = some o ∧ i < n ∧ (∀ e ∈ o.after, Region.binds .any e = false) ∧
  ∀ j y, j ≠ i → l[j]? = some y → (d ∈ y.uses → (B j).testBit i = true) ∧ y.d ≠ some d ∧ (∀ k, x = .t k → (y.d = some k → (B j).testBit i = true) ∧ k ≠ d) ∧ y.op ≠ .bad
structure DrawOk (P : Program) (ops : Array Oper) (l : List Ins) (n : Nat) (B : Nat → Nat) : Prop where
 mixed : P.follows .mixedOrders = true
 le : n ≤ l.length
 edge : ∀ (i : Nat) o, ops[i]? = some o → ∀ e ∈ o.after, Region.binds .any e = true → e.on < i
 bef : ∀ (i : Nat) o, ops[i]? = some o → B i = befOf B o
 tail : ∀ i, i < ops.size → n ≤ i → ∀ j, j < i → (B i).testBit j = true ∨ Inert ops l n B j
 anc : ∀ (k : Nat) io x y T sz an, k < n → l[k]? = some io → io.op = .apx x y T sz an → ∀ j ∈ an, (B k).testBit j = true
 ssa : ∀ (i j : Nat) x y, i < j → j < n → l[i]? = some x → l[j]? = some y → (∀ t, x.d = some t → t ∈ y.uses → (B j).testBit i = true) ∧ (∀ t, y.d = some t → (t ∈ x.uses → (B j).testBit i = true) ∧ x.d ≠ some t)
theorem Zgk {ops : Array Oper} {l : List Ins} {n : Nat} (h : drawB P ops l n = true) : ∃ B, DrawOk P ops l n B := by
 unfold drawB at h
 generalize befs ops.toList [] = L at h
 simp only [Bool.and_eq_true, decide_eq_true_eq] at h
 obtain ⟨⟨⟨⟨⟨h1, h2⟩, h3⟩, h4⟩, h6⟩, h5⟩ := h
 refine ⟨fun i => L.getD i 0, h1, h2, fun i o ho e he hb => ?_, fun i o ho => ?_, fun i hi hn j hj => ?_, fun k io x y T sz an hk hio hop j hj => ?_, fun i j x y hij hjn hx hy => ?_⟩
 ·have hi : i < ops.size := (Array.getElem?_eq_some_iff.1 ho).1
  have := List.all_eq_true.1 h3 i (List.mem_range.2 hi)
  rw [ho] at this
  simp only [Bool.and_eq_true] at this
  have := (Array.all_eq_true'.1 this.1) e he
  simpa [hb] using this
 ·have hi : i < ops.size := (Array.getElem?_eq_some_iff.1 ho).1
  have := List.all_eq_true.1 h3 i (List.mem_range.2 hi)
  rw [ho] at this
  simp only [Bool.and_eq_true, beq_iff_eq] at this
  exact this.2
 ·have := List.all_eq_true.1 h4 i (List.mem_range.2 hi)
  simp only [Bool.or_eq_true, decide_eq_true_eq] at this
  rcases this with h | h
  ·omega
  ·have := List.all_eq_true.1 h j (List.mem_range.2 hj)
   simp only [Bool.or_eq_true] at this
   rcases this with h | h
   ·exact .inl h
   ·refine .inr ?_
    unfold inertB at h
    split at h
    case h_2 => cases h
    rename_i d x o hl ho
    simp only [Bool.and_eq_true, decide_eq_true_eq, Array.all_eq_true'] at h
    refine ⟨d, x, o, hl, ho, h.1.1, fun e he => by simpa using h.1.2 e he, fun j' y hj' hy => ?_⟩
    have hjl : j' < l.length := (List.getElem?_eq_some_iff.1 hy).1
    have := List.all_eq_true.1 h.2 j' (List.mem_range.2 hjl)
    rw [hy] at this
    simp only [Bool.or_eq_true, beq_iff_eq, Bool.and_eq_true, Bool.not_eq_true', bne_iff_ne] at this
    rcases this with h | ⟨⟨⟨h1, h2⟩, h3⟩, h4⟩
    ·exact absurd h hj'
    refine ⟨fun hu => ?_, h2, fun k hk => ?_, fun hb => by rw [hb] at h4; simp at h4⟩
    ·rcases h1 with h1 | h1
     ·simp [hu] at h1
     ·exact h1
    ·subst hk
     simp only [Bool.and_eq_true, Bool.or_eq_true, bne_iff_ne] at h3
     refine ⟨fun hy => ?_, h3.2⟩
     rcases h3.1 with h | h
     ·exact absurd hy h
     ·exact h
 ·have := List.all_eq_true.1 h6 k (List.mem_range.2 hk)
  obtain ⟨d, g, op⟩ := io
  simp only at hop
  subst hop
  rw [hio] at this
  exact List.all_eq_true.1 this j hj
 ·have := List.all_eq_true.1 (List.all_eq_true.1 h5 j (List.mem_range.2 hjn)) i (List.mem_range.2 hij)
  rw [hx, hy] at this
  simp only [Bool.and_eq_true] at this
  refine ⟨fun t ht hu => ?_, fun t ht => ?_⟩
  ·have h := this.1
   rw [ht] at h
   simp only [Bool.or_eq_true, Bool.not_eq_true', List.contains_eq_mem] at h
   rcases h with h | h
   ·simp [hu] at h
   ·exact h
  ·have h := this.2
   rw [ht] at h
   simp only [Bool.and_eq_true, Bool.or_eq_true, Bool.not_eq_true', List.contains_eq_mem, bne_iff_ne] at h
   refine ⟨fun hu => ?_, h.2⟩
   rcases h.1 with h | h
   ·simp [hu] at h
   ·exact h
theorem Z0o {ops : Array Oper} {l : List Ins} {n : Nat} {B : Nat → Nat} (hD : DrawOk P ops l n B) {listed : Array Bool} (hc : Zba ops listed) : ∀ (i : Nat) o, ops[i]? = some o → (∀ e ∈ o.after, Region.binds .any e = true → listed.getD e.on false = true) →
  ∀ j, (B i).testBit j = true → listed.getD j false = true := by
 intro i
 induction i using Nat.strongRecOn with
 | _ i ih =>
  intro o ho hall j hj
  rw [hD.bef i o ho] at hj
  obtain ⟨e, he, hb, hor⟩ := befOf_bit hj
  have hl := hall e he hb
  rcases hor with h | h
  ·rw [← h]; exact hl
  ·have hlt := hD.edge i o ho e he hb
   have hsz : e.on < ops.size := by have := (Array.getElem?_eq_some_iff.1 ho).1; omega
   exact ih e.on hlt ops[e.on] (Array.getElem?_eq_getElem hsz) (hc e.on _ (Array.getElem?_eq_getElem hsz) hl) j h
def cnt (listed : Array Bool) : Nat → Nat
 | 0 => 0
 | m + 1 => cnt listed m + (if listed.getD m false then 0 else 1)
theorem cnt_set {listed : Array Bool} {i : Nat} (hi : i < listed.size) (hu : listed.getD i false = false) : ∀ m, cnt (listed.setIfInBounds i true) m + (if i < m then 1 else 0) = cnt listed m
 | 0 => by simp [cnt]
 | m + 1 => by
  have ih := cnt_set hi hu m
  simp only [cnt]
  by_cases he : i = m
  ·subst he
   have : (listed.setIfInBounds i true).getD i false = true := by simp [Array.getD, hi]
   rw [this, hu]
   simp only [if_true, Bool.false_eq_true, if_false]
   have h1 : ¬ i < i := by omega
   rw [if_neg h1] at ih
   rw [if_pos (by omega)]
   omega
  ·rw [getD_set_ne false he]
   by_cases hlt : i < m
   ·have h2 : i < m + 1 := by omega
    simp only [hlt, h2, if_true] at ih ⊢
    omega
   ·have h2 : ¬ i < m + 1 := by omega
    simp only [hlt, h2, if_false] at ih ⊢
    omega
theorem cnt_pos {listed : Array Bool} : ∀ m, (∀ i, i < m → listed.getD i false = true) ∨ ∃ i, i < m ∧ listed.getD i false = false ∧ ∀ j, j < i → listed.getD j false = true
 | 0 => .inl fun i h => by omega
 | m + 1 => by
  rcases cnt_pos (listed := listed) m with h | ⟨i, h1, h2, h3⟩
  ·cases hm : listed.getD m false with
   | true => exact .inl fun i hi => by rcases Nat.lt_or_ge i m with h' | h'; exact h i h'; rw [show i = m by omega]; exact hm
   | false => exact .inr ⟨m, by omega, hm, h⟩
  ·exact .inr ⟨i, by omega, h2, h3⟩
theorem cnt_zero {listed : Array Bool} : ∀ m, cnt listed m = 0 → ∀ i, i < m → listed.getD i false = true
 | 0, _, i, h => by omega
 | m + 1, h, i, hi => by
  simp only [cnt] at h
  rcases Nat.lt_or_ge i m with h' | h'
  ·exact cnt_zero m (by omega) i h'
  ·have : i = m := by omega
   subst this
   cases hl : listed.getD i false with
   | true => rfl
   | false => rw [hl] at h; simp at h
theorem Z8c (hE : FS P C) {ops : Array Oper} {nt : Nat} : ∀ (n : Nat) (l : List Ins) (e : Env) (s : Sto) (e' : Env) (s' : Sto), steps C π n l e s = some (e', s') → n ≤ l.length →
  ∃ (es : Nat → Env) (ss : Nat → Sto) (avs : Nat → AV) (nw : Nat → Sto), es 0 = e ∧ ss 0 = s ∧ es l.length = e' ∧ ss l.length = s' ∧
   (∀ i, i < n → ∃ io, l[i]? = some io ∧ StepA P ops nt io (es i) (ss i) (es (i + 1)) (ss (i + 1)) (avs i) (nw i)) ∧ (∀ i, n ≤ i → ∀ io, l[i]? = some io → step C π io (es i) (ss i) = some (es (i + 1), ss (i + 1)))
 | n, [], e, s, e', s', h, hn => by
  simp [steps] at h
  obtain ⟨rfl, rfl⟩ := h
  have : n = 0 := by simpa using hn
  subst this
  exact ⟨fun _ => e, fun _ => s, fun _ => default, fun _ => [], rfl, rfl, rfl, rfl, fun i hi => by omega, fun i _ io hio => by simp at hio⟩
 | 0, io :: l, e, s, e', s', h, _ => by
  simp only [steps] at h
  split at h
  case h_2 => cases h
  rename_i e1 s1 h1
  obtain ⟨es, ss, avs, nw, a1, a2, a3, a4, _, a6⟩ := Z8c hE (ops := ops) (nt := nt) 0 l e1 s1 e' s' h (Nat.zero_le _)
  refine ⟨fun i => match i with | 0 => e | i + 1 => es i, fun i => match i with | 0 => s | i + 1 => ss i, avs, nw, rfl, rfl, by simpa using a3, by simpa using a4, fun i hi => by omega, fun i _ io' hio => ?_⟩
  cases i with
  | zero => simp at hio; subst hio; simp only [a1, a2]; exact h1
  | succ i => exact a6 i (Nat.zero_le _) io' (by simpa using hio)
 | n + 1, io :: l, e, s, e', s', h, hn => by
  simp only [steps] at h
  split at h
  case h_2 => cases h
  rename_i e1 s1 h1
  obtain ⟨av, news, st⟩ := Zca (P := P) hE (ops := ops) (nt := nt) h1
  obtain ⟨es, ss, avs, nw, a1, a2, a3, a4, a5, a6⟩ := Z8c hE (ops := ops) (nt := nt) n l e1 s1 e' s' h (by simpa using hn)
  refine ⟨fun i => match i with | 0 => e | i + 1 => es i, fun i => match i with | 0 => s | i + 1 => ss i, fun i => match i with | 0 => av | i + 1 => avs i, fun i => match i with | 0 => news | i + 1 => nw i,
   rfl, rfl, by simpa using a3, by simpa using a4, fun i hi => ?_, fun i hi io' hio => ?_⟩
  ·cases i with
   | zero => exact ⟨io, rfl, by simp only [a1, a2]; exact st⟩
   | succ i =>
    obtain ⟨io', hio, hst⟩ := a5 i (by omega)
    exact ⟨io', by simpa using hio, hst⟩
  ·cases i with
   | zero => omega
   | succ i => exact a6 i (by omega) io' (by simpa using hio)
end
end Go.Proofs.YteecfnfjlclhdaaGreat.V
