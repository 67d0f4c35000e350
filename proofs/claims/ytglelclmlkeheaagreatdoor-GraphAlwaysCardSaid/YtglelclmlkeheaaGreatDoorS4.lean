/- All values of some leaves, one after the other: in plain terms. All values of some leaves, in the program, for the difference of two nodes. All values of some leaves, in the program, for the difference of two nodes: a round. All values of some leaves, in the program, until two nodes differ. The firs -/
import Derived.Test.YtglelclmlkeheaaGreatDoorS3
import Derived.Test.YtglelclmlkeheaaGreatDoorS2
import Derived.Test.YtglelclmlkeheaaGreatDoorS1

set_option linter.unusedSimpArgs false
set_option linter.unusedVariables false

/- All values of some leaves, one after the other: in plain terms. -/
namespace Go.Proofs.YtglelclmlkeheaaGreatDoor.V

/-- The next values: the first leaf of the list goes on first; false: there are none, and all of them begin anew. -/
def nextP (leaves : List Int) : List Int → List Int → Bool × List Int
  | [], s => (false, s)
  | n :: r, s => if fitsB (s.getD n.toNat 0 + 1) (leaves.getD n.toNat 0) = true then (true, s.set n.toNat (s.getD n.toNat 0 + 1)) else nextP leaves r (s.set n.toNat 0)
theorem nextP_app (leaves : List Int) (b : List Int) : ∀ (a s : List Int), nextP leaves (a ++ b) s = match nextP leaves a s with | (true, t) => (true, t) | (false, t) => nextP leaves b t
  | [], s => rfl
  | n :: r, s => by
    have ih := nextP_app leaves b r (s.set n.toNat 0)
    rw [List.cons_append]
    by_cases h : fitsB (s.getD n.toNat 0 + 1) (leaves.getD n.toNat 0) = true
    · rw [show nextP leaves (n :: (r ++ b)) s = _ from if_pos h, show nextP leaves (n :: r) s = _ from if_pos h]
    · rw [show nextP leaves (n :: (r ++ b)) s = _ from if_neg h, show nextP leaves (n :: r) s = _ from if_neg h]
      exact ih
/-- Each but the last one is followed by the next one. -/
def Lnk (leaves L : List Int) : List (List Int) → Bool × List Int → Prop
  | [], _ => False
  | [s], z => nextP leaves L s = z
  | s :: t :: r, z => nextP leaves L s = (true, t) ∧ Lnk leaves L (t :: r) z
theorem Lnk.app {leaves L : List Int} {b : List Int} {B : List (List Int)} {z : Bool × List Int} : ∀ {A : List (List Int)}, Lnk leaves L A (true, b) → Lnk leaves L (b :: B) z → Lnk leaves L (A ++ b :: B) z
  | [], h, _ => h.elim
  | [s], h, k => ⟨h, k⟩
  | s :: t :: r, h, k => ⟨h.1, Lnk.app h.2 k⟩
theorem Lnk.more {leaves L M : List Int} {z : List Int} : ∀ {A : List (List Int)}, Lnk leaves L A (false, z) → Lnk leaves (L ++ M) A (nextP leaves M z)
  | [], h => h.elim
  | [s], h => by
    have h : nextP leaves L s = (false, z) := h
    show nextP leaves (L ++ M) s = _
    rw [nextP_app, h]
  | s :: t :: r, h => by
    refine ⟨?_, Lnk.more h.2⟩
    rw [nextP_app, h.1]

/-- All values of some leaves, the others as they are. -/
def enumV (leaves : List Int) : List Int → List Int → List (List Int)
  | [], x => [x]
  | n :: r, x => (List.range (2 ^ (leaves.getD n.toNat 0).toNat)).flatMap fun (v : Nat) => enumV leaves r (x.set n.toNat (v : Int))
theorem enumV_head (leaves : List Int) : ∀ (l x : List Int), (∀ n ∈ l, x.getD n.toNat 0 = 0 ∧ n.toNat < x.length) → ∃ r, enumV leaves l x = x :: r
  | [], x, _ => ⟨[], rfl⟩
  | n :: r, x, h => by
    obtain ⟨k, hk⟩ : ∃ k, 2 ^ (leaves.getD n.toNat 0).toNat = k + 1 := ⟨2 ^ (leaves.getD n.toNat 0).toNat - 1, by have := Nat.two_pow_pos (leaves.getD n.toNat 0).toNat; omega⟩
    have h0 := h n (by simp)
    have hx : x.set n.toNat ((0 : Nat) : Int) = x := by
      have : x[n.toNat]'h0.2 = 0 := by have := h0.1; simpa [List.getD, h0.2] using this
      rw [show ((0 : Nat) : Int) = x[n.toNat]'h0.2 from this.symm]
      exact List.set_getElem_self h0.2
    obtain ⟨q, hq⟩ := enumV_head leaves r x fun m hm => h m (by simp [hm])
    unfold enumV
    rw [hk, List.range_succ_eq_map, List.flatMap_cons, hx, hq]
    exact ⟨_, rfl⟩
theorem fits_next {v : Nat} {w : Int} (hw : 1 ≤ w ∧ w ≤ 16) : fitsB ((v : Int) + 1) w = true ↔ v + 1 < 2 ^ w.toNat := by
  unfold fitsB pw
  have hc : ((2 ^ w.toNat : Nat) : Int) = (2 : Int) ^ w.toNat := by simp
  rw [← hc]
  generalize 2 ^ w.toNat = k
  simp only [Bool.and_eq_true, decide_eq_true_eq, within_iff]
  omega
theorem enumV_lnk (leaves : List Int) (hlw : ∀ n ∈ leaves, 1 ≤ n ∧ n ≤ 16) : ∀ (l x : List Int), l.Nodup → (∀ n ∈ l, x.getD n.toNat 0 = 0 ∧ 0 ≤ n ∧ n.toNat < x.length) → x.length = leaves.length → Lnk leaves l.reverse (enumV leaves l x) (false, x)
  | [], x, _, _, _ => rfl
  | n :: r, x, hnd, h, hxl => by
    obtain ⟨hn0, hnn, hnl⟩ := h n (by simp)
    obtain ⟨hnr, hrd⟩ := List.nodup_cons.1 hnd
    have hw : 1 ≤ leaves.getD n.toNat 0 ∧ leaves.getD n.toNat 0 ≤ 16 := by
      have hlt : n.toNat < leaves.length := by omega
      have : leaves.getD n.toNat 0 = leaves[n.toNat] := by simp [List.getD, hlt]
      rw [this]; exact hlw _ (List.getElem_mem hlt)
    have hset : ∀ (v : Int) (m : Int), m ∈ r → (x.set n.toNat v).getD m.toNat 0 = 0 ∧ 0 ≤ m ∧ m.toNat < (x.set n.toNat v).length := fun v m hm => by
      have h1 := h m (by simp [hm])
      refine ⟨?_, h1.2.1, by simpa using h1.2.2⟩
      rw [getD_set _ _ _ _ _ hnl, if_neg]
      · exact h1.1
      · intro e
        have : n = m := by omega
        rw [this] at hnr; exact hnr hm
    have hblock : ∀ v : Nat, Lnk leaves (n :: r).reverse (enumV leaves r (x.set n.toNat (v : Int))) (nextP leaves [n] (x.set n.toNat (v : Int))) := fun v => by
      rw [List.reverse_cons]
      exact (enumV_lnk leaves hlw r (x.set n.toNat (v : Int)) hrd (fun m hm => hset _ m hm) (by simpa using hxl)).more
    have hnx : ∀ v : Nat, nextP leaves [n] (x.set n.toNat (v : Int)) = if v + 1 < 2 ^ (leaves.getD n.toNat 0).toNat then (true, x.set n.toNat ((v + 1 : Nat) : Int)) else (false, x) := fun v => by
      have hg : (x.set n.toNat (v : Int)).getD n.toNat 0 = v := by rw [getD_set _ _ _ _ _ hnl, if_pos rfl]
      unfold nextP
      rw [hg]
      by_cases hf : v + 1 < 2 ^ (leaves.getD n.toNat 0).toNat
      · rw [if_pos ((fits_next hw).2 hf), if_pos hf, List.set_set]; simp
      · rw [if_neg (fun e => hf ((fits_next hw).1 e)), if_neg hf, List.set_set]
        unfold nextP
        have : x[n.toNat]'hnl = 0 := by have := hn0; simpa [List.getD, hnl] using this
        congr 1
        rw [show (0 : Int) = x[n.toNat]'hnl from this.symm]
        exact List.set_getElem_self hnl
    unfold enumV
    have key : ∀ (m v : Nat), v + m + 1 = 2 ^ (leaves.getD n.toNat 0).toNat → Lnk leaves (n :: r).reverse ((List.range' v (m + 1)).flatMap fun (v : Nat) => enumV leaves r (x.set n.toNat (v : Int))) (false, x) := by
      intro m
      induction m with
      | zero =>
        intro v hv
        have := hblock v
        rw [hnx, if_neg (by omega)] at this
        simpa using this
      | succ m ih =>
        intro v hv
        have hb := hblock v
        rw [hnx, if_pos (by omega)] at hb
        have hi := ih (v + 1) (by omega)
        rw [List.range'_succ, List.flatMap_cons]
        obtain ⟨q, hq⟩ := enumV_head leaves r (x.set n.toNat ((v + 1 : Nat) : Int)) fun k hk => ⟨(hset _ k hk).1, (hset _ k hk).2.2⟩
        rw [List.range'_succ, List.flatMap_cons, hq, List.cons_append] at hi ⊢
        exact Lnk.app hb hi
    obtain ⟨k, hk⟩ : ∃ k, 2 ^ (leaves.getD n.toNat 0).toNat = k + 1 := ⟨2 ^ (leaves.getD n.toNat 0).toNat - 1, by have := Nat.two_pow_pos (leaves.getD n.toNat 0).toNat; omega⟩
    rw [hk, List.range_eq_range']
    exact key k 0 (by omega)

theorem LeafOk.set {leaves s : List Int} (h : LeafOk leaves s) {n : Int} (hn : n.toNat < leaves.length) {v : Int} (hv : Okv v (leaves.getD n.toNat 0)) : LeafOk leaves (s.set n.toNat v) := by
  have hl := h.len
  refine ⟨by simpa using hl, fun j hj => ?_⟩
  rw [getD_set _ _ _ _ _ (by omega)]
  split
  · rename_i e; rw [← e]; exact hv
  · exact h.ok j hj
theorem LeafOk.zero (leaves : List Int) : LeafOk leaves (List.replicate leaves.length 0) := ⟨by simp, fun j hj => by
  have : (List.replicate leaves.length (0 : Int)).getD j 0 = 0 := by simp [List.getD, hj]
  rw [this]
  exact ⟨Int.le_refl _, pw_pos _⟩⟩
theorem okv_nat {v : Nat} {w : Int} (h : v < 2 ^ w.toNat) : Okv (v : Int) w := by
  refine ⟨by omega, ?_⟩
  unfold pw
  have hc : ((2 ^ w.toNat : Nat) : Int) = (2 : Int) ^ w.toNat := by simp
  rw [← hc]
  omega
theorem enumV_ok {leaves : List Int} : ∀ (l x : List Int), LeafOk leaves x → (∀ n ∈ l, n.toNat < leaves.length) → ∀ s ∈ enumV leaves l x, LeafOk leaves s
  | [], x, hx, _, s, hs => by
    rw [enumV, List.mem_singleton] at hs
    rw [hs]; exact hx
  | n :: r, x, hx, hl, s, hs => by
    rw [enumV, List.mem_flatMap] at hs
    obtain ⟨v, hv, hs⟩ := hs
    exact enumV_ok r _ (hx.set (hl n (by simp)) (okv_nat (List.mem_range.1 hv))) (fun m hm => hl m (by simp [hm])) s hs
/-- Any values of the leaves are among them. -/
theorem enumV_mem {leaves : List Int} : ∀ (l x y : List Int), y.length = x.length → (∀ n ∈ l, n.toNat < x.length) → (∀ n ∈ l, Okv (y.getD n.toNat 0) (leaves.getD n.toNat 0)) → (∀ j : Nat, j < x.length → (∀ n ∈ l, n.toNat ≠ j) → y.getD j 0 = x.getD j 0) → y ∈ enumV leaves l x
  | [], x, y, hl, _, _, h => by
    rw [enumV, List.mem_singleton]
    apply List.ext_getElem hl
    intro j h1 h2
    have := h j h2 (by simp)
    simpa [List.getD, h1, h2] using this
  | n :: r, x, y, hl, hn, hv, h => by
    rw [enumV, List.mem_flatMap]
    have hvn := hv n (by simp)
    refine ⟨(y.getD n.toNat 0).toNat, List.mem_range.2 ?_, ?_⟩
    · have h1 := hvn.1
      have h2 := hvn.2
      unfold pw at h2
      have hc : ((2 ^ (leaves.getD n.toNat 0).toNat : Nat) : Int) = (2 : Int) ^ (leaves.getD n.toNat 0).toNat := by simp
      rw [← hc] at h2
      omega
    · have hcast : (((y.getD n.toNat 0).toNat : Nat) : Int) = y.getD n.toNat 0 := by have := hvn.1; omega
      rw [hcast]
      refine enumV_mem r _ y (by simpa using hl) (fun m hm => by simpa using hn m (by simp [hm])) (fun m hm => hv m (by simp [hm])) fun j hj hne => ?_
      rw [List.length_set] at hj
      rw [getD_set _ _ _ _ _ (hn n (by simp))]
      by_cases e : n.toNat = j
      · rw [if_pos e, e]
      · rw [if_neg e]
        exact h j hj fun m hm => by
          rcases List.mem_cons.1 hm with rfl | hm
          · exact e
          · exact hne m hm

/-- Where the next values differ first from these, from the last leaf: the leaves that are left, and the values that begin anew. -/
def carry (leaves : List Int) : List Int → List Int → List Int × List Int
  | [], s => ([], s)
  | n :: r, s => if fitsB (s.getD n.toNat 0 + 1) (leaves.getD n.toNat 0) = true then (n :: r, s) else carry leaves r (s.set n.toNat 0)
theorem nextP_carry (leaves : List Int) : ∀ (l s : List Int), nextP leaves l s = match carry leaves l s with | ([], t) => (false, t) | (n :: _, t) => (true, t.set n.toNat (t.getD n.toNat 0 + 1))
  | [], s => rfl
  | n :: r, s => by
    by_cases h : fitsB (s.getD n.toNat 0 + 1) (leaves.getD n.toNat 0) = true
    · rw [show nextP leaves (n :: r) s = _ from if_pos h, show carry leaves (n :: r) s = _ from if_pos h]
    · rw [show nextP leaves (n :: r) s = _ from if_neg h, show carry leaves (n :: r) s = _ from if_neg h]
      exact nextP_carry leaves r _
theorem carry_ok {leaves : List Int} : ∀ (l s : List Int), LeafOk leaves s → (∀ n ∈ l, n.toNat < leaves.length) → LeafOk leaves (carry leaves l s).2 ∧ ∃ d, l = d ++ (carry leaves l s).1
  | [], s, hs, _ => ⟨hs, [], rfl⟩
  | n :: r, s, hs, hl => by
    by_cases h : fitsB (s.getD n.toNat 0 + 1) (leaves.getD n.toNat 0) = true
    · rw [show carry leaves (n :: r) s = _ from if_pos h]
      exact ⟨hs, [], rfl⟩
    · rw [show carry leaves (n :: r) s = _ from if_neg h]
      obtain ⟨h1, d, h2⟩ := carry_ok r (s.set n.toNat 0) (hs.set (hl n (by simp)) ⟨Int.le_refl _, pw_pos _⟩) fun m hm => hl m (by simp [hm])
      exact ⟨h1, n :: d, by rw [List.cons_append, ← h2]⟩

end Go.Proofs.YtglelclmlkeheaaGreatDoor.V

/- All values of some leaves, in the program, for the difference of two nodes. -/
namespace Go.Proofs.YtglelclmlkeheaaGreatDoor.V
open Go (IntKind BinOp UnOp)
variable {π κ : Id}

abbrev frD (π : Id) (st : FSt) : Id × Blk := (2000000 :: π, .frm π 66 [(6, .ref (6 :: π) 0), (7, .ref (7 :: π) 0), (8, .ref (8 :: π) 0), (9, .ref (9 :: π) 0)] [53, 54] c_graph_DifferenceOf_R0A c_graph_DifferenceOf_R0B st)
abbrev bxD (π : Id) (a b : Int) : Sto := [(9 :: π, .box false [.p (I 0)]), (8 :: π, .box false [.p (.sl 1 (some true) [])]), (7 :: π, .box false [.p (I b)]), (6 :: π, .box false [.p (I a)])]
abbrev bxN (π : Id) (leaves : List Int) (nodes : List Nod) (l : List Int) : Sto := [(5 :: 52 :: π, .box false [.p (encInts l)]), (4 :: 52 :: π, .box false [.p (encNodes nodes)]), (3 :: 52 :: π, .box false [.p (encInts leaves)])]
abbrev k0D (π : Id) : List Id := [2000000 :: π, 5 :: 52 :: π, 4 :: 52 :: π, 3 :: 52 :: π, 9 :: π, 8 :: π, 7 :: π, 6 :: π]
abbrev stD (π : Id) (leaves : List Int) (nodes : List Nod) (l : List Int) (a b : Int) : Sto := frD π .ready :: (bxN π leaves nodes l ++ bxD π a b)
abbrev enD (π : Id) : Env := [(0, .yld (2000000 :: π)), (1, .ref (3 :: 52 :: π) 0), (2, .ref (4 :: 52 :: π) 0), (3, .ref (5 :: 52 :: π) 0), (5, .ap (9 :: 3000000 :: π))]

theorem carry_loopD (leaves : List Int) (hlw : ∀ n ∈ leaves, 1 ≤ n ∧ n ≤ 16) (nodes : List Nod) (l : List Int) (a b : Int) (hll : l.length ≤ 1000) (hin : ∀ n ∈ l, 0 ≤ n ∧ n < (leaves.length : Int)) :
    ∀ (rev done s : List Int) (y : Env × Sto), l = rev.reverse ++ done → LeafOk leaves s →
    mask [0, 1, 2, 3, 5, 6] (k0D π) y = some (enD π ++ [(6, .p (I ((rev.length : Int) - 1)))], rowI (9 :: 3000000 :: π) (some false) s :: stD π leaves nodes l a b) →
    kpO [0, 1, 2, 3, 5, 6] [] (k0D π) (bkO 2 (iter (round EE iter (3000000 :: π) (k0D π) [0, 1, 2, 3, 5, 6] c_graph_runs_1_L1) y)) = some (.nm, enD π ++ [(6, .p (I (((carry leaves rev s).1.length : Int) - 1)))], rowI (9 :: 3000000 :: π) (some false) (carry leaves rev s).2 :: stD π leaves nodes l a b)
  | [], done, s, y, h, hs, hm => by
    rw [loop_eq hm]
    simp [u_graph_runs_1_L1, b_graph_runs_1_L1, carry, evRO]
  | n :: r, done, s, y, h, hs, hm => by
    rw [loop_eq hm]
    have hl' : l = r.reverse ++ n :: done := by rw [h]; simp
    obtain ⟨hn0, hn1⟩ := hin n (by rw [hl']; simp)
    have hsl := hs.len
    have hlt : n.toNat < s.length := by omega
    have hltl : n.toNat < leaves.length := by omega
    have hg : (ints l)[r.length]? = some (I n) := by rw [show r.length = r.reverse.length by simp]; exact get_mid _ hl'
    have hgs : s.getD n.toNat 0 = s[n.toNat] := by simp [List.getD, hlt]
    have hgl : leaves.getD n.toNat 0 = leaves[n.toNat] := by simp [List.getD, hltl]
    have hok := hs.ok n.toNat hltl
    rw [hgs, hgl] at hok
    have hlwn := hlw _ (List.getElem_mem hltl)
    have hpw := pw_le hlwn.2
    have hw1 : IntKind.i64.wrap (s[n.toNat] + 1) = s[n.toNat] + 1 := w64 ⟨by have := hok.1; omega, by have := hok.2; omega⟩
    have hfi := fun π => e_fitsG (π := π) (s[n.toNat] + 1) leaves[n.toNat] hlwn.2
    have e1 : (((n :: r).length : Nat) : Int) - 1 = r.length := by simp
    have hrl : r.length < l.length := by rw [hl']; simp
    rw [e1]
    by_cases hf : fitsB (s[n.toNat] + 1) leaves[n.toNat] = true
    · have hc : carry leaves (n :: r) s = (n :: r, s) := by rw [carry, hgs, hgl, if_pos hf]
      rw [hc]
      simp [u_graph_runs_1_L1, b_graph_runs_1_L1, hg, hn0, hlt, hltl, hw1, hfi, hf, evRO]
    · have hc : carry leaves (n :: r) s = carry leaves r (s.set n.toNat 0) := by rw [carry, hgs, hgl, if_neg hf]
      rw [hc]
      have hnext := carry_loopD leaves hlw nodes l a b hll hin r (n :: done) (s.set n.toNat 0)
      have hwk : IntKind.i64.wrap ((r.length : Int) - 1) = (r.length : Int) - 1 := w64 ⟨by omega, by omega⟩
      generalize carry leaves r (s.set n.toNat 0) = C at *
      simp [u_graph_runs_1_L1, b_graph_runs_1_L1, hg, hn0, hlt, hltl, hw1, hfi, hf, evRO]
      refine hnext _ hl' (hs.set hltl ⟨Int.le_refl _, pw_pos _⟩) ?_
      simp [hwk]
      rfl

end Go.Proofs.YtglelclmlkeheaaGreatDoor.V

/- All values of some leaves, in the program, for the difference of two nodes: a round. -/
namespace Go.Proofs.YtglelclmlkeheaaGreatDoor.V
open Go (IntKind BinOp UnOp)
variable {π κ : Id}

abbrev bxE (π : Id) (a b : Int) : Sto := [(9 :: π, .box false [.p (I 0)]), (8 :: π, .box false [.ap (0 :: 65 :: π)]), (7 :: π, .box false [.p (I b)]), (6 :: π, .box false [.p (I a)])]
theorem e_roundD_eq (a b : Int) (s vs : List Int) (fl : Option Bool) (ha : 0 ≤ a) (hal : a.toNat < vs.length) (hb : 0 ≤ b) (hbl : b.toNat < vs.length) (he : vs[a.toNat] = vs[b.toNat]) :
    EE κ yieldF [.p (.sl 1 (some false) (ints s)), .p (.sl 1 fl (ints vs)), .yld (2000000 :: π)] (frD π .ready :: bxD π a b) = some (.p (.bool true), frD π .ready :: bxD π a b) := by
  rw [e_yldB]
  simp [runY, u_graph_DifferenceOf_R0A, b_graph_DifferenceOf_R0A, u_graph_DifferenceOf_R0B, b_graph_DifferenceOf_R0B, ha, hal, hb, hbl, he, evRO]
theorem e_roundD_ne (a b : Int) (s vs : List Int) (fl : Option Bool) (hs : s.length ≤ 1000) (ha : 0 ≤ a) (hal : a.toNat < vs.length) (hb : 0 ≤ b) (hbl : b.toNat < vs.length) (he : ¬ vs[a.toNat] = vs[b.toNat]) :
    EE κ yieldF [.p (.sl 1 (some false) (ints s)), .p (.sl 1 fl (ints vs)), .yld (2000000 :: π)] (frD π .ready :: bxD π a b) = some (.p (.bool false), rowI (0 :: 65 :: π) (flE (ints s)) s :: frD π (.done .rt) :: bxE π a b) := by
  have hroom : s.length ≤ room := by simp only [room]; omega
  rw [e_yldB]
  simp [runY, u_graph_DifferenceOf_R0A, b_graph_DifferenceOf_R0A, u_graph_DifferenceOf_R0B, b_graph_DifferenceOf_R0B, ha, hal, hb, hbl, he, hroom, o_slices_Clone_int_int, cloneO, evRO]

end Go.Proofs.YtglelclmlkeheaaGreatDoor.V

/- All values of some leaves, in the program, until two nodes differ. -/
namespace Go.Proofs.YtglelclmlkeheaaGreatDoor.V
open Go (IntKind BinOp UnOp)
variable {π κ : Id}

@[simp] theorem clean_ap (i : Id) : AV.clean (.ap i) = true := rfl
@[simp] theorem clean_ref (i : Id) (k : Nat) : AV.clean (.ref i k) = true := rfl
@[simp] theorem clean_yld (i : Id) : AV.clean (.yld i) = true := rfl
@[simp] theorem clean_p (v : PV) : AV.clean (.p v) = v.clean := rfl
@[simp] theorem clean_int (k : IntKind) (n : Int) : PV.clean (.int k n) = true := rfl
@[simp] theorem clean_bool (b : Bool) : PV.clean (.bool b) = true := rfl
@[simp] theorem clean_nil (sz : Nat) (nl : Option Bool) : PV.clean (.sl sz nl []) = true := rfl
@[simp] theorem clean_box (b : Bool) (cs : List AV) : Blk.clean (.box b cs) = cs.all AV.clean := rfl
@[simp] theorem clean_frm (π : Id) (n : Nat) (e : Env) (ps : List Nat) (x y : IR) (st : FSt) : Blk.clean (.frm π n e ps x y st) = e.all fun x => x.2.clean := rfl
@[simp] theorem clean_ints (b : Bool) (T sz : Nat) (nl : Option Bool) (V : List Int) : Blk.clean (.row b T sz nl (ints V)) = true := by
  simp only [Blk.clean, List.all_map, List.all_eq_true]
  intro n _
  rfl

/-- That two nodes have different values. -/
def difB (nodes : List Nod) (a b : Int) (s : List Int) : Bool := decide ((valsN nodes s nodes []).getD a.toNat 0 ≠ (valsN nodes s nodes []).getD b.toNat 0)
abbrev stE (π : Id) (leaves : List Int) (nodes : List Nod) (l : List Int) (a b : Int) (s : List Int) : Sto := rowI (0 :: 65 :: π) (flE (ints s)) s :: frD π (.done .rt) :: (bxN π leaves nodes l ++ bxE π a b)
def outD (π : Id) (leaves : List Int) (nodes : List Nod) (l : List Int) (a b : Int) : Option (List Int) → Sto
  | none => stD π leaves nodes l a b
  | some s => stE π leaves nodes l a b s

theorem lnk_next {leaves L : List Int} {s : List Int} {S : List (List Int)} {z : List Int} (h : Lnk leaves L (s :: S) (false, z)) : (S = [] ∧ nextP leaves L s = (false, z)) ∨ ∃ t S', S = t :: S' ∧ nextP leaves L s = (true, t) ∧ Lnk leaves L (t :: S') (false, z) := by
  cases S with
  | nil => exact .inl ⟨rfl, h⟩
  | cons t S' => exact .inr ⟨t, S', rfl, h.1, h.2⟩

theorem vals_len (nodes : List Nod) (L : List Int) : ∀ (l : List Nod) (o : List Int), (valsN nodes L l o).length = o.length + l.length := by
  intro l
  induction l with
  | nil => intro o; rfl
  | cons x r ih => intro o; rw [valsN, ih]; simp; omega

structure RunsOk (leaves : List Int) (nodes : List Nod) (l : List Int) : Prop where
  lw : ∀ n ∈ leaves, 1 ≤ n ∧ n ≤ 16
  ll : leaves.length ≤ 1000
  nl : nodes.length ≤ 1000
  al : ∀ x ∈ nodes, x.args.length ≤ 1000
  ok : ∀ i x, nodes[i]? = some x → nodeE leaves nodes i x = 0
  len : l.length ≤ 1000
  inL : ∀ n ∈ l, 0 ≤ n ∧ n < (leaves.length : Int)

theorem runs_loopD {leaves : List Int} {nodes : List Nod} {l : List Int} (R : RunsOk leaves nodes l) (a b : Int) (ha : 0 ≤ a ∧ a < (nodes.length : Int)) (hb : 0 ≤ b ∧ b < (nodes.length : Int)) (z : List Int) :
    ∀ (S : List (List Int)) (s : List Int) (y : Env × Sto), Lnk leaves l.reverse (s :: S) (false, z) → (∀ t ∈ s :: S, LeafOk leaves t) →
    mask [0, 1, 2, 3, 5] (k0D π) y = some (enD π, rowI (9 :: 3000000 :: π) (some false) s :: stD π leaves nodes l a b) →
    kpO [] [] (k0D π) (bkO 0 (iter (round EE iter (3000000 :: π) (k0D π) [0, 1, 2, 3, 5] c_graph_runs_1_L0) y)) = some (.rt, [], outD π leaves nodes l a b ((s :: S).find? (difB nodes a b)))
  | S, s, y, hL, hS, hm => by
    rw [loop_eq hm]
    have hs := hS s (by simp)
    have hsl := hs.len
    have hva := fun π => e_valued (π := π) (fl := some false) R.nl R.al R.ll R.ok hs
    have hvl := vals_len nodes s nodes []
    simp only [List.length_nil, Nat.zero_add] at hvl
    have hdif : difB nodes a b s = decide ((valsN nodes s nodes []).getD a.toNat 0 ≠ (valsN nodes s nodes []).getD b.toNat 0) := rfl
    generalize valsN nodes s nodes [] = V at *
    have hal : a.toNat < V.length := by omega
    have hbl : b.toNat < V.length := by omega
    have ga : V.getD a.toNat 0 = V[a.toNat] := by simp [List.getD, hal]
    have gb : V.getD b.toNat 0 = V[b.toNat] := by simp [List.getD, hbl]
    rw [ga, gb] at hdif
    by_cases he : V[a.toNat] = V[b.toNat]
    · have hf : difB nodes a b s = false := by rw [hdif]; simp [he]
      have hrd := fun κ => e_roundD_eq (κ := κ) (π := π) a b s V (flagE nodes) ha.1 hal hb.1 hbl he
      rw [List.find?_cons_of_neg (by simp [hf])]
      have hca := carry_loopD (π := π) leaves R.lw nodes l a b R.len R.inL l.reverse [] s
      have hnp := nextP_carry leaves l.reverse s
      obtain ⟨hco, d, hd⟩ := carry_ok l.reverse s hs (fun n hn => by have := R.inL n (by simpa using hn); omega)
      rw [List.length_reverse] at hca
      have hwl : IntKind.i64.wrap ((l.length : Int) - 1) = (l.length : Int) - 1 := w64 ⟨by omega, by have := R.len; omega⟩
      rcases lnk_next hL with ⟨rfl, hn⟩ | ⟨t, S', rfl, hn, hL'⟩
      · rw [hn] at hnp
        generalize carry leaves l.reverse s = C at *
        obtain ⟨rem, s'⟩ := C
        cases rem with
        | cons n r => simp at hnp
        | nil =>
          simp only [List.find?_nil, outD]
          simp [u_graph_runs_1_L0, b_graph_runs_1_L0, evB, calleeOf, hva, hrd, hwl]
          rw [hca _ (by simp) hs (by simp)]
          simp
      · rw [hn] at hnp
        have hnext := runs_loopD R a b ha hb z S' t
        generalize carry leaves l.reverse s = C at *
        obtain ⟨rem, s'⟩ := C
        cases rem with
        | nil => simp at hnp
        | cons n r =>
          simp only [Prod.mk.injEq, true_and] at hnp
          have hd : l.reverse = d ++ n :: r := hd
          have hl' : l = r.reverse ++ n :: d.reverse := by
            have := congrArg List.reverse hd
            simpa using this
          obtain ⟨hn0, hn1⟩ := R.inL n (by rw [hl']; simp)
          have hs'l := hco.len
          have hs'l : s'.length = leaves.length := hs'l
          have hlt : n.toNat < s'.length := by omega
          have hltl : n.toNat < leaves.length := by omega
          have hg : (ints l)[r.length]? = some (I n) := by rw [show r.length = r.reverse.length by simp]; exact get_mid _ hl'
          have hgs : s'.getD n.toNat 0 = s'[n.toNat] := by simp [List.getD, hlt]
          have hgl : leaves.getD n.toNat 0 = leaves[n.toNat] := by simp [List.getD, hltl]
          have hok := hco.ok n.toNat hltl
          have hok : Okv (s'.getD n.toNat 0) (leaves.getD n.toNat 0) := hok
          rw [hgs, hgl] at hok
          have hlwn := R.lw _ (List.getElem_mem hltl)
          have hpw := pw_le hlwn.2
          have hw1 : IntKind.i64.wrap (s'[n.toNat] + 1) = s'[n.toNat] + 1 := w64 ⟨by have := hok.1; omega, by have := hok.2; omega⟩
          rw [hgs] at hnp
          generalize (t :: S').find? (difB nodes a b) = F at *
          simp [u_graph_runs_1_L0, b_graph_runs_1_L0, evB, calleeOf, hva, hrd, hwl]
          rw [hca _ (by simp) hs (by simp)]
          have hrz : ¬ ((r.length : Nat) : Int) < 0 := by omega
          simp [hg, hn0, hlt, hw1, hrz]
          refine hnext _ hL' (fun u hu => hS u (by simp at hu ⊢; exact .inr hu)) ?_
          simp [hnp]
          rfl
    · have hf : difB nodes a b s = true := by rw [hdif]; simp [he]
      have hrd := fun κ => e_roundD_ne (κ := κ) (π := π) a b s V (flagE nodes) (by have := R.ll; omega) ha.1 hal hb.1 hbl he
      rw [List.find?_cons_of_pos hf]
      simp only [outD]
      simp [u_graph_runs_1_L0, b_graph_runs_1_L0, evB, calleeOf, hva, hrd]

theorem e_runsD {leaves : List Int} {nodes : List Nod} {l : List Int} (R : RunsOk leaves nodes l) (hnd : l.Nodup) (a b : Int) (ha : 0 ≤ a ∧ a < (nodes.length : Int)) (hb : 0 ≤ b ∧ b < (nodes.length : Int)) :
    EE (3000000 :: π) n_graph_runs_1 [.yld (2000000 :: π), .ref (3 :: 52 :: π) 0, .ref (4 :: 52 :: π) 0, .ref (5 :: 52 :: π) 0] (stD π leaves nodes l a b) = some (.p (.tup []), outD π leaves nodes l a b ((enumV leaves l (List.replicate leaves.length 0)).find? (difB nodes a b))) := by
  have hz : ∀ n ∈ l, (List.replicate leaves.length (0 : Int)).getD n.toNat 0 = 0 ∧ 0 ≤ n ∧ n.toNat < (List.replicate leaves.length (0 : Int)).length := fun n hn => by
    have := R.inL n hn
    have hlt : n.toNat < leaves.length := by omega
    exact ⟨by simp [List.getD, hlt], this.1, by simpa using hlt⟩
  obtain ⟨S, hS⟩ := enumV_head leaves l (List.replicate leaves.length 0) fun n hn => ⟨(hz n hn).1, (hz n hn).2.2⟩
  have hlk := enumV_lnk leaves R.lw l (List.replicate leaves.length 0) hnd hz (by simp)
  have hoks := enumV_ok l (List.replicate leaves.length 0) (LeafOk.zero leaves) fun n hn => by have := R.inL n hn; omega
  rw [hS] at hlk hoks ⊢
  have hlp := runs_loopD (π := π) R a b ha hb (List.replicate leaves.length 0) S (List.replicate leaves.length 0)
  have hro : leaves.length ≤ room := by have := R.ll; simp only [room]; omega
  have hrep : List.replicate leaves.length (PV.int .i64 0) = ints (List.replicate leaves.length 0) := by simp
  generalize List.replicate leaves.length (0 : Int) = x at *
  generalize (x :: S).find? (difB nodes a b) = F at *
  simp [e_graph_runs_1, run_eq, c_graph_runs_1, hro, hrep]
  rw [hlp _ hlk hoks (by simp)]
  cases F with
  | none => simp [outD]
  | some t => simp [outD]

end Go.Proofs.YtglelclmlkeheaaGreatDoor.V

/- The first difference of two nodes, in the program. -/
namespace Go.Proofs.YtglelclmlkeheaaGreatDoor.V
open Go (IntKind BinOp UnOp)
variable {π κ : Id}

/-- The bits of some leaves. -/
def sumW (leaves : List Int) : List Int → Int → Int
  | [], s => s
  | n :: r, s => sumW leaves r (s + leaves.getD n.toNat 0)
theorem bitsErr_loop (leaves l : List Int) (hlw : ∀ n ∈ leaves, 1 ≤ n ∧ n ≤ 16) (hll : l.length ≤ 1000) (hin : ∀ n ∈ l, 0 ≤ n ∧ n < (leaves.length : Int)) :
    ∀ (suf pre : List Int) (s : Int) (y : Env × Sto), l = pre ++ suf → 0 ≤ s → s ≤ 16 * pre.length →
    mask [0, 5, 8, 9, 10] [] y = some ([(0, .p (encInts leaves)), (5, .p (I s)), (8, .p (encInts l)), (9, .p (I l.length)), (10, .p (I pre.length))], []) →
    kpO [5] [4] [] (bkO 0 (iter (round EE iter π [] [0, 5, 8, 9, 10] c_graph_bitsErr_L0) y)) = some (.nm, [(5, .p (I (sumW leaves suf s)))], [])
  | [], pre, s, y, h, h0, h1, hm => by
    rw [loop_eq hm]
    have : l = pre := by simpa using h
    simp [u_graph_bitsErr_L0, b_graph_bitsErr_L0, sumW, ← this]
  | n :: suf, pre, s, y, h, h0, h1, hm => by
    rw [loop_eq hm]
    have hlen : pre.length < l.length := by rw [h]; simp
    obtain ⟨hn0, hn1⟩ := hin n (by rw [h]; simp)
    have hlt : n.toNat < leaves.length := by omega
    have hgd : leaves.getD n.toNat 0 = leaves[n.toNat] := by simp [List.getD, hlt]
    have hw := hlw _ (List.getElem_mem hlt)
    have hws := w_succ hlen (show l.length ≤ top63 by simp only [top63]; omega)
    have hws2 : IntKind.i64.wrap (s + leaves[n.toNat]) = s + leaves[n.toNat] := w64 ⟨by omega, by omega⟩
    have hnext := bitsErr_loop leaves l hlw hll hin suf (pre ++ [n]) (s + leaves.getD n.toNat 0)
    rw [show (pre ++ [n]).length = pre.length + 1 by simp, hgd] at hnext
    rw [sumW, hgd]
    generalize sumW leaves suf (s + leaves[n.toNat]) = R at *
    simp [u_graph_bitsErr_L0, b_graph_bitsErr_L0, lt_mid h, get_mid _ h, hn0, hlt, hws2]
    refine hnext _ (by simp [h]) (by omega) (by omega) ?_
    simp [hws]
theorem e_bitsErr (leaves l : List Int) (hlw : ∀ n ∈ leaves, 1 ≤ n ∧ n ≤ 16) (hll : l.length ≤ 1000) (hin : ∀ n ∈ l, 0 ≤ n ∧ n < (leaves.length : Int)) :
    EE π n_graph_bitsErr [.p (encInts leaves), .p (encInts l)] [] = some (.p (I (unlE (decide (sumW leaves l 0 ≤ 12)) 8)), []) := by
  have hlp := bitsErr_loop (π := π) leaves l hlw hll hin l [] 0
  generalize sumW leaves l 0 = R at *
  simp [e_graph_bitsErr, run_eq, c_graph_bitsErr]
  rw [hlp _ rfl (Int.le_refl _) (by simp) (by simp)]
  simp [e_unlessG]

theorem lvN_in {leaves : Nat} {nodes : List Nod} {fr : List Int} : ∀ n ∈ lvN leaves nodes fr, 0 ≤ n ∧ n < (leaves : Int) := fun n hn => by
  unfold lvN at hn
  obtain ⟨j, hj, rfl, _⟩ := (mem_trues _ _ _).1 hn
  have : (isLv leaves nodes fr).length = leaves := by unfold isLv; rw [markAll_len]; simp
  omega
theorem lvN_len {leaves : Nat} {nodes : List Nod} {fr : List Int} : (lvN leaves nodes fr).length ≤ leaves := by
  have h := trues_len (isLv leaves nodes fr) 0
  have : (isLv leaves nodes fr).length = leaves := by unfold isLv; rw [markAll_len]; simp
  unfold lvN
  omega
theorem lvN_nodup {leaves : Nat} {nodes : List Nod} {fr : List Int} : (lvN leaves nodes fr).Nodup := by
  have := trues_sorted (isLv leaves nodes fr) 0
  exact this.imp fun h => by omega

theorem runsOk {leaves : List Int} {nodes : List Nod} (hll : leaves.length ≤ 1000) (hnl : nodes.length ≤ 1000) (hal : ∀ x ∈ nodes, x.args.length ≤ 1000) (hc : (checkE leaves nodes).2 = 0) (fr : List Int) : RunsOk leaves nodes (lvN leaves.length nodes fr) :=
  ⟨(checkE_leaves hc).2.2, hll, hnl, hal, checkE_nodes hc, by have := lvN_len (leaves := leaves.length) (nodes := nodes) (fr := fr); omega, lvN_in⟩

def difE (leaves : List Int) (nodes : List Nod) (a b : Int) : Int := if namedE leaves nodes [a, b] ≠ 0 then namedE leaves nodes [a, b] else firstE [unlE (decide (widOf nodes a = widOf nodes b)) 25, unlE (decide (sumW leaves (lvN leaves.length nodes [a, b]) 0 ≤ 12)) 8]
/-- The first values for which two nodes differ. -/
def difN (leaves : List Int) (nodes : List Nod) (a b : Int) : Option (List Int) := (enumV leaves (lvN leaves.length nodes [a, b]) (List.replicate leaves.length 0)).find? (difB nodes a b)

theorem e_DifferenceOf_err (leaves : List Int) (nodes : List Nod) (a b : Int) (hll : leaves.length ≤ 1000) (hnl : nodes.length ≤ 1000) (hal : ∀ x ∈ nodes, x.args.length ≤ 1000) (he : difE leaves nodes a b ≠ 0) :
    EE π n_graph_DifferenceOf [.p (encInts leaves), .p (encNodes nodes), .p (I a), .p (I b)] [] = some (.p (.tup [.sl 1 (some true) [], I (difE leaves nodes a b)]), []) := by
  have hne := fun π => e_namedErr (π := π) leaves nodes [a, b] (by omega) (by simp) hal
  unfold difE at *
  by_cases hc : namedE leaves nodes [a, b] = 0
  · obtain ⟨hc1, hc2⟩ := namedE_z hc
    have hfin := fromE_z hc2
    obtain ⟨ha0, ha1⟩ := hfin a (by simp)
    obtain ⟨hb0, hb1⟩ := hfin b (by simp)
    have hle := fun π => e_leavesBelow (π := π) nodes hnl hal (fun i x hx => args_in hc1 hx) [a, b] (by simp) hfin
    rw [lvN_eq hc1] at hle
    have hbe := fun π => e_bitsErr (π := π) leaves (lvN leaves.length nodes [a, b]) (checkE_leaves hc1).2.2 (by have := lvN_len (leaves := leaves.length) (nodes := nodes) (fr := [a, b]); omega) lvN_in
    have hal' : a.toNat < nodes.length := by omega
    have hbl' : b.toNat < nodes.length := by omega
    have wa : widOf nodes a = nodes[a.toNat].width := by unfold widOf; simp [List.getD, hal']
    have wb : widOf nodes b = nodes[b.toNat].width := by unfold widOf; simp [List.getD, hbl']
    rw [wa, wb] at he ⊢
    rw [hc] at hne he ⊢
    simp only [ne_eq, not_true_eq_false, if_false] at he ⊢
    rw [show encInts [a, b] = .sl 1 none [I a, I b] from rfl] at hne hle
    generalize lvN leaves.length nodes [a, b] = l at *
    generalize flagE (lvOf (belN nodes [a, b]) nodes) = fl at *
    generalize decide (sumW leaves l 0 ≤ 12) = v at *
    by_cases hw : nodes[a.toNat].width = nodes[b.toNat].width
    · simp only [hw, decide_true] at he ⊢
      cases v with
      | true => exact absurd (by simp [unlE, firstE]) he
      | false => simp [e_graph_DifferenceOf, run_eq, c_graph_DifferenceOf, hne, hle, hbe, ha0, hb0, hal', hbl', hw, e_unlessG, e_first2G, unlE, firstE, freeze, evRO]
    · simp [e_graph_DifferenceOf, run_eq, c_graph_DifferenceOf, hne, hle, hbe, ha0, hb0, hal', hbl', hw, e_unlessG, e_first2G, unlE, firstE, freeze, evRO]
  · rw [if_pos hc] at *
    rw [show encInts [a, b] = .sl 1 none [I a, I b] from rfl] at hne
    generalize namedE leaves nodes [a, b] = c at *
    simp [e_graph_DifferenceOf, run_eq, c_graph_DifferenceOf, hne, hc, freeze, evRO]

set_option maxHeartbeats 1000000 in
theorem e_DifferenceOf (leaves : List Int) (nodes : List Nod) (a b : Int) (hll : leaves.length ≤ 1000) (hnl : nodes.length ≤ 1000) (hal : ∀ x ∈ nodes, x.args.length ≤ 1000) (he : difE leaves nodes a b = 0) :
    EE π n_graph_DifferenceOf [.p (encInts leaves), .p (encNodes nodes), .p (I a), .p (I b)] [] = (match difN leaves nodes a b with
      | none => some (.p (.tup [.sl 1 (some true) [], I 12]), [])
      | some s => some (.tup [.ap (0 :: 65 :: π), .p (I 0)], [rowI (0 :: 65 :: π) (flE (ints s)) s])) := by
  have hne := fun π => e_namedErr (π := π) leaves nodes [a, b] (by omega) (by simp) hal
  unfold difE at he
  by_cases hc : namedE leaves nodes [a, b] = 0
  · obtain ⟨hc1, hc2⟩ := namedE_z hc
    have hfin := fromE_z hc2
    obtain ⟨ha0, ha1⟩ := hfin a (by simp)
    obtain ⟨hb0, hb1⟩ := hfin b (by simp)
    have hle := fun π => e_leavesBelow (π := π) nodes hnl hal (fun i x hx => args_in hc1 hx) [a, b] (by simp) hfin
    rw [lvN_eq hc1] at hle
    have hbe := fun π => e_bitsErr (π := π) leaves (lvN leaves.length nodes [a, b]) (checkE_leaves hc1).2.2 (by have := lvN_len (leaves := leaves.length) (nodes := nodes) (fr := [a, b]); omega) lvN_in
    have hru := e_runsD (π := π) (runsOk hll hnl hal hc1 [a, b]) lvN_nodup a b ⟨ha0, ha1⟩ ⟨hb0, hb1⟩
    have hal' : a.toNat < nodes.length := by omega
    have hbl' : b.toNat < nodes.length := by omega
    have wa : widOf nodes a = nodes[a.toNat].width := by unfold widOf; simp [List.getD, hal']
    have wb : widOf nodes b = nodes[b.toNat].width := by unfold widOf; simp [List.getD, hbl']
    rw [wa, wb] at he
    rw [if_neg (by simp [hc])] at he
    rw [hc] at hne
    rw [show encInts [a, b] = .sl 1 none [I a, I b] from rfl] at hne hle
    unfold difN
    generalize lvN leaves.length nodes [a, b] = l at *
    generalize flagE (lvOf (belN nodes [a, b]) nodes) = fl at *
    generalize decide (sumW leaves l 0 ≤ 12) = v at *
    obtain ⟨he1, he2⟩ := (firstE_cons _ _).1 he
    obtain ⟨he2, _⟩ := (firstE_cons _ _).1 he2
    have hw := (unlE_z (by decide)).1 he1
    have hv := (unlE_z (by decide)).1 he2
    have hw : nodes[a.toNat].width = nodes[b.toNat].width := by simpa using hw
    subst hv
    generalize (enumV leaves l (List.replicate leaves.length 0)).find? (difB nodes a b) = F at *
    cases F with
    | none =>
      simp only [outD, stD, bxN, bxD, List.cons_append, List.nil_append] at hru
      simp [e_graph_DifferenceOf, run_eq, c_graph_DifferenceOf, hne, hle, hbe, ha0, hb0, hal', hbl', hw, e_unlessG, e_first2G, unlE, firstE, freeze, evRO, e_graph_runs, c_graph_runs, evC_rf, fnOf, y_graph_runs_1]
      rw [hru]
      simp
    | some s =>
      simp only [outD, stD, stE, bxN, bxD, bxE, List.cons_append, List.nil_append] at hru
      simp [e_graph_DifferenceOf, run_eq, c_graph_DifferenceOf, hne, hle, hbe, ha0, hb0, hal', hbl', hw, e_unlessG, e_first2G, unlE, firstE, freeze, evRO, e_graph_runs, c_graph_runs, evC_rf, fnOf, y_graph_runs_1]
      rw [hru]
      simp
  · rw [if_pos hc] at he
    exact absurd he hc

end Go.Proofs.YtglelclmlkeheaaGreatDoor.V

/- The errors of any graph, by the reference; whatever their arguments. -/
namespace Go.Proofs.YtglelclmlkeheaaGreatDoor.V
open Go (IntKind BinOp UnOp)
variable {π : Id}

theorem argc_le : ∀ k, argc k ≤ 3
  | k => by unfold argc; (repeat' split) <;> omega
theorem e_nodeErrA (leaves : List Int) (hl : leaves.length ≤ 1000) (nodes : List Nod) (hnl : nodes.length ≤ 100000) (i : Nat) (x : Nod) (hx : nodes[i]? = some x) :
    EE π n_ratchetbase_nodeErr [.p (encInts leaves), .p (encNodes nodes), .p (I i)] [] = some (.p (I (nodeE leaves nodes i x)), []) := by
  by_cases hal : x.args.length ≤ 1000
  · exact e_nodeErr leaves hl nodes hnl i x hx hal
  have hi := (List.getElem?_eq_some_iff.1 hx).1
  have hx2 := (List.getElem?_eq_some_iff.1 hx).2
  unfold nodeE
  by_cases h1 : within x.op 0 18 = true
  · have h1' := within_iff.1 h1
    by_cases h2 : within x.width 1 16 = true
    · have hk : x.op.toNat < 19 := by omega
      have hopn : x.op = (x.op.toNat : Int) := by omega
      have hac := fun π => e_ArgCount (π := π) x.op.toNat hk
      rw [← hopn] at hac
      have h3 := argc_le x.op.toNat
      have h3' : ¬ (x.args.length : Int) = (argc x.op.toNat : Int) := by omega
      have h3'' : ¬ x.args.length = argc x.op.toNat := by omega
      simp [e_ratchetbase_nodeErr, run_eq, c_ratchetbase_nodeErr, hi, hx2, e_Within, e_IsWidth, h1, h2, hac, h3', h3'', freeze, evRO, firstE, unlE]
    · simp [e_ratchetbase_nodeErr, run_eq, c_ratchetbase_nodeErr, hi, hx2, e_Within, e_IsWidth, h1, h2, freeze, evRO, firstE, unlE]
  · simp [e_ratchetbase_nodeErr, run_eq, c_ratchetbase_nodeErr, hi, hx2, e_Within, e_IsWidth, h1, freeze, evRO, firstE, unlE]

theorem nds_loopA (leaves : List Int) (hl : leaves.length ≤ 1000) (nodes : List Nod) (hnl : nodes.length ≤ 100000) : ∀ (suf pre : List Nod) (x : Env × Sto), nodes = pre ++ suf → mask [0, 1, 6] [] x = some ([(0, .p (encInts leaves)), (1, .p (encNodes nodes)), (6, .p (I pre.length))], []) →
    kpO [] [4, 5] [] (bkO 0 (iter (round EE iter π [] [0, 1, 6] c_ratchetbase_NodesErr_L0) x)) = (if (eachE (nodeE leaves nodes) pre.length suf).2 = 0 then some (.nm, [], []) else some (.rt, [(4, .p (I (eachE (nodeE leaves nodes) pre.length suf).1)), (5, .p (I (eachE (nodeE leaves nodes) pre.length suf).2))], []))
  | [], pre, x, h, hm => by
    rw [loop_eq hm]
    subst h
    simp [u_ratchetbase_NodesErr_L0, b_ratchetbase_NodesErr_L0, eachE]
  | y :: suf, pre, x, h, hm => by
    rw [loop_eq hm]
    have hne := fun π => e_nodeErrA (π := π) leaves hl nodes hnl pre.length y (by rw [h]; simp)
    have hlt := lt_mid h
    have hnext := nds_loopA leaves hl nodes hnl suf (pre ++ [y])
    rw [show (pre ++ [y]).length = pre.length + 1 by simp] at hnext
    have he : eachE (nodeE leaves nodes) pre.length (y :: suf) = if nodeE leaves nodes pre.length y = 0 then eachE (nodeE leaves nodes) (pre.length + 1) suf else (pre.length, nodeE leaves nodes pre.length y) := rfl
    rw [he]
    generalize nodeE leaves nodes pre.length y = c at *
    generalize eachE (nodeE leaves nodes) (pre.length + 1) suf = q at *
    by_cases hc : c = 0
    · simp [u_ratchetbase_NodesErr_L0, b_ratchetbase_NodesErr_L0, lt_mid h, hne, hc]
      exact hnext _ (by simp [h]) (by simp [w_succ (lt_nat h) (show nodes.length ≤ top63 by simp only [top63]; omega)])
    · simp [u_ratchetbase_NodesErr_L0, b_ratchetbase_NodesErr_L0, lt_mid h, hne, hc]

theorem e_NodesErrBA (leaves : List Int) (hl : leaves.length ≤ 1000) (nodes : List Nod) :
    EE π n_ratchetbase_NodesErr [.p (encInts leaves), .p (encNodes nodes)] [] = some (.p (.tup [I (if 400 < nodes.length then (0, 8) else eachE (nodeE leaves nodes) 0 nodes).1, I (if 400 < nodes.length then (0, 8) else eachE (nodeE leaves nodes) 0 nodes).2]), []) := by
  by_cases h3 : 400 < nodes.length
  · have h3' : (400 : Int) < nodes.length := by omega
    simp [e_ratchetbase_NodesErr, run_eq, c_ratchetbase_NodesErr, h3, h3', freeze, evRO]
  · have h3' : ¬ (400 : Int) < nodes.length := by omega
    simp [e_ratchetbase_NodesErr, run_eq, c_ratchetbase_NodesErr, h3, h3', freeze, evRO]
    rw [nds_loopA leaves hl nodes (by omega) nodes [] _ rfl (by simp)]
    by_cases hf : (eachE (nodeE leaves nodes) 0 nodes).2 = 0
    · have h1 : (eachE (nodeE leaves nodes) 0 nodes).1 = 0 := eachE_0 _ 0 _ hf
      simp [hf, h1]
    · simp [hf]

theorem e_CheckNodesRA (leaves : List Int) (nodes : List Nod) :
    EE π n_ratchetref02_CheckNodes [.p (encInts leaves), .p (encNodes nodes)] [] = some (.p (.tup [I (checkE leaves nodes).1, I (checkE leaves nodes).2]), []) := by
  unfold checkE
  by_cases h1 : 40 < leaves.length
  · have h1' : (40 : Int) < leaves.length := by omega
    simp [e_ratchetref02_CheckNodes, run_eq, c_ratchetref02_CheckNodes, h1, h1', freeze, evRO]
  · have h1' : ¬ (40 : Int) < leaves.length := by omega
    have hlp := lv_loop (π := π) leaves (by omega) (encNodes nodes) leaves []
    have hnb := fun π => e_NodesErrBA (π := π) leaves (by omega) nodes
    rw [if_neg h1]
    simp [e_ratchetref02_CheckNodes, run_eq, c_ratchetref02_CheckNodes, h1', freeze, evRO]
    rw [hlp _ rfl (by simp)]
    simp only [List.length_nil]
    generalize (if 400 < nodes.length then (0, 8) else eachE (nodeE leaves nodes) 0 nodes) = q at *
    generalize eachE (fun _ n => unlE (within n 1 16) 2) 0 leaves = r at *
    by_cases h2 : r.2 = 0 <;> simp [h2, hnb, freeze, evRO]

theorem e_NodesErrA (leaves : List Int) (nodes : List Nod) :
    EE π n_ratchetref02_NodesErr [.p (encInts leaves), .p (encNodes nodes)] [] = some (.p (I (checkE leaves nodes).2), []) := by
  have hc := fun π => e_CheckNodesRA (π := π) leaves nodes
  simp [e_ratchetref02_NodesErr, run_eq, c_ratchetref02_NodesErr, hc, evRO]

theorem args_le {leaves : List Int} {nodes : List Nod} (h : (checkE leaves nodes).2 = 0) : ∀ x ∈ nodes, x.args.length ≤ 1000 := fun x hx => by
  obtain ⟨i, hi⟩ := List.getElem?_of_mem hx
  have := (nodeE_iff (checkE_nodes h i x hi)).2.2.1
  have h3 := argc_le x.op.toNat
  omega

theorem e_ValuesErrA (leaves values : List Int) (hll : leaves.length ≤ 1000) (hlw : ∀ n ∈ leaves, 1 ≤ n ∧ n ≤ 16) :
    EE π n_ratchetref02_ValuesErr [.p (encInts leaves), .p (encInts values)] [] = some (.p (I (valuesE leaves values)), []) := by
  by_cases hl : values.length = leaves.length
  · exact e_ValuesErr leaves values hlw (by omega)
  · unfold valuesE
    have hl' : ¬ (leaves.length : Int) = values.length := by omega
    rw [if_pos hl]
    simp [e_ratchetref02_ValuesErr, run_eq, c_ratchetref02_ValuesErr, hl']

end Go.Proofs.YtglelclmlkeheaaGreatDoor.V

/- The bits below some nodes, by the reference. -/
namespace Go.Proofs.YtglelclmlkeheaaGreatDoor.V
open Go (IntKind BinOp UnOp)
variable {π κ : Id}

theorem bits_loop (leaves l : List Int) (hlw : ∀ n ∈ leaves, 1 ≤ n ∧ n ≤ 16) (hll : l.length ≤ 1000) (hin : ∀ n ∈ l, 0 ≤ n ∧ n < (leaves.length : Int)) :
    ∀ (suf pre : List Int) (s : Int) (y : Env × Sto), l = pre ++ suf → 0 ≤ s → s ≤ 16 * pre.length →
    mask [0, 7, 8, 9] [] y = some ([(0, .p (encInts leaves)), (7, .p (I s)), (8, .ap (1010 :: 14 :: π)), (9, .p (I pre.length))], [rowI (1010 :: 14 :: π) (flagE l) l]) →
    kpO [7] [6] [] (bkO 0 (iter (round EE iter π [] [0, 7, 8, 9] c_ratchetref02_Bits_L0) y)) = some (.nm, [(7, .p (I (sumW leaves suf s)))], [])
  | [], pre, s, y, h, h0, h1, hm => by
    rw [loop_eq hm]
    have : l = pre := by simpa using h
    simp [u_ratchetref02_Bits_L0, b_ratchetref02_Bits_L0, sumW, ← this]
  | n :: suf, pre, s, y, h, h0, h1, hm => by
    rw [loop_eq hm]
    have hlen : pre.length < l.length := by rw [h]; simp
    have hgl : l[pre.length] = n := by simp [h]
    obtain ⟨hn0, hn1⟩ := hin n (by rw [h]; simp)
    have hlt : n.toNat < leaves.length := by omega
    have hgd : leaves.getD n.toNat 0 = leaves[n.toNat] := by simp [List.getD, hlt]
    have hw := hlw _ (List.getElem_mem hlt)
    have hws := w_succ hlen (show l.length ≤ top63 by simp only [top63]; omega)
    have hws2 : IntKind.i64.wrap (s + leaves[n.toNat]) = s + leaves[n.toNat] := w64 ⟨by omega, by omega⟩
    have hnext := bits_loop leaves l hlw hll hin suf (pre ++ [n]) (s + leaves.getD n.toNat 0)
    rw [show (pre ++ [n]).length = pre.length + 1 by simp, hgd] at hnext
    rw [sumW, hgd]
    generalize sumW leaves suf (s + leaves[n.toNat]) = R at *
    simp [u_ratchetref02_Bits_L0, b_ratchetref02_Bits_L0, lt_mid h, hlen, hgl, hn0, hlt, hws2]
    refine hnext _ (by simp [h]) (by omega) (by omega) ?_
    simp [hws]
theorem e_Bits (leaves : List Int) (nodes : List Nod) (hll : leaves.length ≤ 1000) (hnl : nodes.length ≤ 1000) (hal : ∀ x ∈ nodes, x.args.length ≤ 1000) (hc : (checkE leaves nodes).2 = 0) (fr : List Int) (hfl : fr.length ≤ 1000) (hfin : ∀ n ∈ fr, 0 ≤ n ∧ n < (nodes.length : Int)) :
    EE π n_ratchetref02_Bits [.p (encInts leaves), .p (encNodes nodes), .p (encInts fr)] [] = some (.p (I (sumW leaves (lvN leaves.length nodes fr) 0)), []) := by
  have hlb := fun π => e_LeavesBelow (π := π) leaves nodes hll hnl hal hc fr hfl hfin
  have hlen := lvN_len (leaves := leaves.length) (nodes := nodes) (fr := fr)
  have hlp := bits_loop (π := π) leaves (lvN leaves.length nodes fr) (checkE_leaves hc).2.2 (by omega) lvN_in (lvN leaves.length nodes fr) [] 0
  generalize lvN leaves.length nodes fr = l at *
  generalize sumW leaves l 0 = R at *
  simp [e_ratchetref02_Bits, run_eq, c_ratchetref02_Bits, hlb]
  rw [hlp _ rfl (Int.le_refl _) (by simp) (by simp)]
  simp
/-- Few bits matter, or too many. -/
def lightB (leaves : List Int) (nodes : List Nod) (fr : List Int) : Bool := decide (sumW leaves (lvN leaves.length nodes fr) 0 ≤ 9) || decide (12 < sumW leaves (lvN leaves.length nodes fr) 0)
theorem e_light (leaves : List Int) (nodes : List Nod) (hll : leaves.length ≤ 1000) (hnl : nodes.length ≤ 1000) (hal : ∀ x ∈ nodes, x.args.length ≤ 1000) (hc : (checkE leaves nodes).2 = 0) (fr : List Int) (hfl : fr.length ≤ 1000) (hfin : ∀ n ∈ fr, 0 ≤ n ∧ n < (nodes.length : Int)) :
    EE π n_ratchetlaw02_light [.p (encInts leaves), .p (encNodes nodes), .p (encInts fr)] [] = some (.p (.bool (lightB leaves nodes fr)), []) := by
  have hb := fun π => e_Bits (π := π) leaves nodes hll hnl hal hc fr hfl hfin
  unfold lightB
  generalize sumW leaves (lvN leaves.length nodes fr) 0 = s at *
  by_cases h : s ≤ 9 <;> simp [e_ratchetlaw02_light, run_eq, c_ratchetlaw02_light, hb, h, evRO]

end Go.Proofs.YtglelclmlkeheaaGreatDoor.V

/- Values depend on the leaves below alone: in plain terms. -/
namespace Go.Proofs.YtglelclmlkeheaaGreatDoor.V

/-- What a node that is below reads is below, too. -/
def Cl (nodes : List Nod) (o : List Bool) (i : Nat) : Prop := ∀ x, nodes[i]? = some x → o.getD i false = true → ∀ n ∈ x.args, o.getD n.toNat false = true
theorem belDown_mono (nodes : List Nod) : ∀ (k : Nat) (o : List Bool) (j : Nat), j < o.length → o.getD j false = true → (belDown nodes k o).getD j false = true
  | 0, o, j, _, h => h
  | k + 1, o, j, hj, h => by
    rw [belDown]
    split
    · split
      · refine belDown_mono nodes k _ j (by rw [markAll_len]; exact hj) ?_
        rw [markAll_get _ _ _ hj, h]; rfl
      · exact belDown_mono nodes k _ j hj h
    · exact belDown_mono nodes k _ j hj h
theorem belDown_cl (nodes : List Nod) (hin : ∀ (i : Nat) (x : Nod), nodes[i]? = some x → ∀ n ∈ x.args, 0 ≤ n ∧ n < (i : Int)) : ∀ (k : Nat) (o : List Bool), k ≤ nodes.length → o.length = nodes.length → (∀ i, k ≤ i → Cl nodes o i) → ∀ i, Cl nodes (belDown nodes k o) i
  | 0, o, _, _, h, i => h i (Nat.zero_le _)
  | k + 1, o, hk, ho, h, i => by
    rw [belDown]
    have hkl : k < nodes.length := by omega
    have hx : nodes[k]? = some nodes[k] := List.getElem?_eq_getElem hkl
    rw [hx]
    simp only
    split
    · rename_i hb
      refine belDown_cl nodes hin k _ (by omega) (by rw [markAll_len]; exact ho) (fun i hi x hxi hoi n hn => ?_) i
      have hil := (List.getElem?_eq_some_iff.1 hxi).1
      have hni := hin i x hxi n hn
      rw [markAll_get _ _ _ (by omega)]
      by_cases e : i = k
      · subst e
        rw [hx] at hxi
        cases hxi
        simp only [Bool.or_eq_true, List.any_eq_true, decide_eq_true_eq]
        exact .inr ⟨n, hn, rfl⟩
      · rw [markAll_get _ _ _ (by omega)] at hoi
        simp only [Bool.or_eq_true, List.any_eq_true, decide_eq_true_eq] at hoi ⊢
        rcases hoi with hoi | ⟨m, hm, e2⟩
        · exact .inl (h i (by omega) x hxi hoi n hn)
        · have := hin k _ hx m hm
          omega
    · rename_i hb
      refine belDown_cl nodes hin k _ (by omega) ho (fun i hi => ?_) i
      by_cases e : i = k
      · subst e
        exact fun x _ hoi => absurd hoi hb
      · exact h i (by omega)
theorem belN_cl {nodes : List Nod} (hin : ∀ (i : Nat) (x : Nod), nodes[i]? = some x → ∀ n ∈ x.args, 0 ≤ n ∧ n < (i : Int)) (fr : List Int) (i : Nat) : Cl nodes (belN nodes fr) i := by
  unfold belN
  exact belDown_cl nodes hin _ _ (Nat.le_refl _) (by rw [markAll_len]; simp) (fun i hi x hx => by have := (List.getElem?_eq_some_iff.1 hx).1; omega) i
theorem belN_from {nodes : List Nod} (fr : List Int) (n : Int) (hn : n ∈ fr) (hlt : n.toNat < nodes.length) : (belN nodes fr).getD n.toNat false = true := by
  unfold belN
  refine belDown_mono _ _ _ _ (by rw [markAll_len]; simpa using hlt) ?_
  rw [markAll_get _ _ _ (by simpa using hlt)]
  simp only [Bool.or_eq_true, List.any_eq_true, decide_eq_true_eq]
  exact .inr ⟨n, hn, rfl⟩
theorem lvOf_in' : ∀ (B : List Bool) (l : List Nod) (i : Nat) (x : Nod), l[i]? = some x → B.getD i false = true → x.op = 1 → x.value ∈ lvOf B l
  | [], l, i, x, _, h, _ => by simp [List.getD] at h
  | b :: B, [], i, x, h, _, _ => by simp at h
  | b :: B, y :: l, 0, x, h, hb, ho => by
    simp at h
    subst h
    have hb : b = true := by simpa [List.getD] using hb
    rw [lvOf, if_pos ⟨hb, ho⟩]; simp
  | b :: B, y :: l, i + 1, x, h, hb, ho => by
    have ih := lvOf_in' B l i x (by simpa using h) (by simpa [List.getD] using hb) ho
    rw [lvOf]
    split
    · exact List.mem_cons_of_mem _ ih
    · exact ih
theorem mem_lvN {leaves : List Int} {nodes : List Nod} (hc : (checkE leaves nodes).2 = 0) (fr : List Int) (n : Int) : n ∈ lvN leaves.length nodes fr ↔ n ∈ lvOf (belN nodes fr) nodes := by
  rw [← lvN_eq hc, mem_cmpI, (sortI_perm _).mem_iff]

theorem vals_agree_aux {leaves : List Int} {nodes : List Nod} (hc : (checkE leaves nodes).2 = 0) (fr : List Int) (L1 L2 : List Int) (h : ∀ n ∈ lvN leaves.length nodes fr, L1.getD n.toNat 0 = L2.getD n.toNat 0) :
    ∀ (suf pre : List Nod) (v1 v2 : List Int), nodes = pre ++ suf → v1.length = pre.length → v2.length = pre.length → (∀ j, j < pre.length → (belN nodes fr).getD j false = true → v1.getD j 0 = v2.getD j 0) →
    ∀ j, j < nodes.length → (belN nodes fr).getD j false = true → (valsN nodes L1 suf v1).getD j 0 = (valsN nodes L2 suf v2).getD j 0
  | [], pre, v1, v2, hp, h1, h2, hv, j, hj, hb => by
    have : nodes = pre := by simpa using hp
    exact hv j (by rw [← this]; exact hj) hb
  | x :: suf, pre, v1, v2, hp, h1, h2, hv, j, hj, hb => by
    have hx : nodes[pre.length]? = some x := by rw [hp]; simp
    have hval : (belN nodes fr).getD pre.length false = true → valN nodes L1 v1 x = valN nodes L2 v2 x := fun hbp => by
      unfold valN
      by_cases h1 : x.op = 1
      · rw [if_pos h1, if_pos h1]
        exact h _ ((mem_lvN hc fr _).2 (lvOf_in' _ _ _ _ hx hbp h1))
      · rw [if_neg h1, if_neg h1]
        have : argsOf v1 x.args = argsOf v2 x.args := by
          apply List.map_congr_left
          intro n hn
          have hni := args_in hc hx n hn
          exact hv n.toNat (by omega) (belN_cl (fun i y hy => args_in hc hy) fr pre.length x hx hbp n hn)
        rw [this]
    rw [valsN, valsN]
    refine vals_agree_aux hc fr L1 L2 h suf (pre ++ [x]) _ _ (by simp [hp]) (by simp [h1]) (by simp [h2]) (fun i hi hbi => ?_) j hj hb
    rw [List.length_append] at hi
    by_cases e : i < pre.length
    · have e1 : (v1 ++ [valN nodes L1 v1 x]).getD i 0 = v1.getD i 0 := by simp [List.getD, List.getElem?_append_left (show i < v1.length by omega)]
      have e2 : (v2 ++ [valN nodes L2 v2 x]).getD i 0 = v2.getD i 0 := by simp [List.getD, List.getElem?_append_left (show i < v2.length by omega)]
      rw [e1, e2]
      exact hv i e hbi
    · have : i = pre.length := by simp at hi; omega
      subst this
      have e1 : (v1 ++ [valN nodes L1 v1 x]).getD pre.length 0 = valN nodes L1 v1 x := by simp [List.getD, ← h1]
      have e2 : (v2 ++ [valN nodes L2 v2 x]).getD pre.length 0 = valN nodes L2 v2 x := by simp [List.getD, ← h2]
      rw [e1, e2]
      exact hval hbi
/-- The value of a node does not change with leaves that are not below it. -/
theorem vals_agree {leaves : List Int} {nodes : List Nod} (hc : (checkE leaves nodes).2 = 0) (fr : List Int) (hfin : ∀ n ∈ fr, 0 ≤ n ∧ n < (nodes.length : Int)) (L1 L2 : List Int) (h : ∀ n ∈ lvN leaves.length nodes fr, L1.getD n.toNat 0 = L2.getD n.toNat 0) (n : Int) (hn : n ∈ fr) :
    (valsN nodes L1 nodes []).getD n.toNat 0 = (valsN nodes L2 nodes []).getD n.toNat 0 := by
  have := hfin n hn
  exact vals_agree_aux hc fr L1 L2 h nodes [] [] [] rfl rfl rfl (fun j hj => absurd hj (by simp)) n.toNat (by omega) (belN_from fr n hn (by omega))

theorem eachE_zero {α : Type} (f : Nat → α → Int) : ∀ (l : List α) (k : Nat), (∀ i x, l[i]? = some x → f (k + i) x = 0) → (eachE f k l).2 = 0
  | [], _, _ => rfl
  | x :: r, k, h => by
    rw [eachE, if_pos (by simpa using h 0 x rfl)]
    exact eachE_zero f r (k + 1) fun i y hy => by
      have := h (i + 1) y (by simpa using hy)
      rwa [show k + (i + 1) = k + 1 + i by omega] at this
theorem valuesE_z {leaves values : List Int} (hlw : ∀ n ∈ leaves, 1 ≤ n ∧ n ≤ 16) (h : LeafOk leaves values) : valuesE leaves values = 0 := by
  have hl := h.len
  unfold valuesE
  rw [if_neg (by simp [hl])]
  refine eachE_zero _ _ _ fun i x hx => ?_
  have hi := (List.getElem?_eq_some_iff.1 hx).1
  have hil : i < leaves.length := by omega
  have hok := h.ok i hil
  have e1 : values.getD i 0 = x := by simp [List.getD, hx]
  have e2 : leaves.getD i 0 = leaves[i] := by simp [List.getD, hil]
  have hw := hlw _ (List.getElem_mem hil)
  rw [e1, e2] at hok
  rw [Nat.zero_add]
  unfold fitE fitsB
  rw [e2]
  refine (unlE_z (by decide)).2 ?_
  simp only [Bool.and_eq_true, decide_eq_true_eq, within_iff]
  exact ⟨by omega, hok.1, by have := hok.2; omega⟩

/-- If there is no difference the values are the same, whatever the leaves. -/
theorem same_of_none {leaves : List Int} {nodes : List Nod} (hc : (checkE leaves nodes).2 = 0) {a b : Int} (hfin : ∀ n ∈ [a, b], 0 ≤ n ∧ n < (nodes.length : Int)) (hd : difN leaves nodes a b = none) {L : List Int} (hL : LeafOk leaves L) :
    (valsN nodes L nodes []).getD a.toNat 0 = (valsN nodes L nodes []).getD b.toNat 0 := by
  let y : List Int := (List.range leaves.length).map fun (j : Nat) => if (j : Int) ∈ lvN leaves.length nodes [a, b] then L.getD j 0 else 0
  have hyl : y.length = leaves.length := by simp [y]
  have hyg : ∀ j : Nat, j < leaves.length → y.getD j 0 = if (j : Int) ∈ lvN leaves.length nodes [a, b] then L.getD j 0 else 0 := fun j hj => by simp [y, List.getD, hj]
  have hin : ∀ n ∈ lvN leaves.length nodes [a, b], 0 ≤ n ∧ n < (leaves.length : Int) := lvN_in
  have hag : ∀ n ∈ lvN leaves.length nodes [a, b], L.getD n.toNat 0 = y.getD n.toNat 0 := fun n hn => by
    have := hin n hn
    rw [hyg n.toNat (by omega), if_pos (by rw [show ((n.toNat : Nat) : Int) = n by omega]; exact hn)]
  have hmem : y ∈ enumV leaves (lvN leaves.length nodes [a, b]) (List.replicate leaves.length 0) := by
    refine enumV_mem _ _ _ (by simpa using hyl) (fun n hn => by have := hin n hn; simp; omega) (fun n hn => ?_) fun j hj hne => ?_
    · have := hin n hn
      rw [← hag n hn]
      exact hL.ok n.toNat (by omega)
    · have hj : j < leaves.length := by simpa using hj
      rw [hyg j hj, if_neg (fun hm => hne _ hm (by omega))]
      simp [List.getD, hj]
  unfold difN at hd
  have hno := (List.find?_eq_none.1 hd) y hmem
  unfold difB at hno
  simp only [ne_eq, decide_not, Bool.not_eq_true', decide_eq_true_eq, Bool.not_eq_true, Bool.not_eq_false', decide_eq_false_iff_not] at hno
  rw [vals_agree hc [a, b] hfin L y hag a (by simp), vals_agree hc [a, b] hfin L y hag b (by simp)]
  exact Decidable.not_not.1 hno
theorem dif_some {leaves : List Int} {nodes : List Nod} {a b : Int} {d : List Int} (hd : difN leaves nodes a b = some d) : LeafOk leaves d ∧ (valsN nodes d nodes []).getD a.toNat 0 ≠ (valsN nodes d nodes []).getD b.toNat 0 := by
  unfold difN at hd
  refine ⟨enumV_ok _ _ (LeafOk.zero leaves) (fun n hn => by have := lvN_in n hn; omega) d (List.mem_of_find?_eq_some hd), ?_⟩
  have := List.find?_some hd
  unfold difB at this
  simpa using this

end Go.Proofs.YtglelclmlkeheaaGreatDoor.V

/- All values of some leaves, in the program, for the only value of a node. Printed by a program of this work. -/
namespace Go.Proofs.YtglelclmlkeheaaGreatDoor.V
open Go (IntKind BinOp UnOp)
variable {π κ : Id}

abbrev frC (π : Id) (st : FSt) : Id × Blk := (2000000 :: π, .frm π 53 [(5, .ref (5 :: π) 0), (6, .ref (6 :: π) 0), (7, .ref (7 :: π) 0), (11, .ref (11 :: π) 0)] [36, 37] c_graph_ConstantAt_R0A c_graph_ConstantAt_R0B st)
abbrev bxC (π : Id) (c o e : Int) : Sto := [(11 :: π, .box false [.p (I o)]), (7 :: π, .box false [.p (I e)]), (6 :: π, .box false [.p (I 0)]), (5 :: π, .box false [.p (I c)])]
abbrev bxN2 (π : Id) (leaves : List Int) (nodes : List Nod) (l : List Int) : Sto := [(5 :: 35 :: π, .box false [.p (encInts l)]), (4 :: 35 :: π, .box false [.p (encNodes nodes)]), (3 :: 35 :: π, .box false [.p (encInts leaves)])]
abbrev k0C (π : Id) : List Id := [2000000 :: π, 5 :: 35 :: π, 4 :: 35 :: π, 3 :: 35 :: π, 11 :: π, 7 :: π, 6 :: π, 5 :: π]
abbrev stC2 (π : Id) (leaves : List Int) (nodes : List Nod) (l : List Int) (c o : Int) : Sto := frC π .ready :: (bxN2 π leaves nodes l ++ bxC π c o 0)
abbrev enC (π : Id) : Env := [(0, .yld (2000000 :: π)), (1, .ref (3 :: 35 :: π) 0), (2, .ref (4 :: 35 :: π) 0), (3, .ref (5 :: 35 :: π) 0), (5, .ap (9 :: 3000000 :: π))]

theorem carry_loopC (leaves : List Int) (hlw : ∀ n ∈ leaves, 1 ≤ n ∧ n ≤ 16) (nodes : List Nod) (l : List Int) (c o : Int) (hll : l.length ≤ 1000) (hin : ∀ n ∈ l, 0 ≤ n ∧ n < (leaves.length : Int)) :
    ∀ (rev done s : List Int) (y : Env × Sto), l = rev.reverse ++ done → LeafOk leaves s →
    mask [0, 1, 2, 3, 5, 6] (k0C π) y = some (enC π ++ [(6, .p (I ((rev.length : Int) - 1)))], rowI (9 :: 3000000 :: π) (some false) s :: stC2 π leaves nodes l c o) →
    kpO [0, 1, 2, 3, 5, 6] [] (k0C π) (bkO 2 (iter (round EE iter (3000000 :: π) (k0C π) [0, 1, 2, 3, 5, 6] c_graph_runs_1_L1) y)) = some (.nm, enC π ++ [(6, .p (I (((carry leaves rev s).1.length : Int) - 1)))], rowI (9 :: 3000000 :: π) (some false) (carry leaves rev s).2 :: stC2 π leaves nodes l c o)
  | [], done, s, y, h, hs, hm => by
    rw [loop_eq hm]
    simp [u_graph_runs_1_L1, b_graph_runs_1_L1, carry, evRO]
  | n :: r, done, s, y, h, hs, hm => by
    rw [loop_eq hm]
    have hl' : l = r.reverse ++ n :: done := by rw [h]; simp
    obtain ⟨hn0, hn1⟩ := hin n (by rw [hl']; simp)
    have hsl := hs.len
    have hlt : n.toNat < s.length := by omega
    have hltl : n.toNat < leaves.length := by omega
    have hg : (ints l)[r.length]? = some (I n) := by rw [show r.length = r.reverse.length by simp]; exact get_mid _ hl'
    have hgs : s.getD n.toNat 0 = s[n.toNat] := by simp [List.getD, hlt]
    have hgl : leaves.getD n.toNat 0 = leaves[n.toNat] := by simp [List.getD, hltl]
    have hok := hs.ok n.toNat hltl
    rw [hgs, hgl] at hok
    have hlwn := hlw _ (List.getElem_mem hltl)
    have hpw := pw_le hlwn.2
    have hw1 : IntKind.i64.wrap (s[n.toNat] + 1) = s[n.toNat] + 1 := w64 ⟨by have := hok.1; omega, by have := hok.2; omega⟩
    have hfi := fun π => e_fitsG (π := π) (s[n.toNat] + 1) leaves[n.toNat] hlwn.2
    have e1 : (((n :: r).length : Nat) : Int) - 1 = r.length := by simp
    have hrl : r.length < l.length := by rw [hl']; simp
    rw [e1]
    by_cases hf : fitsB (s[n.toNat] + 1) leaves[n.toNat] = true
    · have hc : carry leaves (n :: r) s = (n :: r, s) := by rw [carry, hgs, hgl, if_pos hf]
      rw [hc]
      simp [u_graph_runs_1_L1, b_graph_runs_1_L1, hg, hn0, hlt, hltl, hw1, hfi, hf, evRO]
    · have hc : carry leaves (n :: r) s = carry leaves r (s.set n.toNat 0) := by rw [carry, hgs, hgl, if_neg hf]
      rw [hc]
      have hnext := carry_loopC leaves hlw nodes l c o hll hin r (n :: done) (s.set n.toNat 0)
      have hwk : IntKind.i64.wrap ((r.length : Int) - 1) = (r.length : Int) - 1 := w64 ⟨by omega, by omega⟩
      generalize carry leaves r (s.set n.toNat 0) = C at *
      simp [u_graph_runs_1_L1, b_graph_runs_1_L1, hg, hn0, hlt, hltl, hw1, hfi, hf, evRO]
      refine hnext _ hl' (hs.set hltl ⟨Int.le_refl _, pw_pos _⟩) ?_
      simp [hwk]
      rfl

theorem e_roundC_go (c o : Int) (s : PV) (vs : List Int) (fl : Option Bool) (hc : 0 ≤ c) (hcl : c.toNat < vs.length) (h : ¬ (0 ≤ o ∧ vs[c.toNat] ≠ o)) :
    EE κ yieldF [.p s, .p (.sl 1 fl (ints vs)), .yld (2000000 :: π)] (frC π .ready :: bxC π c o 0) = some (.p (.bool true), frC π .ready :: bxC π c vs[c.toNat] 0) := by
  rw [e_yldB]
  by_cases ho : 0 ≤ o
  · have hv : vs[c.toNat] = o := Decidable.not_not.1 fun e => h ⟨ho, e⟩
    simp [runY, u_graph_ConstantAt_R0A, b_graph_ConstantAt_R0A, u_graph_ConstantAt_R0B, b_graph_ConstantAt_R0B, hc, hcl, ho, hv, evRO]
  · simp [runY, u_graph_ConstantAt_R0A, b_graph_ConstantAt_R0A, u_graph_ConstantAt_R0B, b_graph_ConstantAt_R0B, hc, hcl, ho, evRO]
theorem e_roundC_stop (c o : Int) (s : PV) (vs : List Int) (fl : Option Bool) (hc : 0 ≤ c) (hcl : c.toNat < vs.length) (ho : 0 ≤ o) (hv : ¬ vs[c.toNat] = o) :
    EE κ yieldF [.p s, .p (.sl 1 fl (ints vs)), .yld (2000000 :: π)] (frC π .ready :: bxC π c o 0) = some (.p (.bool false), frC π (.done .rt) :: bxC π c o 12) := by
  rw [e_yldB]
  simp [runY, u_graph_ConstantAt_R0A, b_graph_ConstantAt_R0A, u_graph_ConstantAt_R0B, b_graph_ConstantAt_R0B, hc, hcl, ho, hv, evRO]

/-- The only value of a node; none: it has several. -/
def onlyV (nodes : List Nod) (c : Int) : List (List Int) → Int → Option Int
  | [], o => some o
  | s :: S, o => if 0 ≤ o ∧ (valsN nodes s nodes []).getD c.toNat 0 ≠ o then none else onlyV nodes c S ((valsN nodes s nodes []).getD c.toNat 0)
/-- What is left: the value, or what it was when another one came. -/
def lastV (nodes : List Nod) (c : Int) : List (List Int) → Int → Int
  | [], o => o
  | s :: S, o => if 0 ≤ o ∧ (valsN nodes s nodes []).getD c.toNat 0 ≠ o then o else lastV nodes c S ((valsN nodes s nodes []).getD c.toNat 0)
def outC (π : Id) (leaves : List Int) (nodes : List Nod) (l : List Int) (c x : Int) : Option Int → Sto
  | some o => stC2 π leaves nodes l c o
  | none => frC π (.done .rt) :: (bxN2 π leaves nodes l ++ bxC π c x 12)

theorem runs_loopC {leaves : List Int} {nodes : List Nod} {l : List Int} (R : RunsOk leaves nodes l) (c : Int) (ha : 0 ≤ c ∧ c < (nodes.length : Int)) (z : List Int) :
    ∀ (S : List (List Int)) (s : List Int) (o : Int) (y : Env × Sto), Lnk leaves l.reverse (s :: S) (false, z) → (∀ t ∈ s :: S, LeafOk leaves t) →
    mask [0, 1, 2, 3, 5] (k0C π) y = some (enC π, rowI (9 :: 3000000 :: π) (some false) s :: stC2 π leaves nodes l c o) →
    kpO [] [] (k0C π) (bkO 0 (iter (round EE iter (3000000 :: π) (k0C π) [0, 1, 2, 3, 5] c_graph_runs_1_L0) y)) = some (.rt, [], outC π leaves nodes l c (lastV nodes c (s :: S) o) (onlyV nodes c (s :: S) o))
  | S, s, o, y, hL, hS, hm => by
    rw [loop_eq hm]
    have hs := hS s (by simp)
    have hsl := hs.len
    have hva := fun π => e_valued (π := π) (fl := some false) R.nl R.al R.ll R.ok hs
    have hvl := vals_len nodes s nodes []
    simp only [List.length_nil, Nat.zero_add] at hvl
    have hov : onlyV nodes c (s :: S) o = if 0 ≤ o ∧ (valsN nodes s nodes []).getD c.toNat 0 ≠ o then none else onlyV nodes c S ((valsN nodes s nodes []).getD c.toNat 0) := rfl
    have hlv : lastV nodes c (s :: S) o = if 0 ≤ o ∧ (valsN nodes s nodes []).getD c.toNat 0 ≠ o then o else lastV nodes c S ((valsN nodes s nodes []).getD c.toNat 0) := rfl
    generalize valsN nodes s nodes [] = V at *
    have hal : c.toNat < V.length := by omega
    have ga : V.getD c.toNat 0 = V[c.toNat] := by simp [List.getD, hal]
    rw [ga] at hov hlv
    rw [hov, hlv]
    by_cases he : ¬ (0 ≤ o ∧ V[c.toNat] ≠ o)
    · have hrd := fun κ => e_roundC_go (κ := κ) (π := π) c o (.sl 1 (some false) (ints s)) V (flagE nodes) ha.1 hal he
      rw [if_neg he, if_neg he]
      have hca := carry_loopC (π := π) leaves R.lw nodes l c V[c.toNat] R.len R.inL l.reverse [] s
      have hnp := nextP_carry leaves l.reverse s
      obtain ⟨hco, d, hd⟩ := carry_ok l.reverse s hs (fun n hn => by have := R.inL n (by simpa using hn); omega)
      rw [List.length_reverse] at hca
      have hwl : IntKind.i64.wrap ((l.length : Int) - 1) = (l.length : Int) - 1 := w64 ⟨by omega, by have := R.len; omega⟩
      rcases lnk_next hL with ⟨rfl, hn⟩ | ⟨t, S', rfl, hn, hL'⟩
      · rw [hn] at hnp
        generalize carry leaves l.reverse s = C at *
        obtain ⟨rem, s'⟩ := C
        cases rem with
        | cons n r => simp at hnp
        | nil =>
          simp only [onlyV, lastV, outC]
          simp [u_graph_runs_1_L0, b_graph_runs_1_L0, evB, calleeOf, hva, hrd, hwl]
          rw [hca _ (by simp) hs (by simp)]
          simp
      · rw [hn] at hnp
        have hnext := runs_loopC R c ha z S' t V[c.toNat]
        generalize carry leaves l.reverse s = C at *
        obtain ⟨rem, s'⟩ := C
        cases rem with
        | nil => simp at hnp
        | cons n r =>
          simp only [Prod.mk.injEq, true_and] at hnp
          have hd : l.reverse = d ++ n :: r := hd
          have hl' : l = r.reverse ++ n :: d.reverse := by
            have := congrArg List.reverse hd
            simpa using this
          obtain ⟨hn0, hn1⟩ := R.inL n (by rw [hl']; simp)
          have hs'l := hco.len
          have hs'l : s'.length = leaves.length := hs'l
          have hlt : n.toNat < s'.length := by omega
          have hltl : n.toNat < leaves.length := by omega
          have hg : (ints l)[r.length]? = some (I n) := by rw [show r.length = r.reverse.length by simp]; exact get_mid _ hl'
          have hgs : s'.getD n.toNat 0 = s'[n.toNat] := by simp [List.getD, hlt]
          have hgl : leaves.getD n.toNat 0 = leaves[n.toNat] := by simp [List.getD, hltl]
          have hok := hco.ok n.toNat hltl
          have hok : Okv (s'.getD n.toNat 0) (leaves.getD n.toNat 0) := hok
          rw [hgs, hgl] at hok
          have hlwn := R.lw _ (List.getElem_mem hltl)
          have hpw := pw_le hlwn.2
          have hw1 : IntKind.i64.wrap (s'[n.toNat] + 1) = s'[n.toNat] + 1 := w64 ⟨by have := hok.1; omega, by have := hok.2; omega⟩
          rw [hgs] at hnp
          generalize onlyV nodes c (t :: S') V[c.toNat] = F at *
          generalize lastV nodes c (t :: S') V[c.toNat] = G at *
          simp [u_graph_runs_1_L0, b_graph_runs_1_L0, evB, calleeOf, hva, hrd, hwl]
          rw [hca _ (by simp) hs (by simp)]
          have hrz : ¬ ((r.length : Nat) : Int) < 0 := by omega
          simp [hg, hn0, hlt, hw1, hrz]
          refine hnext _ hL' (fun u hu => hS u (by simp at hu ⊢; exact .inr hu)) ?_
          simp [hnp]
          rfl
    · have he := Decidable.not_not.1 he
      have hrd := fun κ => e_roundC_stop (κ := κ) (π := π) c o (.sl 1 (some false) (ints s)) V (flagE nodes) ha.1 hal he.1 he.2
      rw [if_pos he, if_pos he]
      simp only [outC]
      simp [u_graph_runs_1_L0, b_graph_runs_1_L0, evB, calleeOf, hva, hrd]

theorem e_runsC {leaves : List Int} {nodes : List Nod} {l : List Int} (R : RunsOk leaves nodes l) (hnd : l.Nodup) (c : Int) (ha : 0 ≤ c ∧ c < (nodes.length : Int)) :
    EE (3000000 :: π) n_graph_runs_1 [.yld (2000000 :: π), .ref (3 :: 35 :: π) 0, .ref (4 :: 35 :: π) 0, .ref (5 :: 35 :: π) 0] (stC2 π leaves nodes l c (-1)) = some (.p (.tup []), outC π leaves nodes l c (lastV nodes c (enumV leaves l (List.replicate leaves.length 0)) (-1)) (onlyV nodes c (enumV leaves l (List.replicate leaves.length 0)) (-1))) := by
  have hz : ∀ n ∈ l, (List.replicate leaves.length (0 : Int)).getD n.toNat 0 = 0 ∧ 0 ≤ n ∧ n.toNat < (List.replicate leaves.length (0 : Int)).length := fun n hn => by
    have := R.inL n hn
    have hlt : n.toNat < leaves.length := by omega
    exact ⟨by simp [List.getD, hlt], this.1, by simpa using hlt⟩
  obtain ⟨S, hS⟩ := enumV_head leaves l (List.replicate leaves.length 0) fun n hn => ⟨(hz n hn).1, (hz n hn).2.2⟩
  have hlk := enumV_lnk leaves R.lw l (List.replicate leaves.length 0) hnd hz (by simp)
  have hoks := enumV_ok l (List.replicate leaves.length 0) (LeafOk.zero leaves) fun n hn => by have := R.inL n hn; omega
  rw [hS] at hlk hoks ⊢
  have hlp := runs_loopC (π := π) R c ha (List.replicate leaves.length 0) S (List.replicate leaves.length 0) (-1)
  have hro : leaves.length ≤ room := by have := R.ll; simp only [room]; omega
  have hrep : List.replicate leaves.length (PV.int .i64 0) = ints (List.replicate leaves.length 0) := by simp
  generalize List.replicate leaves.length (0 : Int) = x at *
  generalize onlyV nodes c (x :: S) (-1) = F at *
  generalize lastV nodes c (x :: S) (-1) = G at *
  simp [e_graph_runs_1, run_eq, c_graph_runs_1, hro, hrep]
  rw [hlp _ hlk hoks (by simp)]
  cases F with
  | none => simp [outC]
  | some t => simp [outC]

end Go.Proofs.YtglelclmlkeheaaGreatDoor.V

/- The only value of a node, in the program. -/
namespace Go.Proofs.YtglelclmlkeheaaGreatDoor.V
open Go (IntKind BinOp UnOp)
variable {π κ : Id}

def conE (leaves : List Int) (nodes : List Nod) (c : Int) : Int := if namedE leaves nodes [c] ≠ 0 then namedE leaves nodes [c] else unlE (decide (sumW leaves (lvN leaves.length nodes [c]) 0 ≤ 12)) 8
def conN (leaves : List Int) (nodes : List Nod) (c : Int) : Option Int := onlyV nodes c (enumV leaves (lvN leaves.length nodes [c]) (List.replicate leaves.length 0)) (-1)

set_option maxHeartbeats 1000000 in
theorem e_ConstantAt (leaves : List Int) (nodes : List Nod) (c : Int) (hll : leaves.length ≤ 1000) (hnl : nodes.length ≤ 1000) (hal : ∀ x ∈ nodes, x.args.length ≤ 1000) :
    EE π n_graph_ConstantAt [.p (encInts leaves), .p (encNodes nodes), .p (I c)] [] = some (.p (.tup (if conE leaves nodes c ≠ 0 then [I 0, I (conE leaves nodes c)] else match conN leaves nodes c with
      | some o => [I o, I 0]
      | none => [I 0, I 12])), []) := by
  have hne := fun π => e_namedErr (π := π) leaves nodes [c] (by omega) (by simp) hal
  unfold conE
  by_cases hc : namedE leaves nodes [c] = 0
  · obtain ⟨hc1, hc2⟩ := namedE_z hc
    have hfin := fromE_z hc2
    obtain ⟨ha0, ha1⟩ := hfin c (by simp)
    have hle := fun π => e_leavesBelow (π := π) nodes hnl hal (fun i x hx => args_in hc1 hx) [c] (by simp) hfin
    rw [lvN_eq hc1] at hle
    have hbe := fun π => e_bitsErr (π := π) leaves (lvN leaves.length nodes [c]) (checkE_leaves hc1).2.2 (by have := lvN_len (leaves := leaves.length) (nodes := nodes) (fr := [c]); omega) lvN_in
    have hru := e_runsC (π := π) (runsOk hll hnl hal hc1 [c]) lvN_nodup c ⟨ha0, ha1⟩
    rw [hc] at hne
    rw [show encInts [c] = .sl 1 none [I c] from rfl] at hne hle
    unfold conN
    simp only [hc, ne_eq, not_true_eq_false, if_false]
    generalize lvN leaves.length nodes [c] = l at *
    generalize flagE (lvOf (belN nodes [c]) nodes) = fl at *
    generalize decide (sumW leaves l 0 ≤ 12) = v at *
    generalize lastV nodes c (enumV leaves l (List.replicate leaves.length 0)) (-1) = G at *
    generalize onlyV nodes c (enumV leaves l (List.replicate leaves.length 0)) (-1) = F at *
    cases v with
    | false => simp [e_graph_ConstantAt, run_eq, c_graph_ConstantAt, hne, hle, hbe, unlE, freeze, evRO]
    | true =>
      cases F with
      | none =>
        simp only [outC, stC2, bxN2, bxC, List.cons_append, List.nil_append] at hru
        simp [e_graph_ConstantAt, run_eq, c_graph_ConstantAt, hne, hle, hbe, unlE, freeze, evRO, e_graph_runs, c_graph_runs, evC_rf, fnOf, y_graph_runs_1]
        rw [hru]
        simp
      | some o =>
        simp only [outC, stC2, bxN2, bxC, List.cons_append, List.nil_append] at hru
        simp [e_graph_ConstantAt, run_eq, c_graph_ConstantAt, hne, hle, hbe, unlE, freeze, evRO, e_graph_runs, c_graph_runs, evC_rf, fnOf, y_graph_runs_1]
        rw [hru]
        simp
  · simp only [ne_eq, hc, not_false_eq_true, if_true]
    rw [show encInts [c] = .sl 1 none [I c] from rfl] at hne
    generalize namedE leaves nodes [c] = e at *
    simp [e_graph_ConstantAt, run_eq, c_graph_ConstantAt, hne, hc, freeze, evRO]

end Go.Proofs.YtglelclmlkeheaaGreatDoor.V

/- All values of the leaves below some nodes, by the reference. -/
namespace Go.Proofs.YtglelclmlkeheaaGreatDoor.V
open Go (IntKind BinOp UnOp)
variable {π κ : Id}

abbrev encR (x : List Int) : PV := .sl 1 (some false) (ints x)
abbrev rowL (i : Id) (nl : Option Bool) (M : List (List Int)) : Id × Blk := (i, .row false t_L_int 1 nl (M.map encR))
def stepT (leaves : List Int) (n : Int) (x : List Int) : List (List Int) := (List.range' 0 (2 ^ (leaves.getD n.toNat 0).toNat)).map fun (v : Nat) => x.set n.toNat (v : Int)
def triesN (leaves : List Int) : List Int → List (List Int) → List (List Int)
  | [], out => out
  | n :: r, out => triesN leaves r (out.flatMap (stepT leaves n))
theorem triesN_eq (leaves : List Int) : ∀ (l : List Int) (out : List (List Int)), triesN leaves l out = out.flatMap (enumV leaves l)
  | [], out => by
    rw [triesN]
    have : enumV leaves [] = fun x => [x] := rfl
    rw [this]
    induction out with
    | nil => rfl
    | cons x r ih => rw [List.flatMap_cons, ← ih]; rfl
  | n :: r, out => by
    rw [triesN, triesN_eq leaves r, List.flatMap_assoc]
    congr 1
    funext x
    unfold stepT
    rw [List.flatMap_map, ← List.range_eq_range']
    rfl
/-- The bits of some leaves. -/
def bitN (leaves : List Int) : List Int → Nat
  | [] => 0
  | n :: r => (leaves.getD n.toNat 0).toNat + bitN leaves r
theorem sumW_bit (leaves : List Int) (hlw : ∀ n ∈ leaves, 1 ≤ n ∧ n ≤ 16) : ∀ (l : List Int) (s : Int), sumW leaves l s = s + (bitN leaves l : Int)
  | [], s => by simp [sumW, bitN]
  | n :: r, s => by
    rw [sumW, sumW_bit leaves hlw r, bitN]
    have : 0 ≤ leaves.getD n.toNat 0 := by
      by_cases h : n.toNat < leaves.length
      · have e : leaves.getD n.toNat 0 = leaves[n.toNat] := by simp [List.getD, h]
        rw [e]; have := hlw _ (List.getElem_mem h); omega
      · simp [List.getD, Nat.not_lt.1 h]
    omega
theorem stepT_len (leaves : List Int) (n : Int) (x : List Int) : (stepT leaves n x).length = 2 ^ (leaves.getD n.toNat 0).toNat := by simp [stepT]
theorem flat_len (leaves : List Int) (n : Int) : ∀ out : List (List Int), (out.flatMap (stepT leaves n)).length = out.length * 2 ^ (leaves.getD n.toNat 0).toNat
  | [] => by simp
  | x :: r => by rw [List.flatMap_cons, List.length_append, stepT_len, flat_len leaves n r, List.length_cons, Nat.succ_mul]; omega

theorem tries_loop2 (leaves l : List Int) (out : List (List Int)) (fo fl : Option Bool) (i k : Nat) (n : Int) (x : List Int) (hlw : ∀ n ∈ leaves, 1 ≤ n ∧ n ≤ 16) (hi : i < l.length) (hn : l[i] = n) (hk : k < out.length) (hx : out[k] = x) (hn0 : 0 ≤ n) (hnl : n.toNat < leaves.length) (hxl : x.length = leaves.length) (hll : leaves.length ≤ 1000) (hol : out.length ≤ 100000) :
    ∀ (m v : Nat) (M : List (List Int)) (y : Env × Sto), v + m = 2 ^ (leaves.getD n.toNat 0).toNat → M.length + m ≤ 100000 →
    mask [0, 7, 8, 9, 10, 11, 12] [] y = some ([(0, .p (encInts leaves)), (7, .ap (1010 :: 18 :: π)), (8, .p (.sl 1 fo (out.map encR))), (9, .p (I i)), (10, .ap (1010 :: π)), (11, .p (I k)), (12, .p (I v))], [rowL (1010 :: π) (flagE M) M, rowI (1010 :: 18 :: π) fl l]) →
    kpO [0, 7, 8, 9, 10, 11] [6] [] (bkO 4 (iter (round EE iter π [] [0, 7, 8, 9, 10, 11, 12] c_ratchetref02_Tries_L2) y)) = some (.nm, [(0, .p (encInts leaves)), (7, .ap (1010 :: 18 :: π)), (8, .p (.sl 1 fo (out.map encR))), (9, .p (I i)), (10, .ap (1010 :: π)), (11, .p (I k))], [rowL (1010 :: π) (flagE (M ++ (List.range' v m).map fun (u : Nat) => x.set n.toNat (u : Int))) (M ++ (List.range' v m).map fun (u : Nat) => x.set n.toNat (u : Int)), rowI (1010 :: 18 :: π) fl l])
  | 0, v, M, y, hv, hM, hm => by
    rw [loop_eq hm]
    have hgl : leaves.getD n.toNat 0 = leaves[n.toNat] := by simp [List.getD, hnl]
    have hw := hlw _ (List.getElem_mem hnl)
    have hpw := fun π => e_PowerW (π := π) leaves[n.toNat] ⟨by omega, by omega⟩
    have hpv : pw leaves[n.toNat] = (v : Int) := by
      rw [Nat.add_zero, hgl] at hv
      unfold pw
      rw [hv]; simp
    rw [hpv] at hpw
    simp [u_ratchetref02_Tries_L2, b_ratchetref02_Tries_L2, hi, hn, hn0, hnl, hpw]
  | m + 1, v, M, y, hv, hM, hm => by
    rw [loop_eq hm]
    have hgl : leaves.getD n.toNat 0 = leaves[n.toNat] := by simp [List.getD, hnl]
    have hw := hlw _ (List.getElem_mem hnl)
    have hpw := fun π => e_PowerW (π := π) leaves[n.toNat] ⟨by omega, by omega⟩
    have hpv : (v : Int) < pw leaves[n.toNat] := by
      rw [hgl] at hv
      unfold pw
      have hc : ((2 ^ leaves[n.toNat].toNat : Nat) : Int) = (2 : Int) ^ leaves[n.toNat].toNat := by simp
      rw [← hc, ← hv]
      omega
    have hple := pw_le hw.2
    have hws : IntKind.i64.wrap ((v : Int) + 1) = (v : Int) + 1 := w64 ⟨by omega, by omega⟩
    have hci := fun π => e_CopyInts (π := π) (ints x) (by simp only [List.length_map, room]; omega)
    have hroom : M.length + 1 ≤ room := by simp only [room]; omega
    have hxn : n.toNat < x.length := by omega
    have hnext := tries_loop2 leaves l out fo fl i k n x hlw hi hn hk hx hn0 hnl hxl hll hol m (v + 1) (M ++ [x.set n.toNat (v : Int)])
    rw [flagE_snoc] at hnext
    rw [show M ++ (List.range' v (m + 1)).map (fun (u : Nat) => x.set n.toNat (u : Int)) = M ++ [x.set n.toNat (v : Int)] ++ (List.range' (v + 1) m).map (fun (u : Nat) => x.set n.toNat (u : Int)) by rw [List.range'_succ]; simp]
    generalize M ++ [x.set n.toNat (v : Int)] ++ (List.range' (v + 1) m).map (fun (u : Nat) => x.set n.toNat (u : Int)) = R at *
    generalize pw leaves[n.toNat] = P at *
    simp [u_ratchetref02_Tries_L2, b_ratchetref02_Tries_L2, hi, hn, hn0, hnl, hpw, hpv, hk, hx, hci, hxn, hroom]
    refine hnext _ (by omega) (by simp; omega) ?_
    simp [hws]
    rfl

theorem tries_loop1 (leaves l : List Int) (out : List (List Int)) (fo fl : Option Bool) (i : Nat) (n : Int) (hlw : ∀ n ∈ leaves, 1 ≤ n ∧ n ≤ 16) (hi : i < l.length) (hn : l[i] = n) (hn0 : 0 ≤ n) (hnl : n.toNat < leaves.length) (hxl : ∀ x ∈ out, x.length = leaves.length) (hll : leaves.length ≤ 1000) (hol : out.length ≤ 100000) :
    ∀ (suf pre M : List (List Int)) (y : Env × Sto), out = pre ++ suf → M.length + suf.length * 2 ^ (leaves.getD n.toNat 0).toNat ≤ 100000 →
    mask [0, 7, 8, 9, 10, 11] [] y = some ([(0, .p (encInts leaves)), (7, .ap (1010 :: 18 :: π)), (8, .p (.sl 1 fo (out.map encR))), (9, .p (I i)), (10, .ap (1010 :: π)), (11, .p (I pre.length))], [rowL (1010 :: π) (flagE M) M, rowI (1010 :: 18 :: π) fl l]) →
    kpO [0, 7, 9, 10] [6] [] (bkO 2 (iter (round EE iter π [] [0, 7, 8, 9, 10, 11] c_ratchetref02_Tries_L1) y)) = some (.nm, [(0, .p (encInts leaves)), (7, .ap (1010 :: 18 :: π)), (9, .p (I i)), (10, .ap (1010 :: π))], [rowL (1010 :: π) (flagE (M ++ suf.flatMap (stepT leaves n))) (M ++ suf.flatMap (stepT leaves n)), rowI (1010 :: 18 :: π) fl l])
  | [], pre, M, y, h, hM, hm => by
    rw [loop_eq hm]
    have : out = pre := by simpa using h
    simp [u_ratchetref02_Tries_L1, b_ratchetref02_Tries_L1, ← this]
  | x :: suf, pre, M, y, h, hM, hm => by
    rw [loop_eq hm]
    have hk : pre.length < out.length := by rw [h]; simp
    have hx : out[pre.length] = x := by simp [h]
    have hxm := hxl x (by rw [h]; simp)
    have hws := w_succ hk (show out.length ≤ top63 by simp only [top63]; omega)
    rw [List.length_cons, Nat.succ_mul] at hM
    have hl2 := tries_loop2 (π := π) leaves l out fo fl i pre.length n x hlw hi hn hk hx hn0 hnl hxm hll hol (2 ^ (leaves.getD n.toNat 0).toNat) 0 M
    have hnext := tries_loop1 leaves l out fo fl i n hlw hi hn hn0 hnl hxl hll hol suf (pre ++ [x]) (M ++ stepT leaves n x)
    rw [show (pre ++ [x]).length = pre.length + 1 by simp] at hnext
    rw [List.flatMap_cons, ← List.append_assoc]
    have hsl := stepT_len leaves n x
    rw [show (List.range' 0 (2 ^ (leaves.getD n.toNat 0).toNat)).map (fun (u : Nat) => x.set n.toNat (u : Int)) = stepT leaves n x from rfl] at hl2
    have hlen2 : (M ++ stepT leaves n x).length + suf.length * 2 ^ (leaves.getD n.toNat 0).toNat ≤ 100000 := by rw [List.length_append, hsl]; omega
    generalize M ++ stepT leaves n x = M2 at *
    generalize M2 ++ suf.flatMap (stepT leaves n) = R at *
    simp [u_ratchetref02_Tries_L1, b_ratchetref02_Tries_L1, lt_mid h, thaw, thaw1]
    rw [hl2 _ (by omega) (by omega) (by simp)]
    simp
    refine hnext _ (by simp [h]) hlen2 ?_
    simp [hws]

theorem flagE_ne {α : Type} {l : List α} (h : l ≠ []) : flagE l = some false := by
  cases l with
  | nil => exact absurd rfl h
  | cons x r => rfl
theorem step_ne (leaves : List Int) (n : Int) {out : List (List Int)} (h : out ≠ []) : out.flatMap (stepT leaves n) ≠ [] := by
  intro e
  have := flat_len leaves n out
  rw [e] at this
  have h1 := Nat.two_pow_pos (leaves.getD n.toNat 0).toNat
  have h2 : 0 < out.length := List.length_pos_iff.2 h
  have := Nat.mul_pos h2 h1
  simp at *
  omega

theorem tries_loop0 (leaves l : List Int) (fl : Option Bool) (hlw : ∀ n ∈ leaves, 1 ≤ n ∧ n ≤ 16) (hin : ∀ n ∈ l, 0 ≤ n ∧ n < (leaves.length : Int)) (hll : leaves.length ≤ 1000) (hl : l.length ≤ 1000) :
    ∀ (suf pre : List Int) (out : List (List Int)) (y : Env × Sto), l = pre ++ suf → out ≠ [] → (∀ x ∈ out, x.length = leaves.length) → out.length * 2 ^ bitN leaves suf ≤ 4096 →
    mask [0, 7, 8, 9] [] y = some ([(0, .p (encInts leaves)), (7, .ap (1010 :: 18 :: π)), (8, .p (.sl 1 (some false) (out.map encR))), (9, .p (I pre.length))], [rowI (1010 :: 18 :: π) fl l]) →
    kpO [8] [6] [] (bkO 0 (iter (round EE iter π [] [0, 7, 8, 9] c_ratchetref02_Tries_L0) y)) = some (.nm, [(8, .p (.sl 1 (some false) ((triesN leaves suf out).map encR)))], [])
  | [], pre, out, y, h, hne, hxl, hb, hm => by
    rw [loop_eq hm]
    have : l = pre := by simpa using h
    simp [u_ratchetref02_Tries_L0, b_ratchetref02_Tries_L0, triesN, ← this]
  | n :: suf, pre, out, y, h, hne, hxl, hb, hm => by
    rw [loop_eq hm]
    have hi : pre.length < l.length := by rw [h]; simp
    have hn : l[pre.length] = n := by simp [h]
    obtain ⟨hn0, hn1⟩ := hin n (by rw [h]; simp)
    have hnl : n.toNat < leaves.length := by omega
    have hws := w_succ hi (show l.length ≤ top63 by simp only [top63]; omega)
    rw [bitN, Nat.pow_add, ← Nat.mul_assoc] at hb
    have hfl := flat_len leaves n out
    have hp1 := Nat.two_pow_pos (bitN leaves suf)
    have hp2 := Nat.two_pow_pos (leaves.getD n.toNat 0).toNat
    have hle : out.length * 2 ^ (leaves.getD n.toNat 0).toNat ≤ 4096 := Nat.le_trans (Nat.le_mul_of_pos_right _ hp1) hb
    have hol : out.length ≤ 4096 := Nat.le_trans (Nat.le_mul_of_pos_right _ hp2) hle
    have hl1 := tries_loop1 (π := π) leaves l out (some false) fl pre.length n hlw hi hn hn0 hnl hxl hll (by omega) out [] []
    have hnext := tries_loop0 leaves l fl hlw hin hll hl suf (pre ++ [n]) (out.flatMap (stepT leaves n))
    rw [show (pre ++ [n]).length = pre.length + 1 by simp] at hnext
    have hne2 := step_ne leaves n hne
    simp only [List.nil_append] at hl1
    rw [flagE_ne hne2] at hl1
    have hxl2 : ∀ x ∈ out.flatMap (stepT leaves n), x.length = leaves.length := fun x hx => by
      obtain ⟨z, hz, hx⟩ := List.mem_flatMap.1 hx
      unfold stepT at hx
      obtain ⟨v, _, rfl⟩ := List.mem_map.1 hx
      simpa using hxl z hz
    rw [← hfl] at hb
    rw [triesN]
    generalize out.flatMap (stepT leaves n) = M at *
    generalize (triesN leaves suf M).map encR = R at *
    simp [u_ratchetref02_Tries_L0, b_ratchetref02_Tries_L0, hi, thaw, thaw1]
    rw [hl1 _ trivial (by rw [List.length_nil, Nat.zero_add]; exact Nat.le_trans hle (by decide)) (by simp [flagE])]
    simp [freeze]
    refine hnext _ (by simp [h]) hne2 hxl2 hb ?_
    simp [hws]

theorem e_Tries (leaves : List Int) (nodes : List Nod) (hll : leaves.length ≤ 1000) (hnl : nodes.length ≤ 1000) (hal : ∀ x ∈ nodes, x.args.length ≤ 1000) (hc : (checkE leaves nodes).2 = 0) (fr : List Int) (hfl : fr.length ≤ 1000) (hfin : ∀ n ∈ fr, 0 ≤ n ∧ n < (nodes.length : Int)) (hs : sumW leaves (lvN leaves.length nodes fr) 0 ≤ 12) :
    EE π n_ratchetref02_Tries [.p (encInts leaves), .p (encNodes nodes), .p (encInts fr)] [] = some (.p (.sl 1 (some false) ((enumV leaves (lvN leaves.length nodes fr) (List.replicate leaves.length 0)).map encR)), []) := by
  have hlb := fun π => e_LeavesBelow (π := π) leaves nodes hll hnl hal hc fr hfl hfin
  have hlen := lvN_len (leaves := leaves.length) (nodes := nodes) (fr := fr)
  have hlw := (checkE_leaves hc).2.2
  have hlp := tries_loop0 (π := π) leaves (lvN leaves.length nodes fr) (flagE (lvN leaves.length nodes fr)) hlw lvN_in hll (by omega) (lvN leaves.length nodes fr) [] [List.replicate leaves.length 0]
  rw [triesN_eq, List.flatMap_cons, List.flatMap_nil, List.append_nil] at hlp
  rw [sumW_bit leaves hlw, Int.zero_add] at hs
  have hb : 2 ^ bitN leaves (lvN leaves.length nodes fr) ≤ 4096 := Nat.le_trans (Nat.pow_le_pow_right (by omega) (show bitN leaves (lvN leaves.length nodes fr) ≤ 12 by omega)) (by decide)
  generalize lvN leaves.length nodes fr = l at *
  have hro : leaves.length ≤ room := by simp only [room]; omega
  have hrep : List.replicate leaves.length (PV.int .i64 0) = ints (List.replicate leaves.length 0) := by simp
  have hzl : (List.replicate leaves.length (0 : Int)).length = leaves.length := by simp
  generalize List.replicate leaves.length (0 : Int) = z at *
  generalize (enumV leaves l z).map encR = R at *
  simp [e_ratchetref02_Tries, run_eq, c_ratchetref02_Tries, hlb, hro, hrep, freeze]
  rw [hlp _ rfl (by simp) (by simpa using hzl) (by simpa using hb) (by simp)]
  simp

end Go.Proofs.YtglelclmlkeheaaGreatDoor.V

/- The first difference and the only value, by the reference. -/
namespace Go.Proofs.YtglelclmlkeheaaGreatDoor.V
open Go (IntKind BinOp UnOp)
variable {π κ : Id}

theorem vals_inv {leaves L : List Int} {nodes : List Nod} (hG : ∀ i x, nodes[i]? = some x → nodeE leaves nodes i x = 0) (hL : LeafOk leaves L) : ∀ (suf pre : List Nod) (vs : List Int), nodes = pre ++ suf → InvV nodes pre.length vs → InvV nodes nodes.length (valsN nodes L suf vs)
  | [], pre, vs, h, hI => by
    have : nodes = pre := by simpa using h
    rw [this] at hI ⊢
    exact hI
  | x :: suf, pre, vs, h, hI => by
    have hx : nodes[pre.length]? = some x := by rw [h]; simp
    have := inv_step hG hL hI hx
    rw [valsN]
    exact vals_inv hG hL suf (pre ++ [x]) _ (by simp [h]) (by simpa using this)
theorem vals_nn {leaves L : List Int} {nodes : List Nod} (hG : ∀ i x, nodes[i]? = some x → nodeE leaves nodes i x = 0) (hL : LeafOk leaves L) (j : Nat) (hj : j < nodes.length) : 0 ≤ (valsN nodes L nodes []).getD j 0 :=
  ((vals_inv hG hL nodes [] [] rfl ⟨rfl, fun j hj => absurd hj (by simp)⟩).ok j hj).1

structure ValsOk (leaves : List Int) (nodes : List Nod) : Prop where
  nl : nodes.length ≤ 1000
  al : ∀ x ∈ nodes, x.args.length ≤ 1000
  ok : ∀ i x, nodes[i]? = some x → nodeE leaves nodes i x = 0

theorem rdif_loop {leaves : List Int} {nodes : List Nod} (R : ValsOk leaves nodes) (a b : Int) (ha : 0 ≤ a ∧ a < (nodes.length : Int)) (hb : 0 ≤ b ∧ b < (nodes.length : Int)) (S : List (List Int)) (hSl : S.length ≤ 1000000) (hS : ∀ s ∈ S, LeafOk leaves s) :
    ∀ (suf pre : List (List Int)) (y : Env × Sto), S = pre ++ suf →
    mask [1, 2, 3, 10, 11] [] y = some ([(1, .p (encNodes nodes)), (2, .p (I a)), (3, .p (I b)), (10, .p (.sl 1 (some false) (S.map encR))), (11, .p (I pre.length))], []) →
    kpO [] [8, 9] [] (bkO 0 (iter (round EE iter π [] [1, 2, 3, 10, 11] c_ratchetref02_Difference_L0) y)) = match suf.find? (difB nodes a b) with
      | none => some (.nm, [], [])
      | some s => some (.rt, [(8, .p (encR s)), (9, .p (.bool true))], [])
  | [], pre, y, h, hm => by
    rw [loop_eq hm]
    have : S = pre := by simpa using h
    simp [u_ratchetref02_Difference_L0, b_ratchetref02_Difference_L0, ← this]
  | s :: suf, pre, y, h, hm => by
    rw [loop_eq hm]
    have hlen : pre.length < S.length := by rw [h]; simp
    have hsk : S[pre.length] = s := by simp [h]
    have hs := hS s (by rw [h]; simp)
    have hws := w_succ hlen (show S.length ≤ top63 by simp only [top63]; omega)
    have hnv := fun π => e_NodeValues (π := π) R.nl R.al R.ok hs
    have hvl := vals_len nodes s nodes []
    simp only [List.length_nil, Nat.zero_add] at hvl
    have hdif : difB nodes a b s = decide ((valsN nodes s nodes []).getD a.toNat 0 ≠ (valsN nodes s nodes []).getD b.toNat 0) := rfl
    generalize valsN nodes s nodes [] = V at *
    have hal : a.toNat < V.length := by omega
    have hbl : b.toNat < V.length := by omega
    have ga : V.getD a.toNat 0 = V[a.toNat] := by simp [List.getD, hal]
    have gb : V.getD b.toNat 0 = V[b.toNat] := by simp [List.getD, hbl]
    rw [ga, gb] at hdif
    have hnext := rdif_loop R a b ha hb S hSl hS suf (pre ++ [s])
    rw [show (pre ++ [s]).length = pre.length + 1 by simp] at hnext
    by_cases he : V[a.toNat] = V[b.toNat]
    · have hf : difB nodes a b s = false := by rw [hdif]; simp [he]
      rw [List.find?_cons_of_neg (by simp [hf])]
      generalize suf.find? (difB nodes a b) = F at *
      simp [u_ratchetref02_Difference_L0, b_ratchetref02_Difference_L0, lt_mid h, hlen, hsk, hnv, ha.1, hb.1, hal, hbl, he, evRO]
      refine hnext _ (by simp [h]) ?_
      simp [hws]
    · have hf : difB nodes a b s = true := by rw [hdif]; simp [he]
      rw [List.find?_cons_of_pos hf]
      simp [u_ratchetref02_Difference_L0, b_ratchetref02_Difference_L0, lt_mid h, hlen, hsk, hnv, ha.1, hb.1, hal, hbl, he, evRO]

theorem enumV_len (leaves : List Int) : ∀ (l x : List Int), (enumV leaves l x).length = 2 ^ bitN leaves l
  | [], x => rfl
  | n :: r, x => by
    rw [enumV, bitN, Nat.pow_add, List.length_flatMap]
    have : ((List.range (2 ^ (leaves.getD n.toNat 0).toNat)).map fun (v : Nat) => (enumV leaves r (x.set n.toNat (v : Int))).length) = List.replicate (2 ^ (leaves.getD n.toNat 0).toNat) (2 ^ bitN leaves r) := by
      apply List.ext_getElem
      · simp
      · intro i h1 h2
        simp [enumV_len leaves r]
    rw [this]
    simp

theorem e_DifferenceR (leaves : List Int) (nodes : List Nod) (hll : leaves.length ≤ 1000) (hnl : nodes.length ≤ 1000) (hal : ∀ x ∈ nodes, x.args.length ≤ 1000) (hc : (checkE leaves nodes).2 = 0) (a b : Int) (hfin : ∀ n ∈ [a, b], 0 ≤ n ∧ n < (nodes.length : Int)) (hs : sumW leaves (lvN leaves.length nodes [a, b]) 0 ≤ 12) :
    EE π n_ratchetref02_Difference [.p (encInts leaves), .p (encNodes nodes), .p (I a), .p (I b)] [] = some (.p (.tup (match difN leaves nodes a b with
      | none => [.sl 1 (some true) [], .bool false]
      | some s => [encR s, .bool true])), []) := by
  have htr := fun π => e_Tries (π := π) leaves nodes hll hnl hal hc [a, b] (by simp) hfin hs
  have hSl := enumV_len leaves (lvN leaves.length nodes [a, b]) (List.replicate leaves.length 0)
  have hlw := (checkE_leaves hc).2.2
  have hs2 := hs
  rw [sumW_bit leaves hlw, Int.zero_add] at hs2
  have hb : 2 ^ bitN leaves (lvN leaves.length nodes [a, b]) ≤ 4096 := Nat.le_trans (Nat.pow_le_pow_right (by omega) (show bitN leaves (lvN leaves.length nodes [a, b]) ≤ 12 by omega)) (by decide)
  have hok := enumV_ok (lvN leaves.length nodes [a, b]) (List.replicate leaves.length 0) (LeafOk.zero leaves) fun n hn => by have := lvN_in n hn; omega
  have hlp := rdif_loop (π := π) (leaves := leaves) ⟨hnl, hal, checkE_nodes hc⟩ a b (hfin a (by simp)) (hfin b (by simp)) (enumV leaves (lvN leaves.length nodes [a, b]) (List.replicate leaves.length 0)) (by omega) hok (enumV leaves (lvN leaves.length nodes [a, b]) (List.replicate leaves.length 0)) []
  rw [show encInts [a, b] = .sl 1 none [I a, I b] from rfl] at htr
  unfold difN
  generalize enumV leaves (lvN leaves.length nodes [a, b]) (List.replicate leaves.length 0) = S at *
  simp [e_ratchetref02_Difference, run_eq, c_ratchetref02_Difference, htr, freeze]
  rw [hlp _ rfl (by simp)]
  cases S.find? (difB nodes a b) with
  | none => simp
  | some s => simp

def allV (nodes : List Nod) (c f : Int) (S : List (List Int)) : Bool := S.all fun s => decide ((valsN nodes s nodes []).getD c.toNat 0 = f)
theorem onlyV_eq (nodes : List Nod) (c : Int) : ∀ (S : List (List Int)) (o : Int), 0 ≤ o → onlyV nodes c S o = if allV nodes c o S = true then some o else none
  | [], o, _ => by simp [onlyV, allV]
  | s :: S, o, ho => by
    have ih := onlyV_eq nodes c S o ho
    have ha : allV nodes c o (s :: S) = (decide ((valsN nodes s nodes []).getD c.toNat 0 = o) && allV nodes c o S) := rfl
    rw [onlyV, ha]
    by_cases h : (valsN nodes s nodes []).getD c.toNat 0 = o
    · rw [if_neg (fun hh => hh.2 h), h, ih, decide_eq_true rfl, Bool.true_and]
    · rw [if_pos ⟨ho, h⟩, decide_eq_false h, Bool.false_and]; rfl

theorem rcon_loop {leaves : List Int} {nodes : List Nod} (R : ValsOk leaves nodes) (c f : Int) (ha : 0 ≤ c ∧ c < (nodes.length : Int)) (S : List (List Int)) (hSl : S.length ≤ 1000000) (hS : ∀ s ∈ S, LeafOk leaves s) :
    ∀ (suf pre : List (List Int)) (y : Env × Sto), S = pre ++ suf →
    mask [1, 2, 8, 9, 10] [] y = some ([(1, .p (encNodes nodes)), (2, .p (I c)), (8, .p (.sl 1 (some false) (S.map encR))), (9, .p (I f)), (10, .p (I pre.length))], []) →
    kpO [9] [6, 7] [] (bkO 0 (iter (round EE iter π [] [1, 2, 8, 9, 10] c_ratchetref02_Constant_L0) y)) = if allV nodes c f suf = true then some (.nm, [(9, .p (I f))], []) else some (.rt, [(6, .p (I 0)), (7, .p (.bool false))], [])
  | [], pre, y, h, hm => by
    rw [loop_eq hm]
    have : S = pre := by simpa using h
    simp [u_ratchetref02_Constant_L0, b_ratchetref02_Constant_L0, allV, ← this]
  | s :: suf, pre, y, h, hm => by
    rw [loop_eq hm]
    have hlen : pre.length < S.length := by rw [h]; simp
    have hsk : S[pre.length] = s := by simp [h]
    have hs := hS s (by rw [h]; simp)
    have hws := w_succ hlen (show S.length ≤ top63 by simp only [top63]; omega)
    have hnv := fun π => e_NodeValues (π := π) R.nl R.al R.ok hs
    have hvl := vals_len nodes s nodes []
    simp only [List.length_nil, Nat.zero_add] at hvl
    have hav : allV nodes c f (s :: suf) = (decide ((valsN nodes s nodes []).getD c.toNat 0 = f) && allV nodes c f suf) := rfl
    generalize valsN nodes s nodes [] = V at *
    have hal : c.toNat < V.length := by omega
    have ga : V.getD c.toNat 0 = V[c.toNat] := by simp [List.getD, hal]
    rw [ga] at hav
    rw [hav]
    have hnext := rcon_loop R c f ha S hSl hS suf (pre ++ [s])
    rw [show (pre ++ [s]).length = pre.length + 1 by simp] at hnext
    generalize allV nodes c f suf = B at *
    by_cases he : V[c.toNat] = f
    · simp [u_ratchetref02_Constant_L0, b_ratchetref02_Constant_L0, lt_mid h, hlen, hsk, hnv, ha.1, hal, he, evRO]
      refine hnext _ (by simp [h]) ?_
      simp [hws]
    · simp [u_ratchetref02_Constant_L0, b_ratchetref02_Constant_L0, lt_mid h, hlen, hsk, hnv, ha.1, hal, he, evRO]

theorem e_ConstantR (leaves : List Int) (nodes : List Nod) (hll : leaves.length ≤ 1000) (hnl : nodes.length ≤ 1000) (hal : ∀ x ∈ nodes, x.args.length ≤ 1000) (hc : (checkE leaves nodes).2 = 0) (c : Int) (hfin : ∀ n ∈ [c], 0 ≤ n ∧ n < (nodes.length : Int)) (hs : sumW leaves (lvN leaves.length nodes [c]) 0 ≤ 12) :
    EE π n_ratchetref02_Constant [.p (encInts leaves), .p (encNodes nodes), .p (I c)] [] = some (.p (.tup (match conN leaves nodes c with
      | none => [I 0, .bool false]
      | some o => [I o, .bool true])), []) := by
  have htr := fun π => e_Tries (π := π) leaves nodes hll hnl hal hc [c] (by simp) hfin hs
  have hSl := enumV_len leaves (lvN leaves.length nodes [c]) (List.replicate leaves.length 0)
  have hlw := (checkE_leaves hc).2.2
  have hs2 := hs
  rw [sumW_bit leaves hlw, Int.zero_add] at hs2
  have hb : 2 ^ bitN leaves (lvN leaves.length nodes [c]) ≤ 4096 := Nat.le_trans (Nat.pow_le_pow_right (by omega) (show bitN leaves (lvN leaves.length nodes [c]) ≤ 12 by omega)) (by decide)
  have hok := enumV_ok (lvN leaves.length nodes [c]) (List.replicate leaves.length 0) (LeafOk.zero leaves) fun n hn => by have := lvN_in n hn; omega
  obtain ⟨r, hr⟩ := enumV_head leaves (lvN leaves.length nodes [c]) (List.replicate leaves.length 0) fun n hn => by
    have := lvN_in n hn
    have hlt : n.toNat < leaves.length := by omega
    exact ⟨by simp [List.getD, hlt], by simpa using hlt⟩
  have hR : ValsOk leaves nodes := ⟨hnl, hal, checkE_nodes hc⟩
  have hf := hfin c (by simp)
  rw [show encInts [c] = .sl 1 none [I c] from rfl] at htr
  unfold conN
  rw [hr] at hSl hok htr ⊢
  generalize List.replicate leaves.length (0 : Int) = z at *
  have hz := hok z (by simp)
  have hnv := fun π => e_NodeValues (π := π) hnl hal (checkE_nodes hc) hz
  have hvl := vals_len nodes z nodes []
  simp only [List.length_nil, Nat.zero_add] at hvl
  have hnn := vals_nn (checkE_nodes hc) hz c.toNat (by omega)
  have ho : onlyV nodes c (z :: r) (-1) = onlyV nodes c r ((valsN nodes z nodes []).getD c.toNat 0) := by rw [onlyV, if_neg (by omega)]
  rw [onlyV_eq nodes c r _ hnn] at ho
  have hav : allV nodes c ((valsN nodes z nodes []).getD c.toNat 0) (z :: r) = allV nodes c ((valsN nodes z nodes []).getD c.toNat 0) r := by
    have : ∀ v, allV nodes c v (z :: r) = (decide ((valsN nodes z nodes []).getD c.toNat 0 = v) && allV nodes c v r) := fun v => rfl
    rw [this, decide_eq_true rfl, Bool.true_and]
  have hlp := rcon_loop (π := π) hR c ((valsN nodes z nodes []).getD c.toNat 0) hf (z :: r) (by omega) hok (z :: r) []
  rw [hav] at hlp
  rw [ho]
  generalize valsN nodes z nodes [] = V at *
  have hal' : c.toNat < V.length := by omega
  have ga : V.getD c.toNat 0 = V[c.toNat] := by simp [List.getD, hal']
  rw [ga] at hlp ⊢
  generalize allV nodes c V[c.toNat] r = B at *
  simp [e_ratchetref02_Constant, run_eq, c_ratchetref02_Constant, htr, hnv, hf.1, hal', freeze]
  rw [hlp _ rfl (by simp)]
  cases B <;> simp

end Go.Proofs.YtglelclmlkeheaaGreatDoor.V

/- The law GraphAlways, in the evaluator. -/
namespace Go.Proofs.YtglelclmlkeheaaGreatDoor.V
open Go (IntKind BinOp UnOp)
variable {π κ : Id}

theorem e_bothA (a b : Int) : EE π n_ratchetlaw02_both [.p (I a), .p (I b)] [] = some (.p (I (if a ≠ 0 then a else b)), []) := by
  by_cases h : a = 0 <;> simp [e_ratchetlaw02_both, run_eq, c_ratchetlaw02_both, h]

theorem always_few (leaves : List Int) (nodes : List Nod) (a b : Int) (haw : AwakeG [18]) (h : ¬ (fewB leaves nodes = true ∧ leaves ≠ [])) :
    EE [] n_ratchetlaw02_GraphAlways [.p (encInts leaves), .p (encNodes nodes), .p (.agg [I a, I b])] [] = some (.p (.bool true), []) := by
  have hfa := fun π => e_few (π := π) leaves nodes
  have haw : EE [18] n_ratchetlaw02_awake [] [] = some (.p (.bool true), []) := haw
  cases h1 : fewB leaves nodes
  · simp [e_ratchetlaw02_GraphAlways, run_eq, c_ratchetlaw02_GraphAlways, haw, hfa, h1, freeze, evRO]
  · have : leaves = [] := Decidable.not_not.1 fun e => h ⟨h1, e⟩
    subst this
    rw [h1] at hfa
    have hfa : ∀ π, EE π n_ratchetlaw02_few [.p (.sl 1 none []), .p (encNodes nodes)] [] = some (.p (.bool true), []) := hfa
    simp [e_ratchetlaw02_GraphAlways, run_eq, c_ratchetlaw02_GraphAlways, haw, hfa, freeze, evRO]

/-- What is known of the arguments. -/
structure AlwOk (leaves : List Int) (nodes : List Nod) : Prop where
  few : fewB leaves nodes = true
  ne : ¬ leaves = []

set_option maxHeartbeats 1000000 in
theorem always_err (leaves : List Int) (nodes : List Nod) (a b : Int) (haw : AwakeG [18]) (h : AlwOk leaves nodes) (hc : (checkE leaves nodes).2 ≠ 0) :
    EE [] n_ratchetlaw02_GraphAlways [.p (encInts leaves), .p (encNodes nodes), .p (.agg [I a, I b])] [] = some (.p (.bool true), []) := by
  obtain ⟨f1, hne⟩ := h
  have hfa := fun π => e_few (π := π) leaves nodes
  rw [f1] at hfa
  have haw : EE [18] n_ratchetlaw02_awake [] [] = some (.p (.bool true), []) := haw
  obtain ⟨hl, hna, hxa'⟩ := few_iff f1
  have hal : ∀ x ∈ nodes, x.args.length ≤ 1000 := fun x hx => by have := hxa' x hx; omega
  have hea := fun π => e_NodesErr (π := π) leaves nodes hal
  have hci := fun π => e_CopyInts (π := π) (ints leaves) (by simp only [List.length_map, room]; omega)
  have hca := fun π => e_CopyNodes (π := π) nodes (by omega) hal
  have hn2 : namedE leaves nodes [a, b] = (checkE leaves nodes).2 := by unfold namedE; rw [if_pos hc]
  have hn1 : namedE leaves nodes [a] = (checkE leaves nodes).2 := by unfold namedE; rw [if_pos hc]
  have hd : difE leaves nodes a b = (checkE leaves nodes).2 := by unfold difE; rw [hn2, if_pos hc]
  have hk : conE leaves nodes a = (checkE leaves nodes).2 := by unfold conE; rw [hn1, if_pos hc]
  have hdo := fun π => e_DifferenceOf_err (π := π) leaves nodes a b (by omega) (by omega) hal (by rw [hd]; exact hc)
  have hco := fun π => e_ConstantAt (π := π) leaves nodes a (by omega) (by omega) hal
  simp only [hd] at hdo
  simp only [hk, if_pos hc] at hco
  generalize (checkE leaves nodes).2 = c at *
  simp [e_ratchetlaw02_GraphAlways, run_eq, c_ratchetlaw02_GraphAlways, haw, hfa, hne, hea, hci, hca, fgL_nodesC, hdo, hco, e_bothA, hc, freeze, evRO]

end Go.Proofs.YtglelclmlkeheaaGreatDoor.V

/- The law GraphAlways, in the evaluator: nodes that are not there. -/
namespace Go.Proofs.YtglelclmlkeheaaGreatDoor.V
open Go (IntKind BinOp UnOp)
variable {π κ : Id}

theorem fromE_six {nodes : List Nod} {fr : List Int} (h : fromE nodes fr ≠ 0) : fromE nodes fr = 6 := by
  unfold fromE unlE at *
  split at h
  · exact absurd rfl h
  · rename_i hb; rw [if_neg hb]

set_option maxHeartbeats 2000000 in
theorem always_named (leaves : List Int) (nodes : List Nod) (a b : Int) (haw : AwakeG [18]) (h : AlwOk leaves nodes) (hc : (checkE leaves nodes).2 = 0) (hf : fromE nodes [a, b] ≠ 0) :
    EE [] n_ratchetlaw02_GraphAlways [.p (encInts leaves), .p (encNodes nodes), .p (.agg [I a, I b])] [] = some (.p (.bool true), []) := by
  obtain ⟨f1, hne⟩ := h
  have hfa := fun π => e_few (π := π) leaves nodes
  rw [f1] at hfa
  have haw : EE [18] n_ratchetlaw02_awake [] [] = some (.p (.bool true), []) := haw
  obtain ⟨hl, hna, hxa'⟩ := few_iff f1
  have hal : ∀ x ∈ nodes, x.args.length ≤ 1000 := fun x hx => by have := hxa' x hx; omega
  have hea := fun π => e_NodesErr (π := π) leaves nodes hal
  rw [hc] at hea
  have hci := fun π => e_CopyInts (π := π) (ints leaves) (by simp only [List.length_map, room]; omega)
  have hca := fun π => e_CopyNodes (π := π) nodes (by omega) hal
  have hf6 := fromE_six hf
  have hn2 : namedE leaves nodes [a, b] = 6 := by unfold namedE; rw [if_neg (by simp [hc]), hf6]
  have hd : difE leaves nodes a b = 6 := by unfold difE; rw [hn2]; rfl
  have hdo := fun π => e_DifferenceOf_err (π := π) leaves nodes a b (by omega) (by omega) hal (by rw [hd]; decide)
  have hco := fun π => e_ConstantAt (π := π) leaves nodes a (by omega) (by omega) hal
  have hr2 := fun π => e_FromErr (π := π) nodes [a, b] (by omega) (by simp)
  have hr1 := fun π => e_FromErr (π := π) nodes [a] (by omega) (by simp)
  simp only [hd] at hdo
  rw [hf6] at hr2
  rw [show encInts [a, b] = .sl 1 none [I a, I b] from rfl] at hr2
  rw [show encInts [a] = .sl 1 none [I a] from rfl] at hr1
  by_cases h1 : fromE nodes [a] = 0
  · have hfin := fromE_z h1
    have hbi := fun π => e_Bits (π := π) leaves nodes (by omega) (by omega) hal hc [a] (by simp) hfin
    rw [show encInts [a] = .sl 1 none [I a] from rfl] at hbi
    have hk : conE leaves nodes a = unlE (decide (sumW leaves (lvN leaves.length nodes [a]) 0 ≤ 12)) 8 := by
      unfold conE namedE
      simp [hc, h1]
    rw [h1] at hr1
    by_cases hs : sumW leaves (lvN leaves.length nodes [a]) 0 ≤ 12
    · have hcr := fun π => e_ConstantR (π := π) leaves nodes (by omega) (by omega) hal hc a hfin hs
      have hs' : ¬ 12 < sumW leaves (lvN leaves.length nodes [a]) 0 := by omega
      have hk : ¬ conE leaves nodes a ≠ 0 := by rw [hk]; simp [hs, unlE]
      simp only [if_neg hk] at hco
      generalize sumW leaves (lvN leaves.length nodes [a]) 0 = s at *
      cases hN : conN leaves nodes a with
      | none =>
        simp only [hN] at hco hcr
        simp [e_ratchetlaw02_GraphAlways, run_eq, c_ratchetlaw02_GraphAlways, haw, hfa, hne, hea, hci, hca, fgL_nodesC, hdo, hco, hr1, hr2, hbi, hs', hcr, e_bothA, freeze, evRO]
      | some o =>
        simp only [hN] at hco hcr
        simp [e_ratchetlaw02_GraphAlways, run_eq, c_ratchetlaw02_GraphAlways, haw, hfa, hne, hea, hci, hca, fgL_nodesC, hdo, hco, hr1, hr2, hbi, hs', hcr, e_bothA, freeze, evRO]
    · have hs' : 12 < sumW leaves (lvN leaves.length nodes [a]) 0 := by omega
      have hk : conE leaves nodes a = 8 := by rw [hk]; simp [hs, unlE]
      have hk0 : conE leaves nodes a ≠ 0 := by rw [hk]; decide
      simp only [if_pos hk0] at hco
      simp only [hk] at hco
      generalize sumW leaves (lvN leaves.length nodes [a]) 0 = s at *
      simp [e_ratchetlaw02_GraphAlways, run_eq, c_ratchetlaw02_GraphAlways, haw, hfa, hne, hea, hci, hca, fgL_nodesC, hdo, hco, hr1, hr2, hbi, hs', e_bothA, freeze, evRO]
  · have h6 := fromE_six h1
    have hk : conE leaves nodes a = 6 := by
      unfold conE namedE
      simp [hc, h6]
    have hk0 : conE leaves nodes a ≠ 0 := by rw [hk]; decide
    simp only [if_pos hk0] at hco
    simp only [hk] at hco
    rw [h6] at hr1
    simp [e_ratchetlaw02_GraphAlways, run_eq, c_ratchetlaw02_GraphAlways, haw, hfa, hne, hea, hci, hca, fgL_nodesC, hdo, hco, hr1, hr2, e_bothA, freeze, evRO]

end Go.Proofs.YtglelclmlkeheaaGreatDoor.V

/- The law GraphAlways, in the evaluator: its claim. -/
namespace Go.Proofs.YtglelclmlkeheaaGreatDoor.V
open Go (IntKind BinOp UnOp)
variable {π κ : Id}

set_option maxHeartbeats 4000000 in
theorem always_true (leaves : List Int) (nodes : List Nod) (a b : Int) (haw : AwakeG [18]) (h : AlwOk leaves nodes) (hc : (checkE leaves nodes).2 = 0) (hf : fromE nodes [a, b] = 0) :
    EE [] n_ratchetlaw02_GraphAlways [.p (encInts leaves), .p (encNodes nodes), .p (.agg [I a, I b])] [] = some (.p (.bool true), []) := by
  obtain ⟨f1, hne⟩ := h
  have hfa := fun π => e_few (π := π) leaves nodes
  rw [f1] at hfa
  have haw : EE [18] n_ratchetlaw02_awake [] [] = some (.p (.bool true), []) := haw
  obtain ⟨hl, hna, hxa'⟩ := few_iff f1
  have hal : ∀ x ∈ nodes, x.args.length ≤ 1000 := fun x hx => by have := hxa' x hx; omega
  have hea := fun π => e_NodesErr (π := π) leaves nodes hal
  rw [hc] at hea
  have hci := fun π => e_CopyInts (π := π) (ints leaves) (by simp only [List.length_map, room]; omega)
  have hca := fun π => e_CopyNodes (π := π) nodes (by omega) hal
  have hfin2 := fromE_z hf
  have hfin1 : ∀ n ∈ [a], 0 ≤ n ∧ n < (nodes.length : Int) := fun n hn => hfin2 n (by simp at hn ⊢; exact .inl hn)
  have h1 : fromE nodes [a] = 0 := (unlE_z (by decide)).2 (argsIn_iff.2 hfin1)
  have hr2 := fun π => e_FromErr (π := π) nodes [a, b] (by omega) (by simp)
  have hr1 := fun π => e_FromErr (π := π) nodes [a] (by omega) (by simp)
  rw [hf] at hr2
  rw [h1] at hr1
  have hb2 := fun π => e_Bits (π := π) leaves nodes (by omega) (by omega) hal hc [a, b] (by simp) hfin2
  have hb1 := fun π => e_Bits (π := π) leaves nodes (by omega) (by omega) hal hc [a] (by simp) hfin1
  have hl2 := fun π => e_light (π := π) leaves nodes (by omega) (by omega) hal hc [a, b] (by simp) hfin2
  have hl1 := fun π => e_light (π := π) leaves nodes (by omega) (by omega) hal hc [a] (by simp) hfin1
  rw [show encInts [a, b] = .sl 1 none [I a, I b] from rfl] at hr2 hb2 hl2
  rw [show encInts [a] = .sl 1 none [I a] from rfl] at hr1 hb1 hl1
  cases q2 : lightB leaves nodes [a, b] with
  | false =>
    rw [q2] at hl2
    simp [e_ratchetlaw02_GraphAlways, run_eq, c_ratchetlaw02_GraphAlways, haw, hfa, hne, hea, hr2, hl2, freeze, evRO]
  | true =>
  rw [q2] at hl2
  cases q1 : lightB leaves nodes [a] with
  | false =>
    rw [q1] at hl1
    simp [e_ratchetlaw02_GraphAlways, run_eq, c_ratchetlaw02_GraphAlways, haw, hfa, hne, hea, hr2, hl2, hl1, freeze, evRO]
  | true =>
  rw [q1] at hl1
  have hco := fun π => e_ConstantAt (π := π) leaves nodes a (by omega) (by omega) hal
  have hde := fun π => e_DifferenceOf_err (π := π) leaves nodes a b (by omega) (by omega) hal
  have hdo := fun π => e_DifferenceOf (π := π) leaves nodes a b (by omega) (by omega) hal
  obtain ⟨ha0, ha1⟩ := hfin2 a (by simp)
  obtain ⟨hb0, hb1'⟩ := hfin2 b (by simp)
  have haN : a.toNat < nodes.length := by omega
  have hbN : b.toNat < nodes.length := by omega
  have wa : widOf nodes a = nodes[a.toNat].width := by unfold widOf; simp [List.getD, haN]
  have wb : widOf nodes b = nodes[b.toNat].width := by unfold widOf; simp [List.getD, hbN]
  have hk : conE leaves nodes a = unlE (decide (sumW leaves (lvN leaves.length nodes [a]) 0 ≤ 12)) 8 := by
    unfold conE namedE
    simp [hc, h1]
  have hd : difE leaves nodes a b = firstE [unlE (decide (nodes[a.toNat].width = nodes[b.toNat].width)) 25, unlE (decide (sumW leaves (lvN leaves.length nodes [a, b]) 0 ≤ 12)) 8] := by
    unfold difE namedE
    rw [wa, wb]
    simp [hc, hf]
  have hcr := fun hs π => e_ConstantR (π := π) leaves nodes (by omega) (by omega) hal hc a hfin1 hs
  have hdr := fun hs π => e_DifferenceR (π := π) leaves nodes (by omega) (by omega) hal hc a b hfin2 hs
  have hdl : ∀ d, difN leaves nodes a b = some d → d.length ≤ top63 := fun d hd => by
    have := (dif_some hd).1.len
    simp only [top63]; omega
  generalize sumW leaves (lvN leaves.length nodes [a]) 0 = s1 at *
  generalize sumW leaves (lvN leaves.length nodes [a, b]) 0 = s2 at *
  generalize conN leaves nodes a = CN at *
  generalize difN leaves nodes a b = DN at *
  by_cases hs1 : s1 ≤ 12
  · have hs1' : ¬ 12 < s1 := by omega
    have hk0 : ¬ conE leaves nodes a ≠ 0 := by rw [hk]; simp [hs1, unlE]
    simp only [if_neg hk0] at hco
    have hcr := hcr hs1
    cases CN with
    | none =>
      simp only at hco hcr
      by_cases hw : nodes[a.toNat].width = nodes[b.toNat].width
      · by_cases hs2 : s2 ≤ 12
        · have hs2' : ¬ 12 < s2 := by omega
          have hd0 : difE leaves nodes a b = 0 := by rw [hd]; simp [hw, hs2, unlE, firstE]
          have hdo := fun π => hdo π hd0
          have hdr := hdr hs2
          cases DN with
          | none =>
            simp only at hdo hdr
            simp [e_ratchetlaw02_GraphAlways, run_eq, c_ratchetlaw02_GraphAlways, haw, hfa, hne, hea, hci, hca, fgL_nodesC, hr1, hr2, hl1, hl2, hb1, hb2, ha0, hb0, haN, hbN, e_bothA, freeze, evRO, hs1', hco, hcr, hw, hs2', hdo, hdr]
          | some d =>
            simp only at hdo hdr
            have hii := fun π => e_Ints (π := π) d d (hdl d rfl)
            simp only [decide_true] at hii
            simp [e_ratchetlaw02_GraphAlways, run_eq, c_ratchetlaw02_GraphAlways, haw, hfa, hne, hea, hci, hca, fgL_nodesC, hr1, hr2, hl1, hl2, hb1, hb2, ha0, hb0, haN, hbN, e_bothA, freeze, evRO, hs1', hco, hcr, hw, hs2', hdo, hdr, hii]
        · have hs2' : 12 < s2 := by omega
          have hd0 : difE leaves nodes a b = 8 := by rw [hd]; simp [hw, hs2, unlE, firstE]
          have hde := fun π => hde π (by rw [hd0]; decide)
          simp only [hd0] at hde
          simp [e_ratchetlaw02_GraphAlways, run_eq, c_ratchetlaw02_GraphAlways, haw, hfa, hne, hea, hci, hca, fgL_nodesC, hr1, hr2, hl1, hl2, hb1, hb2, ha0, hb0, haN, hbN, e_bothA, freeze, evRO, hs1', hco, hcr, hw, hs2', hde]
      · have hd0 : difE leaves nodes a b = 25 := by rw [hd]; simp [hw, unlE, firstE]
        have hde := fun π => hde π (by rw [hd0]; decide)
        simp only [hd0] at hde
        simp [e_ratchetlaw02_GraphAlways, run_eq, c_ratchetlaw02_GraphAlways, haw, hfa, hne, hea, hci, hca, fgL_nodesC, hr1, hr2, hl1, hl2, hb1, hb2, ha0, hb0, haN, hbN, e_bothA, freeze, evRO, hs1', hco, hcr, hw, hde]
    | some o =>
      simp only at hco hcr
      by_cases hw : nodes[a.toNat].width = nodes[b.toNat].width
      · by_cases hs2 : s2 ≤ 12
        · have hs2' : ¬ 12 < s2 := by omega
          have hd0 : difE leaves nodes a b = 0 := by rw [hd]; simp [hw, hs2, unlE, firstE]
          have hdo := fun π => hdo π hd0
          have hdr := hdr hs2
          cases DN with
          | none =>
            simp only at hdo hdr
            simp [e_ratchetlaw02_GraphAlways, run_eq, c_ratchetlaw02_GraphAlways, haw, hfa, hne, hea, hci, hca, fgL_nodesC, hr1, hr2, hl1, hl2, hb1, hb2, ha0, hb0, haN, hbN, e_bothA, freeze, evRO, hs1', hco, hcr, hw, hs2', hdo, hdr]
          | some d =>
            simp only at hdo hdr
            have hii := fun π => e_Ints (π := π) d d (hdl d rfl)
            simp only [decide_true] at hii
            simp [e_ratchetlaw02_GraphAlways, run_eq, c_ratchetlaw02_GraphAlways, haw, hfa, hne, hea, hci, hca, fgL_nodesC, hr1, hr2, hl1, hl2, hb1, hb2, ha0, hb0, haN, hbN, e_bothA, freeze, evRO, hs1', hco, hcr, hw, hs2', hdo, hdr, hii]
        · have hs2' : 12 < s2 := by omega
          have hd0 : difE leaves nodes a b = 8 := by rw [hd]; simp [hw, hs2, unlE, firstE]
          have hde := fun π => hde π (by rw [hd0]; decide)
          simp only [hd0] at hde
          simp [e_ratchetlaw02_GraphAlways, run_eq, c_ratchetlaw02_GraphAlways, haw, hfa, hne, hea, hci, hca, fgL_nodesC, hr1, hr2, hl1, hl2, hb1, hb2, ha0, hb0, haN, hbN, e_bothA, freeze, evRO, hs1', hco, hcr, hw, hs2', hde]
      · have hd0 : difE leaves nodes a b = 25 := by rw [hd]; simp [hw, unlE, firstE]
        have hde := fun π => hde π (by rw [hd0]; decide)
        simp only [hd0] at hde
        simp [e_ratchetlaw02_GraphAlways, run_eq, c_ratchetlaw02_GraphAlways, haw, hfa, hne, hea, hci, hca, fgL_nodesC, hr1, hr2, hl1, hl2, hb1, hb2, ha0, hb0, haN, hbN, e_bothA, freeze, evRO, hs1', hco, hcr, hw, hde]
  · have hs1' : 12 < s1 := by omega
    have hk8 : conE leaves nodes a = 8 := by rw [hk]; simp [hs1, unlE]
    have hk0 : conE leaves nodes a ≠ 0 := by rw [hk8]; decide
    simp only [if_pos hk0] at hco
    simp only [hk8] at hco
    by_cases hw : nodes[a.toNat].width = nodes[b.toNat].width
    · by_cases hs2 : s2 ≤ 12
      · have hs2' : ¬ 12 < s2 := by omega
        have hd0 : difE leaves nodes a b = 0 := by rw [hd]; simp [hw, hs2, unlE, firstE]
        have hdo := fun π => hdo π hd0
        have hdr := hdr hs2
        cases DN with
        | none =>
          simp only at hdo hdr
          simp [e_ratchetlaw02_GraphAlways, run_eq, c_ratchetlaw02_GraphAlways, haw, hfa, hne, hea, hci, hca, fgL_nodesC, hr1, hr2, hl1, hl2, hb1, hb2, ha0, hb0, haN, hbN, e_bothA, freeze, evRO, hs1', hco, hw, hs2', hdo, hdr]
        | some d =>
          simp only at hdo hdr
          have hii := fun π => e_Ints (π := π) d d (hdl d rfl)
          simp only [decide_true] at hii
          simp [e_ratchetlaw02_GraphAlways, run_eq, c_ratchetlaw02_GraphAlways, haw, hfa, hne, hea, hci, hca, fgL_nodesC, hr1, hr2, hl1, hl2, hb1, hb2, ha0, hb0, haN, hbN, e_bothA, freeze, evRO, hs1', hco, hw, hs2', hdo, hdr, hii]
      · have hs2' : 12 < s2 := by omega
        have hd0 : difE leaves nodes a b = 8 := by rw [hd]; simp [hw, hs2, unlE, firstE]
        have hde := fun π => hde π (by rw [hd0]; decide)
        simp only [hd0] at hde
        simp [e_ratchetlaw02_GraphAlways, run_eq, c_ratchetlaw02_GraphAlways, haw, hfa, hne, hea, hci, hca, fgL_nodesC, hr1, hr2, hl1, hl2, hb1, hb2, ha0, hb0, haN, hbN, e_bothA, freeze, evRO, hs1', hco, hw, hs2', hde]
    · have hd0 : difE leaves nodes a b = 25 := by rw [hd]; simp [hw, unlE, firstE]
      have hde := fun π => hde π (by rw [hd0]; decide)
      simp only [hd0] at hde
      simp [e_ratchetlaw02_GraphAlways, run_eq, c_ratchetlaw02_GraphAlways, haw, hfa, hne, hea, hci, hca, fgL_nodesC, hr1, hr2, hl1, hl2, hb1, hb2, ha0, hb0, haN, hbN, e_bothA, freeze, evRO, hs1', hco, hw, hde]

end Go.Proofs.YtglelclmlkeheaaGreatDoor.V
