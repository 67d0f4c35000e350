/- The first point, by the program: a round over the points. The points, by the program. All points of a design, by the program. MattersFor, by the program. MattersFor, by the program: all of it. The first point, by the reference. The matrix of relations, by program and reference. The matrix by the ref -/
import Derived.Test.YteecfnfjlclhdaaGreatS12
import Derived.Test.YteecfnfjlclhdaaGreatK5
import Derived.SizedLaws

set_option linter.unusedSimpArgs false
set_option linter.unusedVariables false

/- The first point, by the program: a round over the points. -/
namespace Go.Proofs.YteecfnfjlclhdaaGreat.V
open Go (IntKind BinOp UnOp)
variable {π κ : Id}
abbrev netB (id : Id) (d : Des) : Id × Blk := (id, .box false [.p (.str d.name), .p (Xn d.inputs), .p (W0 d.elements), .p (Za d.nodes), .p (Ls d.rules), .p (Us d.outputs), .p (Lt d.attrs), .p (.sl 1 (flagE (dlv d)) (ints (dlv d)))])
abbrev frM (π : Id) (st : FSt) : Id × Blk := (2000000 :: π, .frm π 59 [(4, .ref (4 :: π) 0), (5, .ref (5 :: π) 0), (6, .ref (6 :: π) 0), (7, .ref (7 :: π) 0), (8, .ref (8 :: π) 0)] [45] Mg Mf st)
abbrev bxM (π : Id) (d : Des) (a b : Int) (x6 x7 : PV) : Sto := [netB (8 :: π) d, (7 :: π, .box false [.p x7]), (6 :: π, .box false [.p x6]), (5 :: π, .box false [.p (I b)]), (4 :: π, .box false [.p (I a)])]
abbrev rwP (f : Bool) (id : Id) (p : List Int) : Id × Blk := (id, .row f t_int 1 (some false) (ints p))
theorem e_roundM_no (d : Des) (hd : DesOk d) (hv : DesVal d) (a b : Int) (ra rb : Rul) (ha : d.rules[a.toNat]? = some ra) (hb : d.rules[b.toNat]? = some rb) (ha0 : 0 ≤ a) (ha1 : a < (d.rules.length : Int)) (hb0 : 0 ≤ b) (hb1 : b < (d.rules.length : Int)) (ρ : Id) (p : List Int) (hp : LeafOk (dlv d) p) (x6 x7 : PV)
  (hf : (meetB d ra rb p && matB d ra rb p) = false) :
  EE κ Z2 [.ap (18 :: ρ), .yld (2000000 :: π)] (rwP false (18 :: ρ) p :: frM π .ready :: bxM π d a b x6 x7) = some (.p (.bool true), rwP true (18 :: ρ) p :: frM π .ready :: bxM π d a b x6 x7) := by
 have hm := fun π => e_meet (π := π) d hd hv a b ra rb ha hb ha0 ha1 hb0 hb1 p hp
 have ht := fun π => Za1 (π := π) d hd hv a b ra rb ha hb ha0 ha1 hb0 hb1 p hp
 generalize meetB d ra rb p = M at *
 generalize matB d ra rb p = T at *
 rw [e_yldB]
 cases M
 ·simp [runY, M1, Wq, M0, Wp, Z4, hm]
 ·have hT : T = false := by simpa using hf
  subst hT
  simp [runY, M1, Wq, M0, Wp, Z4, hm, ht]
theorem e_roundM_yes (d : Des) (hd : DesOk d) (hv : DesVal d) (a b : Int) (ra rb : Rul) (ha : d.rules[a.toNat]? = some ra) (hb : d.rules[b.toNat]? = some rb) (ha0 : 0 ≤ a) (ha1 : a < (d.rules.length : Int)) (hb0 : 0 ≤ b) (hb1 : b < (d.rules.length : Int)) (ρ : Id) (p : List Int) (hp : LeafOk (dlv d) p) (x6 x7 : PV)
  (hf : (meetB d ra rb p && matB d ra rb p) = true) :
  EE κ Z2 [.ap (18 :: ρ), .yld (2000000 :: π)] (rwP false (18 :: ρ) p :: frM π .ready :: bxM π d a b x6 x7) = some (.p (.bool false), rwP true (18 :: ρ) p :: frM π (.done .rt) :: bxM π d a b (.sl 1 (some false) (ints p)) (I 0)) := by
 have hm := fun π => e_meet (π := π) d hd hv a b ra rb ha hb ha0 ha1 hb0 hb1 p hp
 have ht := fun π => Za1 (π := π) d hd hv a b ra rb ha hb ha0 ha1 hb0 hb1 p hp
 rw [Bool.and_eq_true] at hf
 rw [hf.1] at hm
 rw [hf.2] at ht
 rw [e_yldB]
 simp [runY, M1, Wq, M0, Wp, Z4, hm, ht]
theorem pw_minJ {r : Nat} (h : r ≤ 60) : (2 : Int) ^ min r 64 = ((2 ^ r : Nat) : Int) := by
 rw [Nat.min_eq_left (by omega)]; simp
abbrev rho (π : Id) : Id := 3000000 :: π
abbrev frP (π : Id) (st : FSt) : Id × Blk := (2000000 :: rho π, .frm (rho π) 47 [(1, .ref (2 :: 44 :: π) 0), (4, .ref (4 :: rho π) 0), (5, .ref (5 :: rho π) 0)] [21, 22] Pu Pt st)
abbrev stP (π : Id) (k : Nat) (o : List Int) (r : Sto) : Sto := (5 :: rho π, .box false [.ap (18 :: rho π)]) :: rwP false (18 :: rho π) o :: (4 :: rho π, .box false [.p (I k)]) :: r
abbrev netX (id : Id) (d : Des) : Id × Blk := (id, .box false ((Z61 d).map .p))
theorem ib_mask {k W : Nat} (hk : k < 2 ^ 62) (hW : W ≤ 16) : ibits .and .i64 (k : Int) (((2 ^ W : Nat) : Int) - 1) = some ((k % 2 ^ W : Nat) : Int) := by
 have hp := Nat.two_pow_pos W
 have hp2 : 2 ^ W ≤ 2 ^ 16 := Nat.pow_le_pow_right (by omega) hW
 have he : ((2 ^ W : Nat) : Int) - 1 = ((2 ^ W - 1 : Nat) : Int) := by omega
 have hm : k % 2 ^ W ≤ k := Nat.mod_le _ _
 rw [he]
 show some (IntKind.i64.wrap ((BitVec.ofInt 64 (k : Int) &&& BitVec.ofInt 64 ((2 ^ W - 1 : Nat) : Int)).toNat : Int)) = _
 rw [BitVec.ofInt_natCast, BitVec.ofInt_natCast, BitVec.toNat_and, BitVec.toNat_ofNat, BitVec.toNat_ofNat, Nat.mod_eq_of_lt (show k < 2 ^ 64 by omega), Nat.mod_eq_of_lt (show 2 ^ W - 1 < 2 ^ 64 by omega), Nat.and_two_pow_sub_one_eq_mod, L6 (by omega) (by omega)]
theorem e_roundP (d : Des) (hlw : ∀ n ∈ dlv d, 1 ≤ n ∧ n ≤ 16) (n k : Nat) (hk : k < 2 ^ 62) (hn : n < (dlv d).length) (o : List Int) (ho : o.length = (dlv d).length) :
  EE κ Z2 [.p (I n), .p (I n), .yld (2000000 :: rho π)] (frP π .ready :: stP π k o [netX (2 :: 44 :: π) d]) =
   some (.p (.bool true), frP π .ready :: stP π (k / 2 ^ ((dlv d).getD n 0).toNat) (o.set n ((k % 2 ^ ((dlv d).getD n 0).toNat : Nat) : Int)) [netX (2 :: 44 :: π) d]) := by
 have hgd : (dlv d).getD n 0 = (dlv d)[n] := by simp [List.getD_eq_getElem?_getD, hn]
 obtain ⟨w1, w2⟩ := hlw _ (List.getElem_mem hn)
 have hgl : (dlv d)[n]? = some (dlv d)[n] := by simp [hn]
 rw [hgd]
 generalize hw : (dlv d)[n] = w at *
 have hw0 : ¬ w < 0 := by omega
 have hon : n < o.length := by omega
 obtain ⟨W, rfl⟩ : ∃ W : Nat, w = W := ⟨w.toNat, by omega⟩
 have hp := pw_minJ (r := W) (by omega)
 have hm := ib_mask hk (show W ≤ 16 by omega)
 have hfd : Int.fdiv (k : Int) (2 ^ min W 64) = ((k / 2 ^ W : Nat) : Int) := by rw [hp, Int.fdiv_eq_ediv_of_nonneg _ (Int.natCast_nonneg _)]; rfl
 have hpp := Nat.two_pow_pos W
 have hp2 : 2 ^ W ≤ 2 ^ 16 := Nat.pow_le_pow_right (by omega) (by omega)
 have hW0 : ¬ (W : Int) < 0 := by omega
 rw [Int.toNat_natCast]
 generalize k % 2 ^ W = z at *
 generalize k / 2 ^ W = y at *
 generalize 2 ^ W = pw at *
 have hs : IntKind.i64.wrap (2 ^ min W 64) = (pw : Int) := by rw [hp]; exact L6 (by omega) (by omega)
 have hs2 : IntKind.i64.wrap ((pw : Int) - 1) = (pw : Int) - 1 := L6 (by omega) (by omega)
 rw [e_yldB]
 simp [runY, Z6h, Pw, Z6g, Pv, hn, hgl, hw, hW0, hon, hs, hs2, hm, hfd, IntKind.bits, evRO]
 simp [PV.setc]
def digK (lv : List Int) : Nat → Nat → Nat
 | 0, k => k
 | n + 1, k => digK lv n (k / 2 ^ (lv.getD n 0).toNat)
abbrev tlM (π : Id) (d : Des) (a b : Int) (x6 x7 : PV) (st : FSt) : Sto := frM π st :: (3 :: 44 :: π, .box false [.p (Z1 (upI (dlv d).length))]) :: netX (2 :: 44 :: π) d :: bxM π d a b x6 x7
abbrev bkX (π : Id) (d : Des) : Id × Blk := (1 :: 20 :: rho π, .box false [.p (Z1 (upI (dlv d).length))])
abbrev k0P (π : Id) : List Id := [2000000 :: rho π, 1 :: 20 :: rho π, 5 :: rho π, 18 :: rho π, 4 :: rho π, 2000000 :: π, 3 :: 44 :: π, 2 :: 44 :: π, 8 :: π, 7 :: π, 6 :: π, 5 :: π, 4 :: π]
set_option maxHeartbeats 1000000 in
theorem bck_loop (d : Des) (hlw : ∀ n ∈ dlv d, 1 ≤ n ∧ n ≤ 16) (hl : (dlv d).length ≤ 1000) (a b : Int) (x6 x7 : PV) : ∀ (m k : Nat) (o : List Int) (x : Env × Sto), m ≤ (dlv d).length → k < 2 ^ 62 → o.length = (dlv d).length →
  mask [0, 1, 3] (k0P π) x = some ([(0, .yld (2000000 :: rho π)), (1, .ref (1 :: 20 :: rho π) 0), (3, .p (I ((m : Int) - 1)))], frP π .ready :: bkX π d :: stP π k o (tlM π d a b x6 x7 .ready)) →
  kpO [] [] (k0P π) (bkO 0 (iter (round EE iter κ (k0P π) [0, 1, 3] Ww) x)) = some (.nm, [], frP π .ready :: bkX π d :: stP π (digK (dlv d) m k) (digD (dlv d) m k o) (tlM π d a b x6 x7 .ready))
 | 0, k, o, x, hm1, hk, ho, hm => by
  rw [Z3 hm]
  simp [Po, Xa, digD, digK]
 | m + 1, k, o, x, hm1, hk, ho, hm => by
  rw [Z3 hm]
  have hml : m < (dlv d).length := by omega
  have hg := upI_get hml
  have hul := Z4o (dlv d).length
  have hge : (upI (dlv d).length)[m]'(by omega) = (m : Int) := by rw [List.getElem?_eq_getElem (by omega)] at hg; simpa using hg
  have hul2 : m < (upI (dlv d).length).length := by omega
  have hc := fun κ => e_roundP (κ := κ) (π := π) d hlw m k hk hml o ho
  have hw : IntKind.i64.wrap ((m : Int) - 1) = (m : Int) - 1 := L6 (by omega) (by omega)
  have hk2 : k / 2 ^ ((dlv d).getD m 0).toNat < 2 ^ 62 := Nat.lt_of_le_of_lt (Nat.div_le_self _ _) hk
  have ih := fun o x => bck_loop d hlw hl a b x6 x7 m (k / 2 ^ ((dlv d).getD m 0).toNat) o x (by omega) hk2
  have e1 : digK (dlv d) (m + 1) k = digK (dlv d) m (k / 2 ^ ((dlv d).getD m 0).toNat) := rfl
  have e2 : digD (dlv d) (m + 1) k o = digD (dlv d) m (k / 2 ^ ((dlv d).getD m 0).toNat) (o.set m ((k % 2 ^ ((dlv d).getD m 0).toNat : Nat) : Int)) := rfl
  rw [e1, e2]
  have ho2 : (o.set m ((k % 2 ^ ((dlv d).getD m 0).toNat : Nat) : Int)).length = (dlv d).length := by rw [List.length_set]; exact ho
  have ih := fun x => ih _ x ho2
  generalize o.set m ((k % 2 ^ ((dlv d).getD m 0).toNat : Nat) : Int) = o2 at *
  generalize k / 2 ^ ((dlv d).getD m 0).toNat = k2 at *
  have e3 : ((m + 1 : Nat) : Int) - 1 = m := by omega
  rw [e3] at *
  simp [Po, Xa, hg, hge, hul2, hc]
  refine ih _ ?_
  simp [hw]
theorem e_bckX (d : Des) (hlw : ∀ n ∈ dlv d, 1 ≤ n ∧ n ≤ 16) (hl : (dlv d).length ≤ 1000) (a b : Int) (x6 x7 : PV) (k : Nat) (hk : k < 2 ^ 62) (o : List Int) (ho : o.length = (dlv d).length) :
  EE κ W6 [.yld (2000000 :: rho π), .ref (1 :: 20 :: rho π) 0] (frP π .ready :: bkX π d :: stP π k o (tlM π d a b x6 x7 .ready)) =
   some (.p (.tup []), frP π .ready :: bkX π d :: stP π (digK (dlv d) (dlv d).length k) (digD (dlv d) (dlv d).length k o) (tlM π d a b x6 x7 .ready)) := by
 have hlp := fun x => bck_loop (κ := κ) (π := π) d hlw hl a b x6 x7 (dlv d).length k o x (Nat.le_refl _) hk ho
 have hul := Z4o (dlv d).length
 have hw : IntKind.i64.wrap (((dlv d).length : Int) - 1) = ((dlv d).length : Int) - 1 := L6 (by omega) (by omega)
 generalize digK (dlv d) (dlv d).length k = k2 at *
 generalize digD (dlv d) (dlv d).length k o = o2 at *
 simp [Z3k, Z0, Vw, hul, hw]
 rw [hlp _ (by simp [hul, hw])]
 simp
abbrev k0Q (π : Id) : List Id := [2000000 :: π, 3 :: 44 :: π, 2 :: 44 :: π, 8 :: π, 7 :: π, 6 :: π, 5 :: π, 4 :: π]
set_option maxHeartbeats 2000000 in
theorem pts_loop (d : Des) (hd : DesOk d) (hv : DesVal d) (a b : Int) (ra rb : Rul) (ha : d.rules[a.toNat]? = some ra) (hb : d.rules[b.toNat]? = some rb) (ha0 : 0 ≤ a) (ha1 : a < (d.rules.length : Int)) (hb0 : 0 ≤ b) (hb1 : b < (d.rules.length : Int)) (hlw : ∀ n ∈ dlv d, 1 ≤ n ∧ n ≤ 16) (hl : (dlv d).length ≤ 1000) (N : Nat) (hN : N < 2 ^ 62) (x6 x7 : PV) :
  ∀ (m k : Nat) (x : Env × Sto), k + m = N →
  mask [0, 1, 2, 11, 12] (k0Q π) x = some ([(0, .yld (2000000 :: π)), (1, .ref (2 :: 44 :: π) 0), (2, .ref (3 :: 44 :: π) 0), (11, .p (I N)), (12, .p (I k))], tlM π d a b x6 x7 .ready) →
  kpO [] [] (k0Q π) (bkO 0 (iter (round EE iter (rho π) (k0Q π) [0, 1, 2, 11, 12] Me) x)) = (match fstP d ra rb m k with
   | some p => some (.rt, [], tlM π d a b (.sl 1 (some false) (ints p)) (I 0) (.done .rt))
   | none => some (.nm, [], tlM π d a b x6 x7 .ready))
 | 0, k, x, h, hm => by
  rw [Z3 hm]
  have : k = N := by omega
  subst this
  simp [Nz, Wo, fstP]
 | m + 1, k, x, h, hm => by
  rw [Z3 hm]
  have hk : (k : Int) < N := by omega
  have hws : IntKind.i64.wrap ((k : Int) + 1) = (k : Int) + 1 := L6 (by omega) (by omega)
  have ih := fun x => pts_loop d hd hv a b ra rb ha hb ha0 ha1 hb0 hb1 hlw hl N hN x6 x7 m (k + 1) x (by omega)
  have hbk := fun κ => e_bckX (κ := κ) (π := π) d hlw hl a b x6 x7 k (by omega) (List.replicate (dlv d).length 0) (by simp)
  have hp := pntD_ok hlw k
  have hpd : pntD (dlv d) k = digD (dlv d) (dlv d).length k (List.replicate (dlv d).length 0) := rfl
  rw [← hpd] at hbk
  have hno := fun κ => e_roundM_no (κ := κ) (π := π) d hd hv a b ra rb ha hb ha0 ha1 hb0 hb1 (rho π) (pntD (dlv d) k) hp x6 x7
  have hye := fun κ => e_roundM_yes (κ := κ) (π := π) d hd hv a b ra rb ha hb ha0 ha1 hb0 hb1 (rho π) (pntD (dlv d) k) hp x6 x7
  have hst : fstP d ra rb (m + 1) k = if (meetB d ra rb (pntD (dlv d) k) && matB d ra rb (pntD (dlv d) k)) = true then some (pntD (dlv d) k) else fstP d ra rb m (k + 1) := rfl
  have hro : (dlv d).length ≤ room := by simp only [room]; omega
  have hrep : List.replicate (dlv d).length (PV.int .i64 0) = ints (List.replicate (dlv d).length 0) := by simp
  rw [hst]
  generalize digK (dlv d) (dlv d).length k = k2 at *
  generalize List.replicate (dlv d).length (0 : Int) = Z at *
  generalize pntD (dlv d) k = p at *
  generalize (meetB d ra rb p && matB d ra rb p) = t at *
  cases t with
  | true =>
   have hye := fun κ => hye κ rfl
   simp [Nz, Wo, hk, hro, hrep, Gg, V4, Z0, evC_rf, fnOf, hbk, hye]
  | false =>
   have hno := fun κ => hno κ rfl
   simp [Nz, Wo, hk, hro, hrep, Gg, V4, Z0, evC_rf, fnOf, hbk, hno]
   exact ih _ (by simp [hws])
theorem e_points1 (d : Des) (hd : DesOk d) (hv : DesVal d) (a b : Int) (ra rb : Rul) (ha : d.rules[a.toNat]? = some ra) (hb : d.rules[b.toNat]? = some rb) (ha0 : 0 ≤ a) (ha1 : a < (d.rules.length : Int)) (hb0 : 0 ≤ b) (hb1 : b < (d.rules.length : Int)) (hs : sumI (dlv d) ≤ 12) (x6 x7 : PV) :
  EE (rho π) Nq [.yld (2000000 :: π), .ref (2 :: 44 :: π) 0, .ref (3 :: 44 :: π) 0] (tlM π d a b x6 x7 .ready) = (match fstP d ra rb (2 ^ (sumI (dlv d)).toNat) 0 with
   | some p => some (.p (.tup []), tlM π d a b (.sl 1 (some false) (ints p)) (I 0) (.done .rt))
   | none => some (.p (.tup []), tlM π d a b x6 x7 .ready)) := by
 have hlw := (Yc hv.check).2.2
 have hll := Lv d
 have hl40 := hv.ll
 have hB := fun π => e_bits (π := π) d (by omega)
 have hwe := wsm_eq hlw (by omega) (dlv d).length (Nat.le_refl _)
 rw [List.take_length] at hwe
 rw [hwe] at hB
 have hsl := Zgw hlw
 obtain ⟨S, hS⟩ : ∃ S : Nat, sumI (dlv d) = S := ⟨(sumI (dlv d)).toNat, by omega⟩
 have hp2 : 2 ^ S ≤ 2 ^ 12 := Nat.pow_le_pow_right (by omega) (by omega)
 have hlp := fun x => pts_loop (π := π) d hd hv a b ra rb ha hb ha0 ha1 hb0 hb1 hlw (by omega) (2 ^ S) (by omega) x6 x7 (2 ^ S) 0 x (by omega)
 have hp := pw_minJ (r := S) (by omega)
 rw [hS] at hB
 rw [hS, Int.toNat_natCast]
 generalize fstP d ra rb (2 ^ S) 0 = F at *
 generalize 2 ^ S = N at *
 have hs : IntKind.i64.wrap (2 ^ min S 64) = (N : Int) := by rw [hp]; exact L6 (by omega) (by omega)
 have hS0 : ¬ (S : Int) < 0 := by omega
 simp [Zbu, Z0, F6, hB, hs, hS0, IntKind.bits]
 rw [hlp _ (by simp)]
 cases F with
 | none => simp
 | some p => simp
abbrev mfS (π : Id) (d : Des) (a b : Int) (nl : Option Bool) (l : List Int) : Sto := (1010 :: π, .row false t_int 1 nl (ints l)) :: bxM π d a b (.sl 1 (some true) []) (I 0)
theorem mfa_loop (d : Des) (a b : Int) (E : Int) (hl : (dlv d).length ≤ 2000) :
  ∀ (m i : Nat) (nl : Option Bool) (l : List Int) (x : Env × Sto), i + m = (dlv d).length → l = upI i → nl = flagE l →
  mask [4, 5, 6, 7, 8, 9, 10, 22, 23] [] x = some ([(4, .ref (4 :: π) 0), (5, .ref (5 :: π) 0), (6, .ref (6 :: π) 0), (7, .ref (7 :: π) 0), (8, .ref (8 :: π) 0), (9, .p (I E)), (10, .ap (1010 :: π)), (22, .p (I (dlv d).length)), (23, .p (I i))], mfS π d a b nl l) →
  kpO [4, 5, 6, 7, 8, 9, 10] [6, 7] [] (bkO 0 (iter (round EE iter π [] [4, 5, 6, 7, 8, 9, 10, 22, 23] Ke) x)) =
   some (.nm, [(4, .ref (4 :: π) 0), (5, .ref (5 :: π) 0), (6, .ref (6 :: π) 0), (7, .ref (7 :: π) 0), (8, .ref (8 :: π) 0), (9, .p (I E)), (10, .ap (1010 :: π))], mfS π d a b (flagE (upI (dlv d).length)) (upI (dlv d).length))
 | 0, i, nl, l, x, h, hll, hnl, hm => by
  rw [Z3 hm]
  have hi : i = (dlv d).length := by omega
  subst hi hnl hll
  simp [Z10, Qb]
 | m + 1, i, nl, l, x, h, hll, hnl, hm => by
  rw [Z3 hm]
  subst hnl hll
  have hil : i < (dlv d).length := by omega
  have hlt : (i : Int) < (dlv d).length := by omega
  have hsu := Zf hil (show (dlv d).length ≤ top63 by simp only [top63]; omega)
  have ih := fun nl l x => mfa_loop d a b E hl m (i + 1) nl l x (by omega)
  have hul := Z4o i
  have hro : i + 1 ≤ room := by simp only [room]; omega
  have hus := upI_succ i
  simp [Z10, Qb, hlt, hul, hro, Yj]
  exact ih (some false) (upI i ++ [(i : Int)]) _ hus.symm (by rw [Yj]) (by simp [hsu])
def mfE (d : Des) (a b : Int) : Int := Z9 [twoE d a b, unlE (decide (wsm (dlv d) (dlv d).length ≤ 12)) 8]
def mfP (d : Des) (a b : Int) : PV := if mfE d a b ≠ 0 then .tup [.sl 1 (some true) [], I (mfE d a b)] else
 match fstP d (rulAt d a) (rulAt d b) (2 ^ (sumI (dlv d)).toNat) 0 with
 | some p => .tup [.sl 1 (some false) (ints p), I 0]
 | none => .tup [.sl 1 (some true) [], I 12]
set_option maxHeartbeats 1000000 in
theorem Z5f (d : Des) (hd : DesOk d) (a b : Int) :
  EE π Lp [.p (Z5 d), .p (I a), .p (I b)] [] = some (.p (mfP d a b), []) := by
 have ho := fun π => e_openTwo (π := π) d hd a b
 have hll := Lv d
 have h1 := hd.inputs
 have h2 := hd.elements
 have hB := fun π => e_bits (π := π) d (by omega)
 have hlp := fun E x => mfa_loop (π := π) d a b E (by omega) (dlv d).length 0 (some true) [] x (by omega) rfl rfl
 unfold Z5 at ho
 unfold mfP
 by_cases hz : mfE d a b = 0
 ·have hz0 := hz
  unfold mfE at hz
  rw [Zp, Zp, Qc (by decide)] at hz
  obtain ⟨h3, h4, _⟩ := hz
  have h4 : wsm (dlv d) (dlv d).length ≤ 12 := by simpa using h4
  obtain ⟨h0, ⟨a0, a1⟩, ⟨b0, b1⟩, hab⟩ := two_z h3
  have hv := Z9e h0
  have hlw := (Yc hv.check).2.2
  have hl40 := hv.ll
  have hwe := wsm_eq hlw (by omega) (dlv d).length (Nat.le_refl _)
  rw [List.take_length] at hwe
  rw [if_neg (by simp [hz0])]
  have hs : sumI (dlv d) ≤ 12 := by omega
  have hpt := e_points1 (π := π) d hd hv a b _ _ (W4 a0 a1) (W4 b0 b1) a0 a1 b0 b1 hs (.sl 1 (some true) []) (I 0)
  simp only [tlM, netX, Z61, List.map_cons, List.map_nil, rho] at hpt
  generalize fstP d (rulAt d a) (rulAt d b) (2 ^ (sumI (dlv d)).toNat) 0 = F at *
  generalize twoE d a b = E at *
  subst h3
  generalize wsm (dlv d) (dlv d).length = S at *
  simp [Z5e, Z0, Kf, Z5, ho, Z4, thaw, thaw1]
  rw [hlp 0 _ (by simp [flagE])]
  cases F with
  | none => simp [hB, h4, Ua, Ng, unlE, Z9, Z4, Z70, G1, Z0, evC_rf, fnOf, hpt]
  | some p => simp [hB, h4, Ua, Ng, unlE, Z9, Z4, Z70, G1, Z0, evC_rf, fnOf, hpt]
 ·rw [if_pos (by simpa using hz)]
  have hq : mfE d a b = Z9 [twoE d a b, unlE (decide (wsm (dlv d) (dlv d).length ≤ 12)) 8] := rfl
  generalize mfE d a b = Q at *
  generalize twoE d a b = E at *
  generalize wsm (dlv d) (dlv d).length = S at *
  simp [Z5e, Z0, Kf, Z5, ho, Z4, thaw, thaw1]
  rw [hlp E _ (by simp [flagE])]
  simp [hB, Ua, Ng, Z4, ← hq, hz]
theorem pw_minO {r : Nat} (h : r ≤ 60) : (2 : Int) ^ min r 64 = ((2 ^ r : Nat) : Int) := by
 rw [Nat.min_eq_left (by omega)]; simp
theorem num_loop (lv : List Int) (hlw : ∀ n ∈ lv, 1 ≤ n ∧ n ≤ 16) (hl : lv.length ≤ 1000) : ∀ (m k : Nat) (o : List Int) (x : Env × Sto), m ≤ lv.length → k < 2 ^ 62 → o.length = lv.length →
  mask [0, 1, 2, 7, 8] [] x = some ([(0, .p (Z1 lv)), (1, .p (Z1 (upI lv.length))), (2, .p (I k)), (7, .ap (12 :: π)), (8, .p (I ((m : Int) - 1)))], [(12 :: π, .row false t_int 1 (some false) (ints o))]) →
  kpO [7] [6] [] (bkO 0 (iter (round EE iter π [] [0, 1, 2, 7, 8] K0) x)) = some (.nm, [(7, .ap (12 :: π))], [(12 :: π, .row false t_int 1 (some false) (ints (digD lv m k o)))])
 | 0, k, o, x, hm1, hk, ho, hm => by
  rw [Z3 hm]
  simp [Z0w, Q7, digD]
 | m + 1, k, o, x, hm1, hk, ho, hm => by
  rw [Z3 hm]
  have hml : m < lv.length := by omega
  have hg := upI_get hml
  have hul := Z4o lv.length
  have hge : (upI lv.length)[m]'(by omega) = (m : Int) := by rw [List.getElem?_eq_getElem (by omega)] at hg; simpa using hg
  have hul2 : m < (upI lv.length).length := by omega
  have hw : IntKind.i64.wrap ((m : Int) - 1) = (m : Int) - 1 := L6 (by omega) (by omega)
  obtain ⟨w1, w2⟩ := hlw _ (List.getElem_mem hml)
  have hgl : lv[m]? = some lv[m] := by simp [hml]
  have hgd : lv.getD m 0 = lv[m] := by simp [List.getD_eq_getElem?_getD, hml]
  have hst : digD lv (m + 1) k o = digD lv m (k / 2 ^ (lv.getD m 0).toNat) (o.set m ((k % 2 ^ (lv.getD m 0).toNat : Nat) : Int)) := rfl
  rw [hst, hgd]
  generalize hww : lv[m] = w at *
  obtain ⟨W, rfl⟩ : ∃ W : Nat, w = W := ⟨w.toNat, by omega⟩
  have hP := fun π => Zi0 (π := π) (W : Int) (by omega)
  have hpp := Nat.two_pow_pos W
  have hp2 : 2 ^ W ≤ 2 ^ 16 := Nat.pow_le_pow_right (by omega) (by omega)
  rw [Int.toNat_natCast, pw_minO (by omega), L6 (by omega) (by omega)] at hP
  rw [Int.toNat_natCast]
  have hq := Nat.div_le_self k (2 ^ W)
  have htd : Int.tdiv (k : Int) ((2 ^ W : Nat) : Int) = ((k / 2 ^ W : Nat) : Int) := (Int.ofNat_tdiv k (2 ^ W)).symm
  have htm : Int.tmod (k : Int) ((2 ^ W : Nat) : Int) = ((k % 2 ^ W : Nat) : Int) := (Int.ofNat_tmod k (2 ^ W)).symm
  have ho2 : (o.set m ((k % 2 ^ W : Nat) : Int)).length = lv.length := by rw [List.length_set]; exact ho
  have ih := fun x => num_loop lv hlw hl m (k / 2 ^ W) _ x (by omega) (by omega) ho2
  have hpn : ¬ 2 ^ W = 0 := by omega
  have e3 : ((m + 1 : Nat) : Int) - 1 = m := by omega
  rw [e3] at *
  have hmo : m < o.length := by omega
  generalize k % 2 ^ W = z at *
  generalize k / 2 ^ W = y at *
  have hwd : IntKind.i64.wrap (y : Int) = (y : Int) := L6 (by omega) (by omega)
  generalize 2 ^ W = q at *
  have hqi : ¬ (q : Int) = 0 := by omega
  simp [Z0w, Q7, hml, hg, hge, hul, hul2, hgl, hww, hP, htd, htm, hwd, hpn, hqi, hmo, evRO]
  exact ih _ (by simp [hw, PV.setc])
theorem e_Numbered (lv : List Int) (hlw : ∀ n ∈ lv, 1 ≤ n ∧ n ≤ 16) (hl : lv.length ≤ 1000) (k : Nat) (hk : k < 2 ^ 62) :
  EE π Lh [.p (Z1 lv), .p (Z1 (upI lv.length)), .p (I k)] [] = some (.ap (12 :: π), [(12 :: π, .row false t_int 1 (some false) (ints (pntD lv k)))]) := by
 have hlp := fun x => num_loop (π := π) lv hlw hl lv.length k (List.replicate lv.length 0) x (Nat.le_refl _) hk (by simp)
 have hul := Z4o lv.length
 have hro : lv.length ≤ room := by simp only [room]; omega
 have hw : IntKind.i64.wrap ((lv.length : Int) - 1) = (lv.length : Int) - 1 := L6 (by omega) (by omega)
 have hrep : List.replicate lv.length (PV.int .i64 0) = ints (List.replicate lv.length 0) := by simp
 unfold pntD
 generalize digD lv lv.length k (List.replicate lv.length 0) = R at *
 generalize List.replicate lv.length (0 : Int) = Z at *
 simp [Zdo, Z0, Z0a, hro, hrep, hul, hw]
 rw [hlp _ (by simp [hul, hw])]
 simp
abbrev fsS (π : Id) (d : Des) (f : Bool) (nl : Option Bool) (l : List Int) : Sto := [(1009 :: π, .row f t_int 1 nl (ints l)), (1003 :: 14 :: π, .row f t_int 1 (flagE (dlv d)) (ints (dlv d))), Y7 (3 :: π) d]
theorem fs_loop0 (d : Des) (a b : Int) (hl : (dlv d).length ≤ 2000) :
  ∀ (m i : Nat) (nl : Option Bool) (l : List Int) (x : Env × Sto), i + m = (dlv d).length → l = upI i → nl = flagE l →
  mask [1, 2, 3, 8, 9, 10] [] x = some ([(1, .p (I a)), (2, .p (I b)), (3, .ref (3 :: π) 0), (8, .ap (1003 :: 14 :: π)), (9, .ap (1009 :: π)), (10, .p (I i))], fsS π d false nl l) →
  kpO [1, 2, 3, 8, 9] [6, 7] [] (bkO 0 (iter (round EE iter π [] [1, 2, 3, 8, 9, 10] Z09) x)) =
   some (.nm, [(1, .p (I a)), (2, .p (I b)), (3, .ref (3 :: π) 0), (8, .ap (1003 :: 14 :: π)), (9, .ap (1009 :: π))], fsS π d false (flagE (upI (dlv d).length)) (upI (dlv d).length))
 | 0, i, nl, l, x, h, hll, hnl, hm => by
  rw [Z3 hm]
  have hi : i = (dlv d).length := by omega
  subst hi hnl hll
  simp [Z4p, Kg]
 | m + 1, i, nl, l, x, h, hll, hnl, hm => by
  rw [Z3 hm]
  subst hnl hll
  have hil : i < (dlv d).length := by omega
  have hlt : (i : Int) < (dlv d).length := by omega
  have hsu := Zf hil (show (dlv d).length ≤ top63 by simp only [top63]; omega)
  have ih := fun nl l x => fs_loop0 d a b hl m (i + 1) nl l x (by omega)
  have hul := Z4o i
  have hro : i + 1 ≤ room := by simp only [room]; omega
  have hus := upI_succ i
  simp [Z4p, Kg, hil, hlt, hul, hro, Yj]
  exact ih (some false) (upI i ++ [(i : Int)]) _ hus.symm (by rw [Yj]) (by simp [hsu])
set_option maxHeartbeats 1000000 in
theorem fs_loop1 (d : Des) (hd : DesOk d) (hv : DesVal d) (a b : Int) (ra rb : Rul) (ha : d.rules[a.toNat]? = some ra) (hb : d.rules[b.toNat]? = some rb) (ha0 : 0 ≤ a) (ha1 : a < (d.rules.length : Int)) (hb0 : 0 ≤ b) (hb1 : b < (d.rules.length : Int)) (S N : Nat) (hS : sumI (dlv d) = S) (hS12 : S ≤ 12) (hN : N = 2 ^ S) (nl : Option Bool) :
  ∀ (m k : Nat) (f : Bool) (x : Env × Sto), k + m = N →
  mask [1, 2, 3, 8, 9, 11] [] x = some ([(1, .p (I a)), (2, .p (I b)), (3, .ref (3 :: π) 0), (8, .ap (1003 :: 14 :: π)), (9, .ap (1009 :: π)), (11, .p (I k))], fsS π d f nl (upI (dlv d).length)) →
  kpO [] [6, 7] [] (bkO 2 (iter (round EE iter π [] [1, 2, 3, 8, 9, 11] Z08) x)) = (match fstP d ra rb m k with
   | some p => some (.rt, [(6, .ap (12 :: 35 :: π)), (7, .p (.bool true))], [(12 :: 35 :: π, .row false t_int 1 (some false) (ints p))])
   | none => some (.nm, [], []))
 | m, k, f, x, h, hm => by
  rw [Z3 hm]
  have hlw := (Yc hv.check).2.2
  have hll := Lv d
  have hl40 := hv.ll
  have hA := fun π => Z5j (π := π) (dlv d) hlw (by omega)
  have hP := fun π => Zi0 (π := π) (S : Int) (by omega)
  have hp2 : 2 ^ S ≤ 2 ^ 12 := Nat.pow_le_pow_right (by omega) hS12
  rw [Int.toNat_natCast, pw_minO (by omega), ← hN, L6 (by omega) (by omega)] at hP
  rw [hS] at hA
  cases m with
  | zero =>
   have : k = N := by omega
   subst this
   simp [L8, Vm, fstP, hA, hP]
  | succ m =>
   have hk : (k : Int) < N := by omega
   have hws : IntKind.i64.wrap ((k : Int) + 1) = (k : Int) + 1 := L6 (by omega) (by omega)
   have ih := fun f x => fs_loop1 d hd hv a b ra rb ha hb ha0 ha1 hb0 hb1 S N hS hS12 hN nl m (k + 1) f x (by omega)
   have hp := pntD_ok hlw k
   have hnm := fun π => e_Numbered (π := π) (dlv d) hlw (by omega) k (by omega)
   have hme := fun π => e_MeetsR (π := π) d hd hv a b ra rb ha hb ha0 ha1 hb0 hb1 _ hp
   have hma := fun π => Zgi (π := π) d hd hv a b ra rb ha hb ha0 ha1 hb0 hb1 _ hp
   have hst : fstP d ra rb (m + 1) k = if (meetB d ra rb (pntD (dlv d) k) && matB d ra rb (pntD (dlv d) k)) = true then some (pntD (dlv d) k) else fstP d ra rb m (k + 1) := rfl
   rw [hst]
   unfold Z5 at hme hma
   generalize pntD (dlv d) k = p at *
   generalize meetB d ra rb p = M at *
   generalize matB d ra rb p = T at *
   cases M
   ·simp [L8, Vm, hA, hP, hk, hnm, hme, Z4, Xy]
    exact ih true _ (by simp [hws, Xy])
   ·cases T
    ·simp [L8, Vm, hA, hP, hk, hnm, hme, hma, Z4, Xy]
     exact ih true _ (by simp [hws, Xy])
    ·simp [L8, Vm, hA, hP, hk, hnm, hme, hma, Z4, Xy]
termination_by m => m
theorem e_FirstR (d : Des) (hd : DesOk d) (hv : DesVal d) (a b : Int) (ra rb : Rul) (ha : d.rules[a.toNat]? = some ra) (hb : d.rules[b.toNat]? = some rb) (ha0 : 0 ≤ a) (ha1 : a < (d.rules.length : Int)) (hb0 : 0 ≤ b) (hb1 : b < (d.rules.length : Int)) (hs : sumI (dlv d) ≤ 12) :
  EE π Z15 [.p (Z5 d), .p (I a), .p (I b)] [] = (match fstP d ra rb (2 ^ (sumI (dlv d)).toNat) 0 with
   | some p => some (.tup [.ap (12 :: 35 :: π), .p (.bool true)], [(12 :: 35 :: π, .row false t_int 1 (some false) (ints p))])
   | none => some (.p (.tup [.sl 1 (some true) [], .bool false]), [])) := by
 have hL := fun π => Z07 (π := π) d hd.inputs hd.elements
 have hlw := (Yc hv.check).2.2
 have hll := Lv d
 have hl40 := hv.ll
 have hsl := Zgw hlw
 obtain ⟨S, hS⟩ : ∃ S : Nat, sumI (dlv d) = S := ⟨(sumI (dlv d)).toNat, by omega⟩
 have hl0 := fun x => fs_loop0 (π := π) d a b (by omega) (dlv d).length 0 (some true) [] x (by omega) rfl rfl
 have hl1 := fun x => fs_loop1 (π := π) d hd hv a b ra rb ha hb ha0 ha1 hb0 hb1 S (2 ^ S) hS (by omega) rfl (flagE (upI (dlv d).length)) (2 ^ S) 0 false x (by omega)
 rw [hS, Int.toNat_natCast]
 unfold Z5 at hL
 generalize fstP d ra rb (2 ^ S) 0 = F at *
 simp [e_rr16_First, Z0, Z5l, Z5, hL, thaw, thaw1]
 rw [hl0 _ (by simp [flagE, Xy])]
 simp
 rw [hl1 _ (by simp [Xy])]
 cases F with
 | none => simp
 | some p => simp
variable {π : Id}
theorem relI_diff (d : Des) (a b : Int) (h : a ≠ b) : relI d a b = relR (mpR d (rulAt d a) (rulAt d b)) (mpR d (rulAt d b) (rulAt d a)) (bothB (rulAt d a) (rulAt d b)) := by
 unfold relI
 rw [decide_eq_false h, relR_eq]
theorem e_RelRI (d : Des) (hd : DesOk d) (h0 : (desE d).2 = 0) (a b : Int) (h : a ≠ b) (ha0 : 0 ≤ a) (ha1 : a < (d.rules.length : Int)) (hb0 : 0 ≤ b) (hb1 : b < (d.rules.length : Int)) :
  EE π Ql [.p (Z5 d), .p (I a), .p (I b)] [] = some (.p (I (relI d a b)), []) := by
 rw [relI_diff d a b h]
 exact e_RelR d hd h0 a b _ _ (W4 ha0 ha1) (W4 hb0 hb1) ha0 ha1 hb0 hb1
@[simp] theorem fgL_LL (l : List (List Int)) : PV.fg.PV.fgL (l.map Z1) = l.map Z1 := Hd _ _ (fun x => by simp) l
abbrev pairP (a b : Int) : PV := .agg [I a, I b]
theorem mts_few (d : Des) (hd : DesAny d) (a b : Int) (p : List Int) (hw : Zbb [17]) (hf : fewD d = false) : ∃ s, EE [] Zh [.p (Z5 d), .p (pairP a b), .p (Z1 p)] [] = some (.p (.bool true), s) := by
 have hfe := fun π => Za5 (π := π) d
 have hde := fun π => Z5h (π := π) d hd
 rw [hf] at hfe
 unfold Z5 at hfe hde
 generalize (desE d).2 = E at *
 refine ⟨[], ?_⟩
 simp [Z7, Z0, Z6, Z5, hw, hfe, hde, Z4]
theorem mts_long (d : Des) (hd : DesAny d) (a b : Int) (p : List Int) (hw : Zbb [17]) (hf : fewD d = true) (hl : 20 < p.length) : ∃ s, EE [] Zh [.p (Z5 d), .p (pairP a b), .p (Z1 p)] [] = some (.p (.bool true), s) := by
 have hfe := fun π => Za5 (π := π) d
 have hde := fun π => Z5h (π := π) d hd
 rw [hf] at hfe
 have hli : (20 : Int) < p.length := by omega
 unfold Z5 at hfe hde
 generalize (desE d).2 = E at *
 refine ⟨[], ?_⟩
 simp [Z7, Z0, Z6, Z5, hw, hfe, hde, hl, hli, Z4]
theorem mts_bits (d : Des) (hd : DesOk d) (a b : Int) (p : List Int) (hw : Zbb [17]) (hf : fewD d = true) (hl : p.length ≤ 20) (h0 : (desE d).2 = 0) (hb : 8 < sumI (dlv d)) (hb2 : sumI (dlv d) ≤ 12) : ∃ s, EE [] Zh [.p (Z5 d), .p (pairP a b), .p (Z1 p)] [] = some (.p (.bool true), s) := by
 have hv := Z9e h0
 have hlw := (Yc hv.check).2.2
 have hll := Lv d
 have hl40 := hv.ll
 have hfe := fun π => Za5 (π := π) d
 have hde := fun π => Z3o (π := π) d hd
 have hae := fun π => Zi6 (π := π) d hd hv
 have hlv := fun π => Z07 (π := π) d hd.inputs hd.elements
 have hab := fun π => Z5j (π := π) (dlv d) hlw (by omega)
 have hallz : allE d = 0 := by unfold allE; rw [if_neg (by omega)]
 rw [hf] at hfe
 have hli : ¬ (20 : Int) < p.length := by omega
 have hln : ¬ 20 < p.length := by omega
 rw [h0] at hde
 rw [hallz] at hae
 unfold Z5 at hfe hde hae hlv
 generalize sumI (dlv d) = S at *
 refine ⟨[], ?_⟩
 simp [Z7, Z0, Z6, Z5, hw, hfe, hde, hli, hln, hae, hlv, hab, hb, Z4]
theorem mts_err (d : Des) (hd : DesOk d) (a b : Int) (p : List Int) (hw : Zbb [17]) (hf : fewD d = true) (hl : p.length ≤ 20) (h0 : ¬ (desE d).2 = 0) : ∃ s, EE [] Zh [.p (Z5 d), .p (pairP a b), .p (Z1 p)] [] = some (.p (.bool true), s) := by
 have hfe := fun π => Za5 (π := π) d
 have hde := fun π => Z3o (π := π) d hd
 have hcp := fun π => Z5i (π := π) d hd
 have hci := fun π => Hf (π := π) (ints p) (by simp only [List.length_map, room]; omega)
 have hma := fun π => Z7e (π := π) d hd a b p (by omega)
 have hmf := fun π => Z5f (π := π) d hd a b
 have h2 : twoE d a b = (desE d).2 := by rw [Zgt, if_neg h0]
 have h3 : matA d a b p = (false, (desE d).2) := by unfold matA; rw [h2, if_pos (by simpa using h0)]
 have h4 : mfE d a b = (desE d).2 := by unfold mfE; rw [h2]; simp only [Z9, h0, if_false]
 have h5 : mfP d a b = .tup [.sl 1 (some true) [], I (desE d).2] := by unfold mfP; rw [h4, if_pos (by simpa using h0)]
 rw [hf] at hfe
 rw [h3] at hma
 rw [h5] at hmf
 have hli : ¬ (20 : Int) < p.length := by omega
 have hln : ¬ 20 < p.length := by omega
 unfold Z5 at hfe hde hcp hma hmf
 generalize (desE d).2 = E at *
 refine ⟨[], ?_⟩
 simp [Z7, Z0, Z6, Z5, hw, hfe, hde, hli, hln, hcp, hci, hma, hmf, h0, Z4, Yk, Xd, Xe]
theorem mts_pair (d : Des) (hd : DesOk d) (a b : Int) (p : List Int) (hw : Zbb [17]) (hf : fewD d = true) (hl : p.length ≤ 20) (h0 : (desE d).2 = 0) (hb : ¬ (8 < sumI (dlv d) ∧ sumI (dlv d) ≤ 12)) (h1 : ¬ pairE d a b = 0) : ∃ s, EE [] Zh [.p (Z5 d), .p (pairP a b), .p (Z1 p)] [] = some (.p (.bool true), s) := by
 have hv := Z9e h0
 have hlw := (Yc hv.check).2.2
 have hll := Lv d
 have hl40 := hv.ll
 have hfe := fun π => Za5 (π := π) d
 have hde := fun π => Z3o (π := π) d hd
 have hae := fun π => Zi6 (π := π) d hd hv
 have hlv := fun π => Z07 (π := π) d hd.inputs hd.elements
 have hab := fun π => Z5j (π := π) (dlv d) hlw (by omega)
 have hcp := fun π => Z5i (π := π) d hd
 have hci := fun π => Hf (π := π) (ints p) (by simp only [List.length_map, room]; omega)
 have hma := fun π => Z7e (π := π) d hd a b p (by omega)
 have hmf := fun π => Z5f (π := π) d hd a b
 have hpe := fun π => e_PairErr (π := π) d hd.rules a b
 have h2 : twoE d a b = pairE d a b := by rw [Zgt, if_pos h0]
 have h3 : matA d a b p = (false, pairE d a b) := by unfold matA; rw [h2, if_pos (by simpa using h1)]
 have h4 : mfE d a b = pairE d a b := by unfold mfE; rw [h2]; simp only [Z9, h1, if_false]
 have h5 : mfP d a b = .tup [.sl 1 (some true) [], I (pairE d a b)] := by unfold mfP; rw [h4, if_pos (by simpa using h1)]
 rw [hf] at hfe
 rw [h3] at hma
 rw [h5] at hmf
 have hli : ¬ (20 : Int) < p.length := by omega
 have hln : ¬ 20 < p.length := by omega
 rw [h0] at hde
 unfold Z5 at hfe hde hae hlv hcp hma hmf hpe
 generalize pairE d a b = E at *
 refine ⟨[], ?_⟩
 by_cases h12 : 12 < sumI (dlv d)
 ·have hallz : allE d = 8 := by unfold allE; rw [if_pos h12]
  rw [hallz] at hae
  simp [Z7, Z0, Z6, Z5, hw, hfe, hde, hli, hln, hae, hcp, hci, hma, hmf, hpe, h1, Z4, Yk, Xd, Xe]
 ·have hallz : allE d = 0 := by unfold allE; rw [if_neg h12]
  have h8 : ¬ 8 < sumI (dlv d) := by omega
  rw [hallz] at hae
  generalize sumI (dlv d) = S at *
  simp [Z7, Z0, Z6, Z5, hw, hfe, hde, hli, hln, hae, hlv, hab, h8, hcp, hci, hma, hmf, hpe, h1, Z4, Yk, Xd, Xe]
theorem free_no {d : Des} (h0 : (desE d).2 = 0) {a b : Int} (ha : 0 ≤ a ∧ a < (d.rules.length : Int)) (hb : 0 ≤ b ∧ b < (d.rules.length : Int)) (hab : a ≠ b) (hr : relI d a b = 0) (p : List Int) : matB d (rulAt d a) (rulAt d b) p = false := by
 have hv := Z9e h0
 rw [relI_diff d a b hab] at hr
 have ma := List.mem_of_getElem? (W4 ha.1 ha.2)
 have mb := List.mem_of_getElem? (W4 hb.1 hb.2)
 have hk := desKind h0
 have hc := fun h1 h2 h3 => free_comm hv hk ma mb h1 h2 h3 p
 unfold relR at hr
 generalize mpR d (rulAt d a) (rulAt d b) = t at *
 generalize mpR d (rulAt d b) (rulAt d a) = k at *
 generalize bothB (rulAt d a) (rulAt d b) = o at *
 unfold matB
 cases t <;> cases k <;> cases o <;> simp at hr
 rw [hc rfl rfl rfl]
 simp
theorem fstP_mat {d : Des} {ra rb : Rul} {p : List Int} : ∀ (m k : Nat), fstP d ra rb m k = some p → matB d ra rb p = true ∧ ∃ j, p = pntD (dlv d) j
 | 0, _, h => by simp [fstP] at h
 | m + 1, k, h => by
  rw [fstP] at h
  split at h
  ·rename_i hc
   simp only [Option.some.injEq] at h
   rw [Bool.and_eq_true] at hc
   exact ⟨h ▸ hc.2, k, h.symm⟩
  ·exact fstP_mat m (k + 1) h
set_option maxHeartbeats 4000000 in
theorem mts_ok (d : Des) (hd : DesOk d) (a b : Int) (p : List Int) (hw : Zbb [17]) (hf : fewD d = true) (hl : p.length ≤ 20) (h0 : (desE d).2 = 0) (hb : ¬ (8 < sumI (dlv d) ∧ sumI (dlv d) ≤ 12)) (h1 : pairE d a b = 0) : ∃ s, EE [] Zh [.p (Z5 d), .p (pairP a b), .p (Z1 p)] [] = some (.p (.bool true), s) := by
 have hv := Z9e h0
 have hlw := (Yc hv.check).2.2
 have hll := Lv d
 have hl40 := hv.ll
 have hfe := fun π => Za5 (π := π) d
 have hde := fun π => Z3o (π := π) d hd
 have hae := fun π => Zi6 (π := π) d hd hv
 have hlv := fun π => Z07 (π := π) d hd.inputs hd.elements
 have hab := fun π => Z5j (π := π) (dlv d) hlw (by omega)
 have hcp := fun π => Z5i (π := π) d hd
 have hci := fun π => Hf (π := π) (ints p) (by simp only [List.length_map, room]; omega)
 have hma := fun π => Z7e (π := π) d hd a b p (by omega)
 have hmf := fun π => Z5f (π := π) d hd a b
 have hpe := fun π => e_PairErr (π := π) d hd.rules a b
 have hpo := fun π => e_PointErr (π := π) d hd hv p (by omega)
 have h2 : twoE d a b = 0 := by rw [Zgt, if_pos h0, h1]
 obtain ⟨_, ⟨a0, a1⟩, ⟨b0, b1⟩, hne⟩ := two_z h2
 have hrl := fun π => e_RelRI (π := π) d hd h0 a b hne a0 a1 b0 b1
 have hfr := fun h => free_no h0 ⟨a0, a1⟩ ⟨b0, b1⟩ hne h
 have hwe := wsm_eq hlw (by omega) (dlv d).length (Nat.le_refl _)
 rw [List.take_length] at hwe
 rw [hf] at hfe
 have hli : ¬ (20 : Int) < p.length := by omega
 have hln : ¬ 20 < p.length := by omega
 rw [h0] at hde
 rw [h1] at hpe
 have hM : matA d a b p = (if Yl (dlv d) p ≠ 0 then (false, Yl (dlv d) p) else if meetB d (rulAt d a) (rulAt d b) p = true then (matB d (rulAt d a) (rulAt d b) p, 0) else (false, 20)) := by
  unfold matA; rw [if_neg (by simp [h2])]
 rw [hM] at hma
 have hsec : ∀ (P : Prop), (Yl (dlv d) p ≠ 0 → P) → (Yl (dlv d) p = 0 → meetB d (rulAt d a) (rulAt d b) p = false → P) → (Yl (dlv d) p = 0 → meetB d (rulAt d a) (rulAt d b) p = true → P) → P := fun P q1 q2 q3 => by
  by_cases hz : Yl (dlv d) p = 0
  ·cases hm : meetB d (rulAt d a) (rulAt d b) p with
   | true => exact q3 hz hm
   | false => exact q2 hz hm
  ·exact q1 hz
 have hme := fun (h : Yl (dlv d) p = 0) π => e_MeetsR (π := π) d hd hv a b _ _ (W4 a0 a1) (W4 b0 b1) a0 a1 b0 b1 p (Z8t h)
 have hmt := fun (h : Yl (dlv d) p = 0) π => Zgi (π := π) d hd hv a b _ _ (W4 a0 a1) (W4 b0 b1) a0 a1 b0 b1 p (Z8t h)
 have hfm := fun h => hfr h p
 unfold Z5 at hfe hde hae hlv hcp hma hmf hpe hpo hrl hme hmt
 refine ⟨[], ?_⟩
 by_cases h12 : 12 < sumI (dlv d)
 ·have hallz : allE d = 8 := by unfold allE; rw [if_pos h12]
  have h4 : mfE d a b = 8 := by unfold mfE; rw [h2, hwe, decide_eq_false (by omega)]; rfl
  have h5 : mfP d a b = .tup [.sl 1 (some true) [], I 8] := by unfold mfP; rw [h4, if_pos (by decide)]
  rw [hallz] at hae
  rw [h5] at hmf
  generalize relI d a b = R at *
  generalize matB d (rulAt d a) (rulAt d b) p = T at *
  generalize meetB d (rulAt d a) (rulAt d b) p = M at *
  generalize Yl (dlv d) p = V at *
  clear hM
  refine hsec _ (fun q => ?_) (fun q1 q2 => ?_) (fun q1 q2 => ?_)
  ·simp only [q, ne_eq, not_false_eq_true, if_true] at hma
   by_cases hR : R = 0
   ·simp [Z7, Z0, Z6, Z5, hw, hfe, hde, hli, hln, hae, hcp, hci, hma, hmf, hpe, hrl, hR, hpo, q, Z4, Yk, Xd, Xe]
   ·simp [Z7, Z0, Z6, Z5, hw, hfe, hde, hli, hln, hae, hcp, hci, hma, hmf, hpe, hrl, hR, hpo, q, Z4, Yk, Xd, Xe]
  ·have hme := hme q1
   subst q1 q2
   simp only [ne_eq, not_true, if_false, Bool.false_eq_true] at hma
   by_cases hR : R = 0
   ·simp [Z7, Z0, Z6, Z5, hw, hfe, hde, hli, hln, hae, hcp, hci, hma, hmf, hpe, hrl, hR, hpo, hme, Z4, Yk, Xd, Xe]
   ·simp [Z7, Z0, Z6, Z5, hw, hfe, hde, hli, hln, hae, hcp, hci, hma, hmf, hpe, hrl, hR, hpo, hme, Z4, Yk, Xd, Xe]
  ·have hme := hme q1
   have hmt := hmt q1
   subst q1 q2
   simp only [ne_eq, not_true, if_false, if_true] at hma
   by_cases hR : R = 0
   ·have hT := hfm hR
    subst hT
    simp [Z7, Z0, Z6, Z5, hw, hfe, hde, hli, hln, hae, hcp, hci, hma, hmf, hpe, hrl, hR, hpo, hme, hmt, Z4, Yk, Xd, Xe]
   ·simp [Z7, Z0, Z6, Z5, hw, hfe, hde, hli, hln, hae, hcp, hci, hma, hmf, hpe, hrl, hR, hpo, hme, hmt, Z4, Yk, Xd, Xe]
 ·have h8 : ¬ 8 < sumI (dlv d) := by omega
  have hallz : allE d = 0 := by unfold allE; rw [if_neg h12]
  have hFR := fun π => e_FirstR (π := π) d hd hv a b _ _ (W4 a0 a1) (W4 b0 b1) a0 a1 b0 b1 (by omega)
  have h4 : mfE d a b = 0 := by unfold mfE; rw [h2, hwe, decide_eq_true (by omega)]; rfl
  have h5 : mfP d a b = (match fstP d (rulAt d a) (rulAt d b) (2 ^ (sumI (dlv d)).toNat) 0 with
   | some p => .tup [.sl 1 (some false) (ints p), I 0]
   | none => .tup [.sl 1 (some true) [], I 12]) := by
   unfold mfP
   rw [h4, if_neg (by simp)] <;> (cases fstP d (rulAt d a) (rulAt d b) (2 ^ (sumI (dlv d)).toNat) 0 <;> rfl)
  rw [hallz] at hae
  rw [h5] at hmf
  unfold Z5 at hFR
  cases hF : fstP d (rulAt d a) (rulAt d b) (2 ^ (sumI (dlv d)).toNat) 0 with
  | none =>
   rw [hF] at hFR hmf
   generalize relI d a b = R at *
   generalize matB d (rulAt d a) (rulAt d b) p = T at *
   generalize meetB d (rulAt d a) (rulAt d b) p = M at *
   generalize Yl (dlv d) p = V at *
   generalize sumI (dlv d) = S at *
   clear hM
   refine hsec _ (fun q => ?_) (fun q1 q2 => ?_) (fun q1 q2 => ?_)
   ·simp only [q, ne_eq, not_false_eq_true, if_true] at hma
    by_cases hR : R = 0
    ·simp [Z7, Z0, Z6, Z5, hw, hfe, hde, hli, hln, hae, hlv, hab, h8, hcp, hci, hma, hmf, hpe, hrl, hR, hFR, hpo, q, Z4, Yk, Xd, Xe]
    ·simp [Z7, Z0, Z6, Z5, hw, hfe, hde, hli, hln, hae, hlv, hab, h8, hcp, hci, hma, hmf, hpe, hrl, hR, hFR, hpo, q, Z4, Yk, Xd, Xe]
   ·have hme := hme q1
    subst q1 q2
    simp only [ne_eq, not_true, if_false, Bool.false_eq_true] at hma
    by_cases hR : R = 0
    ·simp [Z7, Z0, Z6, Z5, hw, hfe, hde, hli, hln, hae, hlv, hab, h8, hcp, hci, hma, hmf, hpe, hrl, hR, hFR, hpo, hme, Z4, Yk, Xd, Xe]
    ·simp [Z7, Z0, Z6, Z5, hw, hfe, hde, hli, hln, hae, hlv, hab, h8, hcp, hci, hma, hmf, hpe, hrl, hR, hFR, hpo, hme, Z4, Yk, Xd, Xe]
   ·have hme := hme q1
    have hmt := hmt q1
    subst q1 q2
    simp only [ne_eq, not_true, if_false, if_true] at hma
    by_cases hR : R = 0
    ·have hT := hfm hR
     subst hT
     simp [Z7, Z0, Z6, Z5, hw, hfe, hde, hli, hln, hae, hlv, hab, h8, hcp, hci, hma, hmf, hpe, hrl, hR, hFR, hpo, hme, hmt, Z4, Yk, Xd, Xe]
    ·simp [Z7, Z0, Z6, Z5, hw, hfe, hde, hli, hln, hae, hlv, hab, h8, hcp, hci, hma, hmf, hpe, hrl, hR, hFR, hpo, hme, hmt, Z4, Yk, Xd, Xe]
  | some f =>
   rw [hF] at hFR hmf
   obtain ⟨k1, j, k2⟩ := fstP_mat _ _ hF
   have hfl : f.length = (dlv d).length := by rw [k2]; exact (pntD_ok hlw j).len
   have hI := fun π => e_Ints (π := π) f f (by simp only [top63]; omega)
   simp only [decide_true] at hI
   have hR : ¬ relI d a b = 0 := fun h => by have := hfr h f; rw [k1] at this; simp at this
   generalize relI d a b = R at *
   generalize matB d (rulAt d a) (rulAt d b) p = T at *
   generalize meetB d (rulAt d a) (rulAt d b) p = M at *
   generalize Yl (dlv d) p = V at *
   generalize sumI (dlv d) = S at *
   clear hM
   refine hsec _ (fun q => ?_) (fun q1 q2 => ?_) (fun q1 q2 => ?_)
   ·simp only [q, ne_eq, not_false_eq_true, if_true] at hma
    simp [Z7, Z0, Z6, Z5, hw, hfe, hde, hli, hln, hae, hlv, hab, h8, hcp, hci, hma, hmf, hpe, hrl, hR, hFR, hpo, hI, q, Z4, Yk, Xd, Xe]
   ·have hme := hme q1
    subst q1 q2
    simp only [ne_eq, not_true, if_false, Bool.false_eq_true] at hma
    simp [Z7, Z0, Z6, Z5, hw, hfe, hde, hli, hln, hae, hlv, hab, h8, hcp, hci, hma, hmf, hpe, hrl, hR, hFR, hpo, hI, hme, Z4, Yk, Xd, Xe]
   ·have hme := hme q1
    have hmt := hmt q1
    subst q1 q2
    simp only [ne_eq, not_true, if_false, if_true] at hma
    simp [Z7, Z0, Z6, Z5, hw, hfe, hde, hli, hln, hae, hlv, hab, h8, hcp, hci, hma, hmf, hpe, hrl, hR, hFR, hpo, hI, hme, hmt, Z4, Yk, Xd, Xe]
open Go Go.ChangeShapes Go.WideShapes
theorem arg_len {H : Type} {enc : TypeId × Value → H} {P : Program} {w : World} {base : Nat} {spare : Nat → Bool} {held : Bool} {t : TypeId} {v : Value} {d : DataW H} {ps : List MemPlace} {fs : Array Field} (h : DataW.Trod enc P w base spare held t v d ps) (ht : P.underlying t = some (.struct fs))
  {i : Nat} {f : Field} (hf : fs[i]? = some f) {e : TypeId} (hu : P.underlying f.type = some (.slice e)) (hc : P.cellsOf f.type = 1) (hb : 1 ≤ P.bytesOf e) (hw : ∀ n ∈ d.weights P t, n ≤ reachBytes)
  {xs : List PV} (hr : Rep w noX v (.agg xs)) {sz : Nat} {nl : Option Bool} {l : List PV} (hx : xs[f.offset]? = some (.sl sz nl l)) : l.length ≤ reachBytes := by
 obtain ⟨fuel, hfl⟩ := h
 obtain ⟨ys, n, _, hd, hcl, hyl, hat⟩ := DataW.trod_struct ht hfl
 have hil : i < ys.length := by have := (Array.getElem?_eq_some_iff.1 hf).1; omega
 have hy := hat i f hf
 rw [hc, List.getElem?_eq_getElem hil] at hy
 cases hr with
 | agg cs xs hl hre =>
  have hcv : (Value.agg cs).cells.toList = cs.toList := rfl
  rw [hcv] at hy
  have hol : f.offset < cs.toList.length := by
   have := (List.getElem?_eq_some_iff.1 hx).1
   simp at hl ⊢; omega
  have htk : (cs.toList.drop f.offset).take 1 = [cs.toList[f.offset]] := by
   rw [List.drop_eq_getElem_cons hol]; rfl
  rw [htk] at hy
  have hcs : cs[f.offset]? = some cs.toList[f.offset] := by
   rw [← Array.getElem?_toList]
   exact List.getElem?_eq_getElem hol
  have hrep := hre f.offset _ _ hcs hx
  obtain ⟨b, cap, hv⟩ := Zcu hrep
  rcases DataW.trod_slice hu hy with ⟨h1, _⟩ | ⟨a, len, cap', elems, rest, n', _, h1, h2, _, _, _, hel, _⟩
  ·rw [hv] at h1
   simp only [List.cons.injEq, Value.slice.injEq, and_true] at h1
   rw [h1.2.1]; exact Nat.zero_le _
  ·rw [hv] at h1
   simp only [List.cons.injEq, Value.slice.injEq, and_true] at h1
   have hdd : d = .agg (ys.map (·.1)) := congrArg Prod.fst hd
   have hm : (elems.length + rest.length) * P.bytesOf e ∈ d.weights P t := by
    rw [hdd]
    simp only [DataW.weights, ht]
    refine DataW.weights_mem_each (j := i) (t := f.type) (d := .slice (elems.map (·.1)) (rest.map (·.1))) (by simp [hf]) (by rw [List.getElem?_map, List.getElem?_eq_getElem hil, h2]; rfl) _ (by simp [DataW.weights, hu])
   have h3 := hw _ hm
   have h4 : elems.length + rest.length ≤ (elems.length + rest.length) * P.bytesOf e := Nat.le_mul_of_pos_right _ hb
   omega
end Go.Proofs.YteecfnfjlclhdaaGreat.V
