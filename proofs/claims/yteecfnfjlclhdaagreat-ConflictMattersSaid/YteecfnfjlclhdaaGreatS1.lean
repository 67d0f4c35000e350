/- Small functions: graph's, the base's. The operations. Which widths fit; the error of a node's value. The error of a node; of a graph. Numbers bit by bit: what the operations of nodes compute. The operations of nodes, in the evaluator. What each operation computes. What a node's operation computes, b -/
import Derived.Test.YteecfnfjlclhdaaGreatT2

set_option linter.unusedSimpArgs false
set_option linter.unusedVariables false

/- Small functions: graph's, the base's. -/
namespace Go.Proofs.YteecfnfjlclhdaaGreat.V
open Go (IntKind BinOp UnOp)
variable {π : Id}
abbrev I (n : Int) : PV := .int .i64 n
abbrev ints (l : List Int) : List PV := l.map I
abbrev Z1 (l : List Int) : PV := .sl 1 none (ints l)
abbrev ok64 (n : Int) : Prop := -9223372036854775808 ≤ n ∧ n ≤ 9223372036854775807
abbrev top63 : Nat := 9223372036854775807
theorem w64 {n : Int} (h : ok64 n) : IntKind.i64.wrap n = n := L6 h.1 h.2
theorem Zf {n m : Nat} (h : n < m) (hm : m ≤ top63) : IntKind.i64.wrap ((n : Int) + 1) = (n : Int) + 1 := L6 (by omega) (by simp only [top63] at hm; omega)
def Z8 (n lo hi : Int) : Bool := decide (lo ≤ n) && decide (n ≤ hi)
theorem X9 (a b c : Int) : EE π Ye [.p (I a), .p (I b), .p (I c)] [] = some (.p (.bool (Z8 a b c)), []) := by
 by_cases h : b ≤ a <;> simp [e_rb_Within, Z0, Z7j, Z8, h]
theorem Z2x (a b c : Int) : EE π V9 [.p (I a), .p (I b), .p (I c)] [] = some (.p (.bool (Z8 a b c)), []) := by
 by_cases h : b ≤ a <;> simp [e_gr_within, Z0, Z7o, Z8, h]
def unlE (b : Bool) (e : Int) : Int := if b then 0 else e
theorem Yz (a : Bool) (c : Int) : EE π Yf [.p (.bool a), .p (I c)] [] = some (.p (I (unlE a c)), []) := by
 cases a <;> simp [e_gr_unless, Z0, Z7q, unlE]
def Z9 : List Int → Int
 | [] => 0
 | x :: l => if x = 0 then Z9 l else x
theorem Zde (l : List Int) (hl : l.length ≤ top63) : ∀ (suf pre : List Int) (x : Env × Sto), l = pre ++ suf → mask [5, 6, 7] [] x = some ([(5, .p (Z1 l)), (6, .p (I l.length)), (7, .p (I pre.length))], []) →
  kpO [] [2] [] (bkO 0 (iter (round EE iter π [] [5, 6, 7] Z42) x)) = (if Z9 suf = 0 then some (.nm, [], []) else some (.rt, [(2, .p (I (Z9 suf)))], []))
 | [], pre, x, h, hm => by
  rw [Z3 hm]
  subst h
  simp [Z38, Kq, Z9]
 | y :: suf, pre, x, h, hm => by
  rw [Z3 hm]
  by_cases hy : y = 0
  ·simp [Z38, Kq, Zc h, Y3 _ h, hy, Z9]
   exact Zde l hl suf (pre ++ [y]) _ (by simp [h]) (by simp [Zf (show pre.length < l.length by have := Zc h; omega) hl])
  ·simp [Z38, Kq, Zc h, Y3 _ h, hy, Z9]
theorem e_firstG (l : List Int) (hl : l.length ≤ top63) : EE π Pf [.p (Z1 l)] [] = some (.p (I (Z9 l)), []) := by
 simp [e_gr_first, Z0, Zal]
 rw [Zde l hl l [] _ rfl (by simp)]
 by_cases hf : Z9 l = 0 <;> simp [hf]
theorem e_Bit (b : Bool) : EE π Z63 [.p (.bool b)] [] = some (.p (I (if b then 1 else 0)), []) := by
 cases b <;> simp [e_rb_Bit, Z0, Zid]
theorem Zi0 (n : Int) (h : 0 ≤ n) : EE π Xg [.p (I n)] [] = some (.p (I (IntKind.i64.wrap (2 ^ (min n.toNat 64)))), []) := by
 have : ¬ n < 0 := by omega
 simp [e_rb_Power, Z0, Za8, this, IntKind.bits]
theorem Hf (l : List PV) (h : l.length ≤ room) : EE π V1 [.p (.sl 1 none l)] [] = some (.ap (3 :: π), [(3 :: π, .row false t_int 1 (some false) l)]) := by
 simp [Zhn, Z0, Z3w, h]
theorem ints_loop (a b : List Int) (hab : a.length = b.length) (hl : a.length ≤ top63) : ∀ (sa sb pa pb : List Int) (x : Env × Sto), a = pa ++ sa → b = pb ++ sb → pa.length = pb.length → mask [0, 1, 5] [] x = some ([(0, .p (Z1 a)), (1, .p (Z1 b)), (5, .p (I pa.length))], []) →
  kpO [] [4] [] (bkO 0 (iter (round EE iter π [] [0, 1, 5] Z5o) x)) = (if sa = sb then some (.nm, [], []) else some (.rt, [(4, .p (.bool false))], []))
 | [], sb, pa, pb, x, h, k, hp, hm => by
  rw [Z3 hm]
  have : sb = [] := by
   have h1 := congrArg List.length h
   have h2 := congrArg List.length k
   simp at h1 h2
   cases sb with
   | nil => rfl
   | cons y r => simp at h2; omega
  subst this
  subst h
  simp [Z4q, Gk]
 | y :: sa, [], pa, pb, x, h, k, hp, hm => by
  have h1 := congrArg List.length h
  have h2 := congrArg List.length k
  simp at h1 h2
  omega
 | y :: sa, z :: sb, pa, pb, x, h, k, hp, hm => by
  rw [Z3 hm]
  have g2 : (ints b)[pa.length]? = some (I z) := by rw [hp]; exact Y3 _ k
  by_cases hy : y = z
  ·subst hy
   simp [Z4q, Gk, Zc h, Y3 _ h, g2]
   exact ints_loop a b hab hl sa sb (pa ++ [y]) (pb ++ [y]) _ (by simp [h]) (by simp [k]) (by simp [hp]) (by simp [Zf (show pa.length < a.length by have := Zc h; omega) hl])
  ·simp [Z4q, Gk, Zc h, Y3 _ h, g2, hy]
theorem e_Ints (a b : List Int) (ha : a.length ≤ top63) : EE π Qr [.p (Z1 a), .p (Z1 b)] [] = some (.p (.bool (decide (a = b))), []) := by
 by_cases hab : a.length = b.length
 ·simp [e_rb_Ints, Z0, Z9g, hab]
  rw [ints_loop a b hab ha a b [] [] _ rfl rfl rfl (by simp)]
  by_cases hf : a = b <;> simp [hf]
 ·have : ¬ a = b := fun h => hab (by rw [h])
  have h2 : ¬ (a.length : Int) = b.length := by omega
  simp [e_rb_Ints, Z0, Z9g, this, h2]
theorem Zp (x : Int) (l : List Int) : Z9 (x :: l) = 0 ↔ x = 0 ∧ Z9 l = 0 := by
 simp only [Z9]
 split
 ·rename_i h; simp [h]
 ·rename_i h; simp [h]
theorem Qc {b : Bool} {c : Int} (hc : c ≠ 0) : unlE b c = 0 ↔ b = true := by
 cases b <;> simp [unlE, hc]
theorem Zb {n lo hi : Int} : Z8 n lo hi = true ↔ lo ≤ n ∧ n ≤ hi := by simp [Z8]
def idxOf {α : Type} (p : α → Bool) : Nat → List α → Int
 | _, [] => -1
 | i, x :: r => if p x then i else idxOf p (i + 1) r
theorem Zhd {α : Type} (p : α → Bool) : ∀ (i : Nat) (l : List α), decide (0 ≤ idxOf p i l) = l.any p
 | _, [] => by simp [idxOf]
 | i, x :: r => by
  simp only [idxOf, List.any_cons]
  by_cases h : p x = true
  ·simp [h]
  ·simp only [h, if_false, Bool.false_eq_true]
   rw [Zhd p (i + 1) r]; simp
theorem idx_loopI (l : List Int) (hl : l.length ≤ top63) {f : Nat} {caps : List PV} {p : Int → Bool} (hp : ∀ x ∈ l, EE (16 :: π) f (.p (I x) :: caps.map fun v => AV.p v.fg) [] = some (.p (.bool (p x)), [])) :
  ∀ (suf pre : List Int) (x : Env × Sto), l = pre ++ suf → mask [0, 1, 7, 8] [] x = some ([(0, .p (Z1 l)), (1, .p (.fn f caps)), (7, .p (I l.length)), (8, .p (I pre.length))], []) →
  kpO [] [4] [] (bkO 0 (iter (round EE iter π [] [0, 1, 7, 8] M6) x)) = (if idxOf p pre.length suf = -1 then some (.nm, [], []) else some (.rt, [(4, .p (I (idxOf p pre.length suf)))], []))
 | [], pre, x, h, hm => by
  rw [Z3 hm]
  subst h
  simp [Nv, Wk, idxOf]
 | y :: suf, pre, x, h, hm => by
  rw [Z3 hm]
  have hy := hp y (by rw [h]; simp)
  by_cases hpy : p y = true
  ·rw [hpy] at hy
   have : ¬ ((pre.length : Int) = -1) := by omega
   simp [Nv, Wk, Zc h, Y3 _ h, hy, hpy, idxOf, this]
  ·have hpf : p y = false := by simpa using hpy
   rw [hpf] at hy
   simp [Nv, Wk, Zc h, Y3 _ h, hy, hpf, idxOf]
   rw [show pre.length + 1 = (pre ++ [y]).length by simp]
   exact idx_loopI l hl hp suf (pre ++ [y]) _ (by simp [h]) (by simp [Zf (show pre.length < l.length by have := Zc h; omega) hl])
theorem e_IxFI (l : List Int) (hl : l.length ≤ top63) {f : Nat} {caps : List PV} {p : Int → Bool} (hp : ∀ x ∈ l, EE (16 :: π) f (.p (I x) :: caps.map fun v => AV.p v.fg) [] = some (.p (.bool (p x)), [])) :
  EE π U0 [.p (Z1 l), .p (.fn f caps)] [] = some (.p (I (idxOf p 0 l)), []) := by
 simp [Zbq, Z0, Gv]
 rw [idx_loopI l hl hp l [] _ rfl (by simp)]
 by_cases hf : idxOf p 0 l = -1 <;> simp [hf]
theorem fgfg : ∀ (x : PV), x.fg.fg = x.fg := by
 intro x
 have key : ∀ (n : Nat), (∀ x : PV, SizeOf.sizeOf x < n → x.fg.fg = x.fg) ∧ (∀ l : List PV, SizeOf.sizeOf l < n → PV.fg.PV.fgL (PV.fg.PV.fgL l) = PV.fg.PV.fgL l) := by
  intro n
  induction n with
  | zero => exact ⟨fun x h => by omega, fun l h => by omega⟩
  | succ n ih =>
   refine ⟨fun x h => ?_, fun l h => ?_⟩
   ·cases x <;> simp only [PV.fg] <;> simp at h <;> rw [ih.2 _ (by omega)]
   ·cases l with
    | nil => rfl
    | cons a r => simp only [PV.fg.PV.fgL]; simp at h; rw [ih.1 a (by omega), ih.2 r (by omega)]
 exact (key (SizeOf.sizeOf x + 1)).1 x (by omega)
@[simp] theorem fgfgL (l : List PV) : PV.fg.PV.fgL (PV.fg.PV.fgL l) = PV.fg.PV.fgL l := by
 induction l with
 | nil => rfl
 | cons a r ih => simp [fgfg, ih]
theorem map_fgL (l : List PV) : (PV.fg.PV.fgL l).map (fun v => AV.p v.fg) = l.map fun v => AV.p v.fg := by
 induction l with
 | nil => rfl
 | cons a r ih => simp [fgfg, ih]
theorem e_CoFI (l : List Int) (hl : l.length ≤ top63) {f : Nat} {caps : List PV} {p : Int → Bool} (hp : ∀ x ∈ l, EE (16 :: 7 :: π) f (.p (I x) :: caps.map fun v => AV.p v.fg) [] = some (.p (.bool (p x)), [])) :
  EE π Yn [.p (Z1 l), .p (.fn f caps)] [] = some (.p (.bool (l.any p)), []) := by
 have h := e_IxFI (π := 7 :: π) l hl (f := f) (caps := PV.fg.PV.fgL caps) (p := p) (by rw [map_fgL]; exact hp)
 simp [Zbr, Z0, Gw, h, Zhd]
def eachE {α : Type} (err : Nat → α → Int) : Nat → List α → Int × Int
 | _, [] => (0, 0)
 | i, x :: r => if err i x = 0 then eachE err (i + 1) r else (i, err i x)
theorem Z58 {α : Type} (err : Nat → α → Int) : ∀ (i : Nat) (l : List α), (eachE err i l).2 = 0 → (eachE err i l).1 = 0
 | _, [], _ => rfl
 | i, x :: r, h => by
  simp only [eachE] at h ⊢
  split
  ·rename_i hx; rw [if_pos hx] at h; exact Z58 err (i + 1) r h
  ·rename_i hx; rw [if_neg hx] at h; exact absurd h hx
theorem Zg6 (l : List Int) (hl : l.length ≤ top63) {f : Nat} {caps : List PV} {err : Nat → Int → Int} (hp : ∀ (i : Nat) x, l[i]? = some x → EE (19 :: π) f (.p (I i) :: .p (I x) :: caps.map fun v => AV.p v.fg) [] = some (.p (I (err i x)), [])) :
  ∀ (suf pre : List Int) (x : Env × Sto), l = pre ++ suf → mask [1, 9, 10, 11] [] x = some ([(1, .p (.fn f caps)), (9, .p (Z1 l)), (10, .p (I l.length)), (11, .p (I pre.length))], []) →
  kpO [] [4, 5] [] (bkO 0 (iter (round EE iter π [] [1, 9, 10, 11] F4) x)) = (if (eachE err pre.length suf).2 = 0 then some (.nm, [], []) else some (.rt, [(4, .p (I (eachE err pre.length suf).1)), (5, .p (I (eachE err pre.length suf).2))], []))
 | [], pre, x, h, hm => by
  rw [Z3 hm]
  subst h
  simp [Gq, Ug, eachE]
 | y :: suf, pre, x, h, hm => by
  rw [Z3 hm]
  have hy := hp pre.length y (by rw [h]; simp)
  by_cases hpy : err pre.length y = 0
  ·simp [Gq, Ug, Zc h, Y3 _ h, hy, hpy, eachE]
   rw [show pre.length + 1 = (pre ++ [y]).length by simp]
   exact Zg6 l hl hp suf (pre ++ [y]) _ (by simp [h]) (by simp [Zf (show pre.length < l.length by have := Zc h; omega) hl])
  ·simp [Gq, Ug, Zc h, Y3 _ h, hy, hpy, eachE]
theorem e_eachG (l : List Int) (hl : l.length ≤ top63) {f : Nat} {caps : List PV} {err : Nat → Int → Int} (hp : ∀ (i : Nat) x, l[i]? = some x → EE (19 :: π) f (.p (I i) :: .p (I x) :: caps.map fun v => AV.p v.fg) [] = some (.p (I (err i x)), [])) :
  EE π Lm [.p (Z1 l), .p (.fn f caps)] [] = some (.p (.tup [I (eachE err 0 l).1, I (eachE err 0 l).2]), []) := by
 simp [Zhr, Z0, Z44]
 rw [Zg6 l hl hp l [] _ rfl (by simp)]
 by_cases hf : (eachE err 0 l).2 = 0
 ·have h1 : (eachE err 0 l).1 = 0 := Z58 err 0 l hf
  simp [hf, h1]
 ·simp [hf]
abbrev fn0 (k : Nat) : PV := .fn k []
abbrev binF (k : Nat) : PV := .fn Zo [.ptr [fn0 k]]
abbrev relF (k : Nat) : PV := .fn Y2 [.ptr [fn0 k]]
def opRow : Nat → List PV
 | 0 => [.str ⟨#[99, 111, 110, 115, 116]⟩, I 0, .bool true, fn0 Ya, fn0 U6]
 | 1 => [.str ⟨#[108, 101, 97, 102]⟩, I 0, .bool true, fn0 Ya, fn0 U6]
 | 2 => [.str ⟨#[110, 111, 116]⟩, I 1, .bool false, fn0 Zg, fn0 Gc]
 | 3 => [.str ⟨#[97, 110, 100]⟩, I 2, .bool false, fn0 Zg, binF N8]
 | 4 => [.str ⟨#[111, 114]⟩, I 2, .bool false, fn0 Zg, binF N7]
 | 5 => [.str ⟨#[120, 111, 114]⟩, I 2, .bool false, fn0 Zg, binF N6]
 | 6 => [.str ⟨#[97, 100, 100]⟩, I 2, .bool false, fn0 Zg, binF N5]
 | 7 => [.str ⟨#[115, 117, 98]⟩, I 2, .bool false, fn0 Zg, binF N4]
 | 8 => [.str ⟨#[109, 117, 108]⟩, I 2, .bool false, fn0 Zg, binF N3]
 | 9 => [.str ⟨#[101, 113]⟩, I 2, .bool false, fn0 Zq, relF N2]
 | 10 => [.str ⟨#[108, 116]⟩, I 2, .bool false, fn0 Zq, relF Um]
 | 11 => [.str ⟨#[115, 108, 116]⟩, I 2, .bool false, fn0 Zq, relF Ul]
 | 12 => [.str ⟨#[109, 117, 120]⟩, I 3, .bool false, fn0 Mu, fn0 Mt]
 | 13 => [.str ⟨#[106, 111, 105, 110]⟩, I 2, .bool false, fn0 Ms, fn0 Mr]
 | 14 => [.str ⟨#[115, 108, 105, 99, 101]⟩, I 1, .bool true, fn0 Mq, fn0 Mp]
 | 15 => [.str ⟨#[122, 101, 120, 116]⟩, I 1, .bool false, fn0 Y9, fn0 Mo]
 | 16 => [.str ⟨#[115, 101, 120, 116]⟩, I 1, .bool false, fn0 Y9, fn0 Mn]
 | 17 => [.str ⟨#[115, 104, 108]⟩, I 2, .bool false, fn0 Yp, fn0 Mm]
 | 18 => [.str ⟨#[115, 104, 114]⟩, I 2, .bool false, fn0 Yp, fn0 Ml]
 | _ => []
def opsPV : List PV := (List.range 19).flatMap opRow
theorem Z8j : opsPV.length = 95 := by decide
theorem ops_row : ∀ k, k < 19 → (opsPV.drop (k * 5)).take 5 = opRow k := by
 intro k hk
 match k, hk with
 | 0, _ => exact rfl
 | 1, _ => exact rfl
 | 2, _ => exact rfl
 | 3, _ => exact rfl
 | 4, _ => exact rfl
 | 5, _ => exact rfl
 | 6, _ => exact rfl
 | 7, _ => exact rfl
 | 8, _ => exact rfl
 | 9, _ => exact rfl
 | 10, _ => exact rfl
 | 11, _ => exact rfl
 | 12, _ => exact rfl
 | 13, _ => exact rfl
 | 14, _ => exact rfl
 | 15, _ => exact rfl
 | 16, _ => exact rfl
 | 17, _ => exact rfl
 | 18, _ => exact rfl
 | k + 19, h => exact absurd h (by omega)
set_option maxRecDepth 100000 in
theorem ops_fg : PV.fg.PV.fgL opsPV = opsPV := rfl
theorem e_binary (s : ByteArray) (k : Nat) : EE π Vt [.p (.str s), .p (fn0 k)] [] = some (.agg [.p (.str s), .p (I 2), .p (.bool false), .p (fn0 Zg), .fn Zo [.ref (3 :: π) 0]], [(3 :: π, .box false [.p (fn0 k)])]) := by
 simp [e_gr_binary, Z0, Z7t]
theorem e_relation (s : ByteArray) (k : Nat) : EE π Pe [.p (.str s), .p (fn0 k)] [] = some (.agg [.p (.str s), .p (I 2), .p (.bool false), .p (fn0 Zq), .fn Y2 [.ref (3 :: π) 0]], [(3 :: π, .box false [.p (fn0 k)])]) := by
 simp [Zho, Z0, Z40]
set_option maxRecDepth 100000 in
def opsA (π : Id) : AV := .agg [.p (.str ⟨#[99, 111, 110, 115, 116]⟩), .p (I 0), .p (.bool true), .p (fn0 Ya), .p (fn0 U6),
 .p (.str ⟨#[108, 101, 97, 102]⟩), .p (I 0), .p (.bool true), .p (fn0 Ya), .p (fn0 U6),
 .p (.str ⟨#[110, 111, 116]⟩), .p (I 1), .p (.bool false), .p (fn0 Zg), .p (fn0 Gc),
 .p (.str ⟨#[97, 110, 100]⟩), .p (I 2), .p (.bool false), .p (fn0 Zg), .fn Zo [.ref (3 :: 7 :: π) 0],
 .p (.str ⟨#[111, 114]⟩), .p (I 2), .p (.bool false), .p (fn0 Zg), .fn Zo [.ref (3 :: 8 :: π) 0],
 .p (.str ⟨#[120, 111, 114]⟩), .p (I 2), .p (.bool false), .p (fn0 Zg), .fn Zo [.ref (3 :: 9 :: π) 0],
 .p (.str ⟨#[97, 100, 100]⟩), .p (I 2), .p (.bool false), .p (fn0 Zg), .fn Zo [.ref (3 :: 10 :: π) 0],
 .p (.str ⟨#[115, 117, 98]⟩), .p (I 2), .p (.bool false), .p (fn0 Zg), .fn Zo [.ref (3 :: 11 :: π) 0],
 .p (.str ⟨#[109, 117, 108]⟩), .p (I 2), .p (.bool false), .p (fn0 Zg), .fn Zo [.ref (3 :: 12 :: π) 0],
 .p (.str ⟨#[101, 113]⟩), .p (I 2), .p (.bool false), .p (fn0 Zq), .fn Y2 [.ref (3 :: 13 :: π) 0],
 .p (.str ⟨#[108, 116]⟩), .p (I 2), .p (.bool false), .p (fn0 Zq), .fn Y2 [.ref (3 :: 14 :: π) 0],
 .p (.str ⟨#[115, 108, 116]⟩), .p (I 2), .p (.bool false), .p (fn0 Zq), .fn Y2 [.ref (3 :: 15 :: π) 0],
 .p (.str ⟨#[109, 117, 120]⟩), .p (I 3), .p (.bool false), .p (fn0 Mu), .p (fn0 Mt),
 .p (.str ⟨#[106, 111, 105, 110]⟩), .p (I 2), .p (.bool false), .p (fn0 Ms), .p (fn0 Mr),
 .p (.str ⟨#[115, 108, 105, 99, 101]⟩), .p (I 1), .p (.bool true), .p (fn0 Mq), .p (fn0 Mp),
 .p (.str ⟨#[122, 101, 120, 116]⟩), .p (I 1), .p (.bool false), .p (fn0 Y9), .p (fn0 Mo),
 .p (.str ⟨#[115, 101, 120, 116]⟩), .p (I 1), .p (.bool false), .p (fn0 Y9), .p (fn0 Mn),
 .p (.str ⟨#[115, 104, 108]⟩), .p (I 2), .p (.bool false), .p (fn0 Yp), .p (fn0 Mm),
 .p (.str ⟨#[115, 104, 114]⟩), .p (I 2), .p (.bool false), .p (fn0 Yp), .p (fn0 Ml)]
set_option maxRecDepth 100000 in
theorem Zbj : EE π Qt [] [] = some (opsA π, [(3 :: 15 :: π, .box false [.p (fn0 Ul)]), (3 :: 14 :: π, .box false [.p (fn0 Um)]), (3 :: 13 :: π, .box false [.p (fn0 N2)]), (3 :: 12 :: π, .box false [.p (fn0 N3)]), (3 :: 11 :: π, .box false [.p (fn0 N4)]), (3 :: 10 :: π, .box false [.p (fn0 N5)]), (3 :: 9 :: π, .box false [.p (fn0 N6)]), (3 :: 8 :: π, .box false [.p (fn0 N7)]), (3 :: 7 :: π, .box false [.p (fn0 N8)])]) := by
 simp [Zdv, Z0, Z0h, e_binary, e_relation, opsA]
@[simp] theorem opsA_scal : (opsA π).scal = false := rfl
@[simp] theorem opsA_keeps : (opsA π).keeps = false := rfl
set_option maxRecDepth 100000 in
theorem Zfz : Z4 [(3 :: 15 :: π, .box false [.p (fn0 Ul)]), (3 :: 14 :: π, .box false [.p (fn0 Um)]), (3 :: 13 :: π, .box false [.p (fn0 N2)]), (3 :: 12 :: π, .box false [.p (fn0 N3)]), (3 :: 11 :: π, .box false [.p (fn0 N4)]), (3 :: 10 :: π, .box false [.p (fn0 N5)]), (3 :: 9 :: π, .box false [.p (fn0 N6)]), (3 :: 8 :: π, .box false [.p (fn0 N7)]), (3 :: 7 :: π, .box false [.p (fn0 N8)])] (opsA π) = some (.agg opsPV, [(3 :: 15 :: π, .box true [.p (fn0 Ul)]), (3 :: 14 :: π, .box true [.p (fn0 Um)]), (3 :: 13 :: π, .box true [.p (fn0 N2)]), (3 :: 12 :: π, .box true [.p (fn0 N3)]), (3 :: 11 :: π, .box true [.p (fn0 N4)]), (3 :: 10 :: π, .box true [.p (fn0 N5)]), (3 :: 9 :: π, .box true [.p (fn0 N6)]), (3 :: 8 :: π, .box true [.p (fn0 N7)]), (3 :: 7 :: π, .box true [.p (fn0 N8)])]) := by
 have h : opsPV = [.str ⟨#[99, 111, 110, 115, 116]⟩, I 0, .bool true, fn0 Ya, fn0 U6,
  .str ⟨#[108, 101, 97, 102]⟩, I 0, .bool true, fn0 Ya, fn0 U6,
  .str ⟨#[110, 111, 116]⟩, I 1, .bool false, fn0 Zg, fn0 Gc,
  .str ⟨#[97, 110, 100]⟩, I 2, .bool false, fn0 Zg, binF N8,
  .str ⟨#[111, 114]⟩, I 2, .bool false, fn0 Zg, binF N7,
  .str ⟨#[120, 111, 114]⟩, I 2, .bool false, fn0 Zg, binF N6,
  .str ⟨#[97, 100, 100]⟩, I 2, .bool false, fn0 Zg, binF N5,
  .str ⟨#[115, 117, 98]⟩, I 2, .bool false, fn0 Zg, binF N4,
  .str ⟨#[109, 117, 108]⟩, I 2, .bool false, fn0 Zg, binF N3,
  .str ⟨#[101, 113]⟩, I 2, .bool false, fn0 Zq, relF N2,
  .str ⟨#[108, 116]⟩, I 2, .bool false, fn0 Zq, relF Um,
  .str ⟨#[115, 108, 116]⟩, I 2, .bool false, fn0 Zq, relF Ul,
  .str ⟨#[109, 117, 120]⟩, I 3, .bool false, fn0 Mu, fn0 Mt,
  .str ⟨#[106, 111, 105, 110]⟩, I 2, .bool false, fn0 Ms, fn0 Mr,
  .str ⟨#[115, 108, 105, 99, 101]⟩, I 1, .bool true, fn0 Mq, fn0 Mp,
  .str ⟨#[122, 101, 120, 116]⟩, I 1, .bool false, fn0 Y9, fn0 Mo,
  .str ⟨#[115, 101, 120, 116]⟩, I 1, .bool false, fn0 Y9, fn0 Mn,
  .str ⟨#[115, 104, 108]⟩, I 2, .bool false, fn0 Yp, fn0 Mm,
  .str ⟨#[115, 104, 114]⟩, I 2, .bool false, fn0 Yp, fn0 Ml] := rfl
 rw [h]
 simp [opsA, Z4]
def opNm : Nat → ByteArray
 | 0 => ⟨#[99, 111, 110, 115, 116]⟩
 | 1 => ⟨#[108, 101, 97, 102]⟩
 | 2 => ⟨#[110, 111, 116]⟩
 | 3 => ⟨#[97, 110, 100]⟩
 | 4 => ⟨#[111, 114]⟩
 | 5 => ⟨#[120, 111, 114]⟩
 | 6 => ⟨#[97, 100, 100]⟩
 | 7 => ⟨#[115, 117, 98]⟩
 | 8 => ⟨#[109, 117, 108]⟩
 | 9 => ⟨#[101, 113]⟩
 | 10 => ⟨#[108, 116]⟩
 | 11 => ⟨#[115, 108, 116]⟩
 | 12 => ⟨#[109, 117, 120]⟩
 | 13 => ⟨#[106, 111, 105, 110]⟩
 | 14 => ⟨#[115, 108, 105, 99, 101]⟩
 | 15 => ⟨#[122, 101, 120, 116]⟩
 | 16 => ⟨#[115, 101, 120, 116]⟩
 | 17 => ⟨#[115, 104, 108]⟩
 | 18 => ⟨#[115, 104, 114]⟩
 | _ => ⟨#[]⟩
def argc : Nat → Nat
 | 0 => 0
 | 1 => 0
 | 2 => 1
 | 3 => 2
 | 4 => 2
 | 5 => 2
 | 6 => 2
 | 7 => 2
 | 8 => 2
 | 9 => 2
 | 10 => 2
 | 11 => 2
 | 12 => 3
 | 13 => 2
 | 14 => 1
 | 15 => 1
 | 16 => 1
 | 17 => 2
 | 18 => 2
 | _ => 0
def hasV : Nat → Bool
 | 0 => true
 | 1 => true
 | 14 => true
 | _ => false
def fitF : Nat → Nat
 | 0 => Ya
 | 1 => Ya
 | 2 => Zg
 | 3 => Zg
 | 4 => Zg
 | 5 => Zg
 | 6 => Zg
 | 7 => Zg
 | 8 => Zg
 | 9 => Zq
 | 10 => Zq
 | 11 => Zq
 | 12 => Mu
 | 13 => Ms
 | 14 => Mq
 | 15 => Y9
 | 16 => Y9
 | 17 => Yp
 | 18 => Yp
 | _ => 0
def runN : Nat → Nat
 | 0 => U6
 | 1 => U6
 | 2 => Gc
 | 3 => Zo
 | 4 => Zo
 | 5 => Zo
 | 6 => Zo
 | 7 => Zo
 | 8 => Zo
 | 9 => Y2
 | 10 => Y2
 | 11 => Y2
 | 12 => Mt
 | 13 => Mr
 | 14 => Mp
 | 15 => Mo
 | 16 => Mn
 | 17 => Mm
 | 18 => Ml
 | _ => 0
def runC : Nat → List PV
 | 0 => []
 | 1 => []
 | 2 => []
 | 3 => [.ptr [fn0 N8]]
 | 4 => [.ptr [fn0 N7]]
 | 5 => [.ptr [fn0 N6]]
 | 6 => [.ptr [fn0 N5]]
 | 7 => [.ptr [fn0 N4]]
 | 8 => [.ptr [fn0 N3]]
 | 9 => [.ptr [fn0 N2]]
 | 10 => [.ptr [fn0 Um]]
 | 11 => [.ptr [fn0 Ul]]
 | 12 => []
 | 13 => []
 | 14 => []
 | 15 => []
 | 16 => []
 | 17 => []
 | 18 => []
 | _ => []
theorem opRow_eq {k : Nat} (h : k < 19) : opRow k = [.str (opNm k), I (argc k), .bool (hasV k), .fn (fitF k) [], .fn (runN k) (runC k)] := by
 match k, h with
 | 0, _ => exact rfl
 | 1, _ => exact rfl
 | 2, _ => exact rfl
 | 3, _ => exact rfl
 | 4, _ => exact rfl
 | 5, _ => exact rfl
 | 6, _ => exact rfl
 | 7, _ => exact rfl
 | 8, _ => exact rfl
 | 9, _ => exact rfl
 | 10, _ => exact rfl
 | 11, _ => exact rfl
 | 12, _ => exact rfl
 | 13, _ => exact rfl
 | 14, _ => exact rfl
 | 15, _ => exact rfl
 | 16, _ => exact rfl
 | 17, _ => exact rfl
 | 18, _ => exact rfl
 | k + 19, h => exact absurd h (by omega)
structure Nod where
 op : Int
 width : Int
 args : List Int
 value : Int
abbrev Zl (x : Nod) : PV := .agg [I x.op, I x.width, Z1 x.args, I x.value]
abbrev Za (l : List Nod) : PV := .sl 4 none (l.map Zl)
@[simp] theorem fgL_nodes (l : List Nod) : PV.fg.PV.fgL (l.map Zl) = l.map Zl := Hd _ _ (fun x => by simp) l
def wrapS (a b : Int) : Int := IntKind.i64.wrap (a + b)
def fitB (k : Nat) (w : Int) (ws : List Int) (v : Int) : Bool :=
 if k ≤ 1 then true else if k ≤ 8 then ws.all (fun n => decide (n = w)) else if k ≤ 11 then decide (w = 1) && decide (ws.getD 0 0 = ws.getD 1 0)
 else if k = 12 then decide (ws.getD 0 0 = 1) && (decide (ws.getD 1 0 = w) && decide (ws.getD 2 0 = w)) else if k = 13 then decide (wrapS (ws.getD 0 0) (ws.getD 1 0) = w)
 else if k = 14 then decide (wrapS v w ≤ ws.getD 0 0) else if k ≤ 16 then decide (ws.getD 0 0 ≤ w) else decide (ws.getD 0 0 = w)
theorem Zgg (a b c : AV) : EE π Ya [a, b, c] [] = some (.p (.bool true), []) := by
 simp [Zhu, Z0, Z47]
theorem e_same1 (n w : Int) : EE π Fw [.p (I n), .p (.ptr [I w])] [] = some (.p (.bool (decide (n ≠ w))), []) := by
 by_cases h : n = w <;> simp [e_gr_same_1, Z0, Z7r, h]
theorem Zdn (w : Int) (ws : List Int) (hl : ws.length ≤ top63) (v : AV) : EE π Zg [.p (I w), .p (Z1 ws), v] [] = some (.p (.bool (ws.all fun n => decide (n = w))), []) := by
 have hc := fun π => e_CoFI (π := π) ws hl (f := Fw) (caps := [.ptr [I w]]) (p := fun n => decide (n ≠ w)) (fun x _ => by simpa using e_same1 x w)
 have e : (ws.all fun n => decide (n = w)) = !(ws.any fun n => decide (n ≠ w)) := by
  rw [List.any_eq_not_all_not]; simp
 rw [e]
 simp [e_gr_same, Z0, Ze8, hc]
theorem Za4 (w a b : Int) (v : AV) : EE π Zq [.p (I w), .p (Z1 [a, b]), v] [] = some (.p (.bool (decide (w = 1) && decide (a = b))), []) := by
 by_cases h : w = 1 <;> simp [Zhs, Z0, Z45, h, evRO]
theorem e_shifted (w a b : Int) (v : AV) : EE π Yp [.p (I w), .p (Z1 [a, b]), v] [] = some (.p (.bool (decide (a = w))), []) := by
 simp [e_gr_shifted, Z0, Z5p]
theorem Zgf (w a : Int) (v : AV) : EE π Y9 [.p (I w), .p (Z1 [a]), v] [] = some (.p (.bool (decide (a ≤ w))), []) := by
 simp [Zhq, Z0, Z43]
theorem e_op12 (w a b c : Int) (v : AV) : EE π Mu [.p (I w), .p (Z1 [a, b, c]), v] [] = some (.p (.bool (decide (a = 1) && (decide (b = w) && decide (c = w)))), []) := by
 by_cases h : a = 1 <;> by_cases h2 : b = w <;> simp [e_gr_op_12, Z0, Zai, h, h2, evRO]
theorem e_op14 (w a b : Int) (v : AV) : EE π Ms [.p (I w), .p (Z1 [a, b]), v] [] = some (.p (.bool (decide (wrapS a b = w))), []) := by
 simp [e_gr_op_14, Z0, Zag, evRO]
 exact Iff.rfl
theorem e_op16 (w a v : Int) : EE π Mq [.p (I w), .p (Z1 [a]), .p (I v)] [] = some (.p (.bool (decide (wrapS v w ≤ a))), []) := by
 simp [e_gr_op_16, Z0, Zae, evRO]
 exact Iff.rfl
theorem e_fit {k : Nat} (hk : k < 19) (w : Int) (ws : List Int) (hl : ws.length = argc k) (v : Int) : EE π (fitF k) [.p (I w), .p (Z1 ws), .p (I v)] [] = some (.p (.bool (fitB k w ws v)), []) := by
 have h1 : ∀ ws : List Int, ws.length = 1 → ∃ a, ws = [a] := fun ws h => by match ws, h with | [a], _ => exact ⟨a, rfl⟩
 have h2 : ∀ ws : List Int, ws.length = 2 → ∃ a b, ws = [a, b] := fun ws h => by match ws, h with | [a, b], _ => exact ⟨a, b, rfl⟩
 have h3 : ∀ ws : List Int, ws.length = 3 → ∃ a b c, ws = [a, b, c] := fun ws h => by match ws, h with | [a, b, c], _ => exact ⟨a, b, c, rfl⟩
 match k, hk with
 | 0, _ => exact Zgg _ _ _
 | 1, _ => exact Zgg _ _ _
 | 2, _ => exact Zdn _ _ (by rw [hl]; decide) _
 | 3, _ => exact Zdn _ _ (by rw [hl]; decide) _
 | 4, _ => exact Zdn _ _ (by rw [hl]; decide) _
 | 5, _ => exact Zdn _ _ (by rw [hl]; decide) _
 | 6, _ => exact Zdn _ _ (by rw [hl]; decide) _
 | 7, _ => exact Zdn _ _ (by rw [hl]; decide) _
 | 8, _ => exact Zdn _ _ (by rw [hl]; decide) _
 | 9, _ => obtain ⟨a, b, rfl⟩ := h2 ws hl; exact Za4 _ _ _ _
 | 10, _ => obtain ⟨a, b, rfl⟩ := h2 ws hl; exact Za4 _ _ _ _
 | 11, _ => obtain ⟨a, b, rfl⟩ := h2 ws hl; exact Za4 _ _ _ _
 | 12, _ => obtain ⟨a, b, c, rfl⟩ := h3 ws hl; exact e_op12 _ _ _ _ _
 | 13, _ => obtain ⟨a, b, rfl⟩ := h2 ws hl; exact e_op14 _ _ _ _
 | 14, _ => obtain ⟨a, rfl⟩ := h1 ws hl; exact e_op16 _ _ _
 | 15, _ => obtain ⟨a, rfl⟩ := h1 ws hl; exact Zgf _ _ _
 | 16, _ => obtain ⟨a, rfl⟩ := h1 ws hl; exact Zgf _ _ _
 | 17, _ => obtain ⟨a, b, rfl⟩ := h2 ws hl; exact e_shifted _ _ _ _
 | 18, _ => obtain ⟨a, b, rfl⟩ := h2 ws hl; exact e_shifted _ _ _ _
 | k + 19, h => exact absurd h (by omega)
def pw (w : Int) : Int := 2 ^ w.toNat
theorem Xb (w : Int) : 0 < pw w := by unfold pw; exact Int.pow_pos (by omega)
theorem pw_le {w : Int} (h : w ≤ 16) : pw w ≤ 65536 := by
 unfold pw
 have : (2 : Int) ^ w.toNat = ((2 ^ w.toNat : Nat) : Int) := by simp
 rw [this]
 have h2 : 2 ^ w.toNat ≤ 2 ^ 16 := Nat.pow_le_pow_right (by omega) (by omega)
 have : (2 : Nat) ^ 16 = 65536 := by decide
 omega
def fitsB (n w : Int) : Bool := decide (0 ≤ w) && Z8 n 0 (pw w - 1)
theorem e_fitsG (n w : Int) (h : w ≤ 16) : EE π Z4z [.p (I n), .p (I w)] [] = some (.p (.bool (fitsB n w)), []) := by
 unfold fitsB
 by_cases h0 : 0 ≤ w
 ·have hneg : ¬ w < 0 := by omega
  have hm : min w.toNat 64 = w.toNat := by omega
  have hp : (2 : Int) ^ w.toNat = pw w := rfl
  have hp1 := Xb w
  have hp2 := pw_le h
  have hw : IntKind.i64.wrap (pw w) = pw w := w64 ⟨by omega, by omega⟩
  have hw2 : IntKind.i64.wrap (pw w - 1) = pw w - 1 := w64 ⟨by omega, by omega⟩
  have hwi := fun π => Z2x (π := π) n 0 (pw w - 1)
  generalize pw w = P at *
  simp [e_gr_fits, Z0, Z9h, h0, hneg, hm, hp, hw, hw2, hwi, IntKind.bits, Z4]
 ·simp [e_gr_fits, Z0, Z9h, h0]
theorem Zgc (n : Int) : EE π Ge [.p (I n)] [] = some (.p (.bool (Z8 n 1 16)), []) := by
 simp [e_gr_isWidth, Z0, Z5q, Z2x]
def valE (leaves : List Int) (x : Nod) (b : Bool) : Int :=
 if x.op = 0 then unlE (fitsB x.value x.width) 2 else if x.op = 1 then (if Z8 x.value 0 ((leaves.length : Int) - 1) = true then unlE (decide (leaves.getD x.value.toNat 0 = x.width)) 25 else 6)
 else if x.op = 14 then unlE (Z8 x.value 0 15) 2 else unlE (b || decide (x.value = 0)) 3
theorem e_valueErr (leaves : List Int) (hl : leaves.length ≤ 1000) (x : Nod) (hw : x.width ≤ 16) (s : ByteArray) (n : Int) (b : Bool) (kf kg : Nat) (cf cg : List PV) :
  EE π Fg [.p (Z1 leaves), .p (Zl x), .p (.agg [.str s, I n, .bool b, .fn kf cf, .fn kg cg])] [] = some (.p (I (valE leaves x b)), []) := by
 obtain ⟨op, wd, ar, v⟩ := x
 simp only at hw
 have hfi := fun π => e_fitsG (π := π) v wd hw
 have hws : IntKind.i64.wrap ((leaves.length : Int) - 1) = (leaves.length : Int) - 1 := w64 ⟨by omega, by omega⟩
 have hwi := fun π => Z2x (π := π) v 0 ((leaves.length : Int) - 1)
 unfold valE
 by_cases h0 : op = 0
 ·simp [Pi, Z0, V5, h0, hfi, Yz, Z4, evRO]
 ·by_cases h1 : op = 1
  ·by_cases hin : Z8 v 0 ((leaves.length : Int) - 1) = true
   ·have hin' := Zb.1 hin
    have hlt : v.toNat < leaves.length := by omega
    have hlt' : v < (leaves.length : Int) := by omega
    have hgd : leaves.getD v.toNat 0 = leaves[v.toNat] := by simp [List.getD, hlt]
    simp [Pi, Z0, V5, h1, hws, hwi, hin, hin'.1, hlt, hlt', Yz, Z4, evRO]
   ·have hin2 : Z8 v 0 ((leaves.length : Int) - 1) = false := by simpa using hin
    simp [Pi, Z0, V5, h1, hws, hwi, hin2, Yz, Z4, evRO]
  ·by_cases h14 : op = 14
   ·simp [Pi, Z0, V5, h14, Z2x, Yz, Z4, evRO]
   ·cases b
    ·by_cases hv : v = 0 <;> simp [Pi, Z0, V5, h0, h1, h14, hv, Yz, Z4, evRO]
    ·simp [Pi, Z0, V5, h0, h1, h14, Yz, Z4, evRO]
def flagE {α : Type} : List α → Option Bool
 | [] => some true
 | _ :: _ => some false
theorem Yj {α : Type} (l : List α) (x : α) : flagE (l ++ [x]) = some false := by cases l <;> rfl
abbrev rowI (i : Id) (nl : Option Bool) (D : List Int) : Id × Blk := (i, .row false t_int 1 nl (ints D))
theorem Nf (a b : Int) : EE π Pf [.p (.sl 1 none [I a, I b])] [] = some (.p (I (Z9 [a, b])), []) := e_firstG [a, b] (by simp [top63])
theorem Z9b (a b c : Int) : EE π Pf [.p (.sl 1 none [I a, I b, I c])] [] = some (.p (I (Z9 [a, b, c])), []) := e_firstG [a, b, c] (by simp [top63])
def nod0 : Nod := ⟨0, 0, [], 0⟩
def widOf (nodes : List Nod) (n : Int) : Int := (nodes.getD n.toNat nod0).width
abbrev Y0 (nodes : List Nod) (args : List Int) : List Int := args.map (widOf nodes)
def Ky (i : Int) (args : List Int) : Bool := args.all fun n => Z8 n 0 (i - 1)
abbrev boxNd (x : Nod) : Blk := .box false [.p (I x.op), .p (I x.width), .p (Z1 x.args), .p (I x.value)]
abbrev boxRow (k : Nat) : Blk := .box false [.p (.str (opNm k)), .p (I (argc k)), .p (.bool (hasV k)), .p (.fn (fitF k) []), .p (.fn (runN k) (runC k))]
@[simp] theorem fgL_runC : ∀ k : Nat, PV.fg.PV.fgL (runC k) = runC k := by
 intro k
 unfold runC
 repeat' split
 all_goals rfl
theorem e_cn1 (i : AV) (n : Int) : EE π Vj [i, .p (I n)] [] = some (.p (I (unlE (Z8 n 1 16) 2)), []) := by
 simp [Za3, Z0, Hp, Zgc, Yz]
theorem e_cn21 (i n : Int) (hi : 0 ≤ i ∧ i ≤ 1000000) : EE π Wi [.p (I n), .p (.ptr [I i])] [] = some (.p (.bool (!Z8 n 0 (i - 1))), []) := by
 have hw : IntKind.i64.wrap (i - 1) = i - 1 := w64 ⟨by omega, by omega⟩
 simp [Z7c, Z0, Mc, hw, Z2x]
theorem cn2_loop (nodes : List Nod) (hnl : nodes.length ≤ 100000) (x : Nod) (k : Nat) (hal : x.args.length ≤ 1000) (hin : ∀ n ∈ x.args, 0 ≤ n ∧ n < nodes.length) :
  ∀ (suf pre : List Int) (y : Env × Sto), x.args = pre ++ suf →
  mask [4, 6, 9, 12, 56, 57, 58] [] y = some ([(4, .p (.ptr [Za nodes])), (6, .ref (6 :: π) 0), (9, .ref (9 :: π) 0), (12, .ap (1012 :: π)), (56, .p (Z1 x.args)), (57, .p (I x.args.length)), (58, .p (I pre.length))], [rowI (1012 :: π) (flagE pre) (Y0 nodes pre), (9 :: π, boxRow k), (6 :: π, boxNd x)]) →
  kpO [6, 9, 12] [7] [] (bkO 0 (iter (round EE iter π [] [4, 6, 9, 12, 56, 57, 58] Pr) y)) = some (.nm, [(6, .ref (6 :: π) 0), (9, .ref (9 :: π) 0), (12, .ap (1012 :: π))], [rowI (1012 :: π) (flagE x.args) (Y0 nodes x.args), (9 :: π, boxRow k), (6 :: π, boxNd x)])
 | [], pre, y, h, hm => by
  rw [Z3 hm]
  have : x.args = pre := by simpa using h
  simp [Fb, Vd, ← this]
 | z :: suf, pre, y, h, hm => by
  rw [Z3 hm]
  have hlen : pre.length < x.args.length := by rw [h]; simp
  obtain ⟨hz0, hz1⟩ := hin z (by rw [h]; simp)
  have hlt : z.toNat < nodes.length := by omega
  have hwid : widOf nodes z = nodes[z.toNat].width := by unfold widOf; simp [List.getD, hlt]
  have hws := Zf hlen (show x.args.length ≤ top63 by simp only [top63]; omega)
  have hroom : (Y0 nodes pre).length + 1 ≤ room := by rw [List.length_map]; simp only [room]; omega
  have hnext := cn2_loop nodes hnl x k hal hin suf (pre ++ [z])
  rw [show (pre ++ [z]).length = pre.length + 1 by simp, Yj, show Y0 nodes (pre ++ [z]) = Y0 nodes pre ++ [widOf nodes z] by simp, hwid] at hnext
  generalize Y0 nodes pre = R at *
  generalize Y0 nodes x.args = RR at *
  simp [Fb, Vd, Zc h, Y3 _ h, hz0, hz1, hlt, hroom]
  exact hnext _ (by simp [h]) (by simp [hws])
def nodeE (leaves : List Int) (nodes : List Nod) (i : Nat) (x : Nod) : Int :=
 Z9 [unlE (Z8 x.op 0 18) 15, unlE (Z8 x.width 1 16) 2, unlE (decide (x.args.length = argc x.op.toNat)) 10, unlE (Ky i x.args) 9, valE leaves x (hasV x.op.toNat), unlE (fitB x.op.toNat x.width (Y0 nodes x.args) x.value) 25]
theorem e_cn2 (leaves : List Int) (hl : leaves.length ≤ 1000) (nodes : List Nod) (hnl : nodes.length ≤ 100000) (i : Nat) (x : Nod) (hal : x.args.length ≤ 1000) (hi : i < nodes.length) :
  EE π Vi [.p (I i), .p (Zl x), .p (.ptr opsPV), .p (.ptr [Z1 leaves]), .p (.ptr [Za nodes])] [] = some (.p (I (nodeE leaves nodes i x)), []) := by
 have hwo := fun π => Z2x (π := π) x.op 0 18
 have hww := fun π => Zgc (π := π) x.width
 unfold nodeE
 by_cases h1 : Z8 x.op 0 18 = true
 ·by_cases h2 : Z8 x.width 1 16 = true
  ·have h1' := Zb.1 h1
   have h2' := Zb.1 h2
   have hk : x.op.toNat < 19 := by omega
   have hk' : x.op < 19 := by omega
   have hrow := ops_row x.op.toNat hk
   rw [opRow_eq hk] at hrow
   have hdl : 5 ≤ opsPV.length - x.op.toNat * 5 := by rw [Z8j]; omega
   have hcf := fun π => e_CoFI (π := π) x.args (by simp only [top63]; omega) (f := Wi) (caps := [.ptr [I i]]) (p := fun n => !Z8 n 0 (i - 1)) (fun n _ => by simpa using e_cn21 (i : Int) n ⟨by omega, by omega⟩)
   have hany : (x.args.any fun n => !Z8 n 0 ((i : Int) - 1)) = !Ky i x.args := by unfold Ky; rw [List.any_eq_not_all_not]; simp
   rw [hany] at hcf
   have hve := fun π => e_valueErr (π := π) leaves hl x h2'.2 (opNm x.op.toNat) (argc x.op.toNat) (hasV x.op.toNat) (fitF x.op.toNat) (runN x.op.toNat) [] (runC x.op.toNat)
   by_cases h3 : x.args.length = argc x.op.toNat
   ·have h3' : (x.args.length : Int) = (argc x.op.toNat : Int) := by omega
    by_cases h4 : Ky i x.args = true
    ·rw [h4] at hcf
     have hin : ∀ n ∈ x.args, 0 ≤ n ∧ n < (nodes.length : Int) := fun n hn => by
      have := Zb.1 (List.all_eq_true.1 h4 n hn)
      omega
     have hlp := cn2_loop (π := π) nodes hnl x x.op.toNat hal hin x.args []
     have hft := fun π => e_fit (π := π) hk x.width (Y0 nodes x.args) (by simpa using h3) x.value
     generalize valE leaves x (hasV x.op.toNat) = c at *
     generalize Y0 nodes x.args = W at *
     generalize fitB x.op.toNat x.width W x.value = fb at *
     by_cases h5 : c = 0
     ·simp [Wf, Z0, Yq, hwo, hww, h1, h2, hk', h1'.1, hdl, hrow, hcf, hve, Yz, Nf, Z9b, h3', h4, h5, unlE, Z9, Z4, evRO, thaw, thaw1]
      rw [hlp _ rfl (by simp [h3', flagE])]
      cases fb <;> simp [hft, h3, Yz, unlE, Z4, evRO, thaw, thaw1]
     ·simp [Wf, Z0, Yq, hwo, hww, h1, h2, hk', h1'.1, hdl, hrow, hcf, hve, Yz, Nf, Z9b, h3, h3', h4, h5, unlE, Z9, Z4, evRO]
    ·have h4 : Ky i x.args = false := by simpa using h4
     rw [h4] at hcf
     generalize valE leaves x (hasV x.op.toNat) = c at *
     simp [Wf, Z0, Yq, hwo, hww, h1, h2, hk', h1'.1, hdl, hrow, hcf, hve, Yz, Nf, Z9b, h3, h3', h4, unlE, Z9, Z4, evRO]
   ·have h3' : ¬ (x.args.length : Int) = (argc x.op.toNat : Int) := by omega
    generalize valE leaves x (hasV x.op.toNat) = c at *
    cases h4 : Ky i x.args <;> rw [h4] at hcf <;> simp [Wf, Z0, Yq, hwo, hww, h1, h2, hk', h1'.1, hdl, hrow, hcf, hve, Yz, Nf, Z9b, h3, h3', unlE, Z9, Z4, evRO]
  ·have h2 : Z8 x.width 1 16 = false := by simpa using h2
   simp [Wf, Z0, Yq, hwo, hww, h1, h2, Yz, Nf, unlE, Z9, Z4, evRO]
 ·have h1 : Z8 x.op 0 18 = false := by simpa using h1
  simp [Wf, Z0, Yq, hwo, hww, h1, Yz, Nf, unlE, Z9, Z4, evRO]
def band (a b : Int) : Int := IntKind.i64.wrap ((BitVec.ofInt 64 a &&& BitVec.ofInt 64 b).toNat : Int)
def bor (a b : Int) : Int := IntKind.i64.wrap ((BitVec.ofInt 64 a ||| BitVec.ofInt 64 b).toNat : Int)
def bxor (a b : Int) : Int := IntKind.i64.wrap ((BitVec.ofInt 64 a ^^^ BitVec.ofInt 64 b).toNat : Int)
theorem Hr {a : Int} (h0 : 0 ≤ a) (h1 : a < 18446744073709551616) : (BitVec.ofInt 64 a).toNat = a.toNat := by
 rw [BitVec.toNat_ofInt]
 have : a % ((2 ^ 64 : Nat) : Int) = a := Int.emod_eq_of_lt h0 (by simpa using h1)
 rw [this]
theorem w16 (w : Int) (h : w ≤ 16) : pw w = ((2 ^ w.toNat : Nat) : Int) ∧ 2 ^ w.toNat ≤ 65536 := by
 refine ⟨by unfold pw; simp, ?_⟩
 have h2 : 2 ^ w.toNat ≤ 2 ^ 16 := Nat.pow_le_pow_right (by omega) (by omega)
 simpa using h2
theorem ibnd {a w : Int} (hw : w ≤ 16) (h0 : 0 ≤ a) (h1 : a < pw w) : a.toNat < 2 ^ w.toNat ∧ a < 65536 := by
 obtain ⟨h2, h3⟩ := w16 w hw
 rw [h2] at h1
 omega
theorem Zcn {n : Nat} (h : n < 65536 * 65536) : IntKind.i64.wrap (n : Int) = n := w64 ⟨by omega, by omega⟩
theorem band_in {a b w : Int} (hw : w ≤ 16) (ha : 0 ≤ a ∧ a < pw w) (hb : 0 ≤ b ∧ b < pw w) : 0 ≤ band a b ∧ band a b < pw w := by
 obtain ⟨a1, a2⟩ := ibnd hw ha.1 ha.2
 obtain ⟨b1, b2⟩ := ibnd hw hb.1 hb.2
 obtain ⟨h2, h3⟩ := w16 w hw
 unfold band
 rw [BitVec.toNat_and, Hr ha.1 (by omega), Hr hb.1 (by omega)]
 have := Nat.and_lt_two_pow a.toNat b1
 rw [Zcn (by omega), h2]
 omega
theorem bor_in {a b w : Int} (hw : w ≤ 16) (ha : 0 ≤ a ∧ a < pw w) (hb : 0 ≤ b ∧ b < pw w) : 0 ≤ bor a b ∧ bor a b < pw w := by
 obtain ⟨a1, a2⟩ := ibnd hw ha.1 ha.2
 obtain ⟨b1, b2⟩ := ibnd hw hb.1 hb.2
 obtain ⟨h2, h3⟩ := w16 w hw
 unfold bor
 rw [BitVec.toNat_or, Hr ha.1 (by omega), Hr hb.1 (by omega)]
 have := Nat.or_lt_two_pow a1 b1
 rw [Zcn (by omega), h2]
 omega
theorem bxor_in {a b w : Int} (hw : w ≤ 16) (ha : 0 ≤ a ∧ a < pw w) (hb : 0 ≤ b ∧ b < pw w) : 0 ≤ bxor a b ∧ bxor a b < pw w := by
 obtain ⟨a1, a2⟩ := ibnd hw ha.1 ha.2
 obtain ⟨b1, b2⟩ := ibnd hw hb.1 hb.2
 obtain ⟨h2, h3⟩ := w16 w hw
 unfold bxor
 rw [BitVec.toNat_xor, Hr ha.1 (by omega), Hr hb.1 (by omega)]
 have := Nat.xor_lt_two_pow a1 b1
 rw [Zcn (by omega), h2]
 omega
theorem band_mask (n w : Int) (hw : w ≤ 16) : band n (pw w - 1) = n % pw w := by
 obtain ⟨h2, h3⟩ := w16 w hw
 have hp : 0 < 2 ^ w.toNat := Nat.pow_pos (by omega)
 unfold band
 rw [BitVec.toNat_and, Hr (a := pw w - 1) (by omega) (by omega), show (pw w - 1).toNat = 2 ^ w.toNat - 1 by omega, Nat.and_two_pow_sub_one_eq_mod, BitVec.toNat_ofInt]
 have hlt := Nat.mod_lt (n % ((2 ^ 64 : Nat) : Int)).toNat hp
 rw [Zcn (by omega), h2]
 have hnn : 0 ≤ n % ((2 ^ 64 : Nat) : Int) := Int.emod_nonneg _ (by simp)
 rw [Int.natCast_emod, Int.toNat_of_nonneg hnn]
 refine Int.emod_emod_of_dvd n ?_
 refine Int.natCast_dvd_natCast.2 (Nat.pow_dvd_pow 2 (by omega))
theorem bnot_eq (a : Int) (h0 : 0 ≤ a) (h1 : a < 65536) : bxor (-1) a = -1 - a := by
 unfold bxor
 have : BitVec.ofInt 64 (-1) = BitVec.allOnes 64 := by decide
 rw [this, BitVec.allOnes_xor, BitVec.toNat_not, Hr h0 (by omega)]
 have h2 : ((2 ^ 64 - 1 - a.toNat : Nat) : Int) = 18446744073709551615 - a := by
  have : (2 : Nat) ^ 64 - 1 = 18446744073709551615 := by decide
  rw [this]; omega
 rw [h2]
 have e : IntKind.i64.wrap (18446744073709551615 - a) = if (9223372036854775808 : Int) ≤ (18446744073709551615 - a) % 18446744073709551616 then (18446744073709551615 - a) % 18446744073709551616 - 18446744073709551616 else (18446744073709551615 - a) % 18446744073709551616 := by
  simp [IntKind.wrap, IntKind.bits, IntKind.signed]
 rw [e]
 split <;> omega
theorem join_eq {a b w : Int} (h0 : 0 ≤ a) (h1 : a < 65536) (hw0 : 0 ≤ w) (hw : w ≤ 16) (hb : 0 ≤ b ∧ b < pw w) : bor (a * pw w) b = a * pw w + b := by
 obtain ⟨b1, b2⟩ := ibnd hw hb.1 hb.2
 obtain ⟨h2, h3⟩ := w16 w hw
 unfold bor
 have hm : a.toNat * 2 ^ w.toNat ≤ 65535 * 65536 := Nat.mul_le_mul (by omega) h3
 have e : a * pw w = ((a.toNat * 2 ^ w.toNat : Nat) : Int) := by rw [h2, Int.natCast_mul, Int.toNat_of_nonneg h0]
 rw [BitVec.toNat_or, Hr (a := a * pw w) (by rw [e]; omega) (by rw [e]; omega), Hr hb.1 (by omega), e, Int.toNat_natCast]
 have h := Nat.shiftLeft_add_eq_or_of_lt b1 a.toNat
 rw [Nat.shiftLeft_eq] at h
 rw [← h, Zcn (by omega)]
 omega
theorem shl1 {w : Int} (h0 : 0 ≤ w) (h : w ≤ 16) : IntKind.i64.wrap (2 ^ (min w.toNat 64)) = pw w := by
 have hm : min w.toNat 64 = w.toNat := by omega
 rw [hm]
 have h1 := Xb w
 have h2 := pw_le h
 exact w64 (n := pw w) ⟨by omega, by omega⟩
theorem Zgb (n w : Int) (h0 : 0 ≤ w) (h : w ≤ 16) : EE π Gd [.p (I n), .p (I w)] [] = some (.p (I (n % pw w)), []) := by
 have hb : ibits .and .i64 n (pw w - 1) = some (n % pw w) := by rw [← band_mask n w h]; rfl
 have hneg : ¬ w < 0 := by omega
 have h1 := Xb w
 have h2 := pw_le h
 have hs := shl1 h0 h
 have hw : IntKind.i64.wrap (pw w - 1) = pw w - 1 := w64 ⟨by omega, by omega⟩
 generalize pw w = P at *
 simp [e_gr_mask, Z0, Zej, hneg, IntKind.bits, hs, hw, hb]
def sgnV (n w : Int) : Int := if pw (w - 1) ≤ n then n - pw w else n
theorem pw_succ {w : Int} (h : 1 ≤ w) : pw w = 2 * pw (w - 1) := by
 unfold pw
 have : w.toNat = (w - 1).toNat + 1 := by omega
 rw [this, Int.pow_succ]; omega
theorem Zdm (n w : Int) (h1 : 1 ≤ w) (h : w ≤ 16) (hn : 0 ≤ n ∧ n < pw w) : EE π H8 [.p (I n), .p (I w)] [] = some (.p (I (sgnV n w)), []) := by
 have hp1 := Xb (w - 1)
 have hp2 := pw_le h
 have hps := pw_succ h1
 have hneg : ¬ w < 0 := by omega
 have hneg1 : ¬ w - 1 < 0 := by omega
 have hw1 : IntKind.i64.wrap (w - 1) = w - 1 := w64 ⟨by omega, by omega⟩
 have hm : min (w.toNat - 1) 64 = w.toNat - 1 := by omega
 have hs := shl1 (by omega : 0 ≤ w) h
 have hd : n.fdiv (2 ^ (w.toNat - 1)) = n / pw (w - 1) := by
  rw [show w.toNat - 1 = (w - 1).toNat by omega, Int.fdiv_eq_ediv_of_nonneg _ (by exact Int.le_of_lt (Xb (w - 1)))]; rfl
 have hsub : IntKind.i64.wrap (n - pw w) = n - pw w := w64 ⟨by omega, by omega⟩
 unfold sgnV
 by_cases hc : pw (w - 1) ≤ n
 ·have hq : n / pw (w - 1) = 1 := by
   refine Int.le_antisymm ?_ ?_
   ·exact Int.lt_add_one_iff.1 (Int.ediv_lt_of_lt_mul hp1 (by omega))
   ·exact Int.le_ediv_of_mul_le hp1 (by omega)
  have hb : ibits .and .i64 1 1 = some 1 := by decide
  rw [hq] at hd
  generalize pw w = P at *
  generalize pw (w - 1) = P1 at *
  simp [Zdt, Z0, Z3z, hneg, hneg1, hw1, hm, IntKind.bits, hs, hd, hb, hsub, hc]
 ·have hq : n / pw (w - 1) = 0 := Int.ediv_eq_zero_of_lt hn.1 (by omega)
  have hb : ibits .and .i64 0 1 = some 0 := by decide
  rw [hq] at hd
  generalize pw w = P at *
  generalize pw (w - 1) = P1 at *
  simp [Zdt, Z0, Z3z, hneg, hneg1, hw1, hm, IntKind.bits, hs, hd, hb, hsub, hc]
theorem e_truth (b : Bool) : EE π Z65 [.p (.bool b)] [] = some (.p (I (if b then 1 else 0)), []) := by
 cases b <;> simp [e_gr_truth, Z0, Zaa]
abbrev Okv (v w : Int) : Prop := 0 ≤ v ∧ v < pw w
theorem Z2y (x : Nod) (h1 : 1 ≤ x.width) (h2 : x.width ≤ 16) (w : AV) (a0 a1 r : Int) {f : Nat} (hf : ∀ π, EE π f [.p (I a0), .p (I a1)] [] = some (.p (I r), [])) :
  EE π Zo [.p (Zl x), w, .p (Z1 [a0, a1]), .p (.ptr [.fn f []])] [] = some (.p (I (r % pw x.width)), []) := by
 have hm := fun π => Zgb (π := π) r x.width (by omega) h2
 generalize r % pw x.width = R at *
 simp [Zht, Z0, Z46, hf, hm, evRO]
theorem Z7a (x : Nod) (w0 : Int) (ws : List Int) (a0 a1 : Int) (r : Bool) {f : Nat} (hf : ∀ π, EE π f [.p (I a0), .p (I a1), .p (I w0)] [] = some (.p (.bool r), [])) :
  EE π Y2 [.p (Zl x), .p (Z1 (w0 :: ws)), .p (Z1 [a0, a1]), .p (.ptr [.fn f []])] [] = some (.p (I (if r then 1 else 0)), []) := by
 simp [Zdu, Z0, Z0g, hf, e_truth, evRO]
theorem e_op3 (a b : Int) : EE π N8 [.p (I a), .p (I b)] [] = some (.p (I (band a b)), []) := by
 have hb : ibits .and .i64 a b = some (band a b) := rfl
 simp [e_gr_op_3, Z0, Zef, hb]
theorem e_op4 (a b : Int) : EE π N7 [.p (I a), .p (I b)] [] = some (.p (I (bor a b)), []) := by
 have hb : ibits .or .i64 a b = some (bor a b) := rfl
 simp [e_gr_op_4, Z0, Zee, hb]
theorem e_op5 (a b : Int) : EE π N6 [.p (I a), .p (I b)] [] = some (.p (I (bxor a b)), []) := by
 have hb : ibits .xor .i64 a b = some (bxor a b) := rfl
 simp [e_gr_op_5, Z0, Zed, hb]
theorem e_op6 (a b : Int) (h : ok64 (a + b)) : EE π N5 [.p (I a), .p (I b)] [] = some (.p (I (a + b)), []) := by
 simp [e_gr_op_6, Z0, Zec, w64 h]
theorem e_op7 (a b : Int) (h : ok64 (a - b)) : EE π N4 [.p (I a), .p (I b)] [] = some (.p (I (a - b)), []) := by
 simp [e_gr_op_7, Z0, Zeb, w64 h]
theorem e_op8 (a b : Int) (h : ok64 (a * b)) : EE π N3 [.p (I a), .p (I b)] [] = some (.p (I (a * b)), []) := by
 simp [e_gr_op_8, Z0, Zea, w64 h]
theorem e_op9 (a b : Int) (w : AV) : EE π N2 [.p (I a), .p (I b), w] [] = some (.p (.bool (decide (a = b))), []) := by
 by_cases h : a = b <;> simp [e_gr_op_9, Z0, Ze9, h]
theorem e_op10 (a b : Int) (w : AV) : EE π Um [.p (I a), .p (I b), w] [] = some (.p (.bool (decide (a < b))), []) := by
 simp [e_gr_op_10, Z0, Zak]
theorem e_op11 (a b w : Int) (h1 : 1 ≤ w) (h2 : w ≤ 16) (ha : Okv a w) (hb : Okv b w) : EE π Ul [.p (I a), .p (I b), .p (I w)] [] = some (.p (.bool (decide (sgnV a w < sgnV b w))), []) := by
 have hsa := fun π => Zdm (π := π) a w h1 h2 ha
 have hsb := fun π => Zdm (π := π) b w h1 h2 hb
 generalize sgnV a w = A at *
 generalize sgnV b w = B at *
 simp [e_gr_op_11, Z0, Zaj, hsa, hsb]
theorem emod_add {n P : Int} (h0 : 0 ≤ n + P) (h1 : n + P < P) : n % P = n + P := by
 rw [← Int.emod_eq_of_lt h0 h1]
 simp
theorem e_op1 (x : Nod) (w a : AV) : EE π U6 [.p (Zl x), w, a] [] = some (.p (I x.value), []) := by
 simp [e_gr_op_1, Z0, Zeh]
theorem e_op2 (x : Nod) (h1 : 1 ≤ x.width) (h2 : x.width ≤ 16) (w : AV) (a0 : Int) (ha : Okv a0 x.width) :
  EE π Gc [.p (Zl x), w, .p (Z1 [a0])] [] = some (.p (I (pw x.width - 1 - a0)), []) := by
 have hp := pw_le h2
 have hm := fun π => Zgb (π := π) (-1 - a0) x.width (by omega) h2
 rw [emod_add (by omega) (by omega), show -1 - a0 + pw x.width = pw x.width - 1 - a0 by omega] at hm
 have hx : ibits .xor .i64 (-1) a0 = some (-1 - a0) := by rw [← bnot_eq a0 (by omega) (by omega)]; rfl
 generalize pw x.width - 1 - a0 = R at *
 simp [e_gr_op_2, Z0, Zeg, IntKind.signed, hx, hm, evRO]
theorem e_op13 (x : Nod) (w : AV) (a0 a1 a2 : Int) : EE π Mt [.p (Zl x), w, .p (Z1 [a0, a1, a2])] [] = some (.p (I (if a0 = 1 then a1 else a2)), []) := by
 by_cases h : a0 = 1 <;> simp [e_gr_op_13, Z0, Zah, h, evRO]
theorem e_op15 (x : Nod) (w0 w1 a0 a1 : Int) (h0 : 0 ≤ a0 ∧ a0 < 65536) (hw : 0 ≤ w1 ∧ w1 ≤ 16) (h1 : Okv a1 w1) : EE π Mr [.p (Zl x), .p (Z1 [w0, w1]), .p (Z1 [a0, a1])] [] = some (.p (I (a0 * pw w1 + a1)), []) := by
 have hneg : ¬ w1 < 0 := by omega
 have hm : min w1.toNat 64 = w1.toNat := by omega
 have hp1 := Xb w1
 have hp2 := pw_le hw.2
 have hmul : a0 * pw w1 ≤ 65535 * 65536 := by
  have := Int.mul_le_mul (show a0 ≤ 65535 by omega) hp2 (by omega) (by omega)
  omega
 have hmul0 : 0 ≤ a0 * pw w1 := Int.mul_nonneg h0.1 (by omega)
 have hp : a0 * 2 ^ w1.toNat = a0 * pw w1 := rfl
 have hb : ibits .or .i64 (a0 * pw w1) a1 = some (a0 * pw w1 + a1) := by rw [← join_eq h0.1 h0.2 hw.1 hw.2 h1]; rfl
 have hws : IntKind.i64.wrap (a0 * pw w1) = a0 * pw w1 := w64 ⟨by omega, by omega⟩
 generalize a0 * pw w1 = R at *
 simp [e_gr_op_15, Z0, Zaf, hneg, hm, IntKind.bits, hp, hws, hb, evRO]
theorem fdiv_pw (a v : Int) : a.fdiv (2 ^ v.toNat) = a / pw v := by
 rw [Int.fdiv_eq_ediv_of_nonneg _ (by exact Int.le_of_lt (Xb v))]; rfl
theorem e_op17 (x : Nod) (h1 : 1 ≤ x.width) (h2 : x.width ≤ 16) (hv : 0 ≤ x.value ∧ x.value ≤ 15) (w : AV) (a0 : Int) : EE π Mp [.p (Zl x), w, .p (Z1 [a0])] [] = some (.p (I (a0 / pw x.value % pw x.width)), []) := by
 have hneg : ¬ x.value < 0 := by omega
 have hm : min x.value.toNat 64 = x.value.toNat := by omega
 have hd := fdiv_pw a0 x.value
 have hmk := fun π => Zgb (π := π) (a0 / pw x.value) x.width (by omega) h2
 generalize a0 / pw x.value = Q at *
 generalize Q % pw x.width = R at *
 simp [e_gr_op_17, Z0, Zad, hneg, hm, IntKind.bits, hd, hmk, evRO]
theorem e_op18 (x : Nod) (w : AV) (a0 : Int) : EE π Mo [.p (Zl x), w, .p (Z1 [a0])] [] = some (.p (I a0), []) := by
 simp [e_gr_op_18, Z0, Zac]
theorem e_op19 (x : Nod) (h1 : 1 ≤ x.width) (h2 : x.width ≤ 16) (w0 a0 : Int) (hw : 1 ≤ w0 ∧ w0 ≤ 16) (ha : Okv a0 w0) : EE π Mn [.p (Zl x), .p (Z1 [w0]), .p (Z1 [a0])] [] = some (.p (I (sgnV a0 w0 % pw x.width)), []) := by
 have hs := fun π => Zdm (π := π) a0 w0 hw.1 hw.2 ha
 have hmk := fun π => Zgb (π := π) (sgnV a0 w0) x.width (by omega) h2
 generalize sgnV a0 w0 = S at *
 generalize S % pw x.width = R at *
 simp [e_gr_op_19, Z0, Zab, hs, hmk, evRO]
def shlV (a0 a1 w : Int) : Int := if w ≤ a1 then 0 else a0 * pw a1 % pw w
def shrV (a0 a1 w : Int) : Int := if w ≤ a1 then 0 else a0 / pw a1
theorem Zfu {a m : Int} (ha : 0 ≤ a ∧ a < 65536) (hm : 0 ≤ m ∧ m ≤ 65536) : 0 ≤ a * m ∧ a * m ≤ 65535 * 65536 := by
 refine ⟨Int.mul_nonneg ha.1 hm.1, ?_⟩
 have := Int.mul_le_mul (show a ≤ 65535 by omega) hm.2 hm.1 (by omega)
 omega
theorem e_op20 (x : Nod) (h1 : 1 ≤ x.width) (h2 : x.width ≤ 16) (w : AV) (a0 a1 : Int) (ha : Okv a0 x.width) (hb : 0 ≤ a1) : EE π Mm [.p (Zl x), w, .p (Z1 [a0, a1])] [] = some (.p (I (shlV a0 a1 x.width)), []) := by
 have hp2 := pw_le h2
 unfold shlV
 by_cases hc : x.width ≤ a1
 ·have hneg : ¬ x.width < 0 := by omega
  have hm : min x.width.toNat 64 = x.width.toNat := by omega
  have hmi : (if x.width < a1 then x.width else a1) = x.width := by split <;> omega
  have hp : a0 * 2 ^ x.width.toNat = a0 * pw x.width := rfl
  have hml := Zfu (a := a0) (m := pw x.width) ⟨ha.1, by omega⟩ ⟨by omega, hp2⟩
  have hw : IntKind.i64.wrap (a0 * pw x.width) = a0 * pw x.width := w64 ⟨by omega, by omega⟩
  have hmk := fun π => Zgb (π := π) (a0 * pw x.width) x.width (by omega) h2
  rw [Int.mul_emod_left] at hmk
  generalize a0 * pw x.width = R at *
  simp [Zge, Z0, Z6e, hneg, hm, hmi, hc, IntKind.bits, hp, hw, hmk, evRO]
 ·have hneg : ¬ a1 < 0 := by omega
  have hm : min a1.toNat 64 = a1.toNat := by omega
  have hmi : (if x.width < a1 then x.width else a1) = a1 := by split <;> omega
  have hp : a0 * 2 ^ a1.toNat = a0 * pw a1 := rfl
  have hml := Zfu (a := a0) (m := pw a1) ⟨ha.1, by omega⟩ ⟨Int.le_of_lt (Xb a1), pw_le (by omega)⟩
  have hw : IntKind.i64.wrap (a0 * pw a1) = a0 * pw a1 := w64 ⟨by omega, by omega⟩
  have hmk := fun π => Zgb (π := π) (a0 * pw a1) x.width (by omega) h2
  generalize a0 * pw a1 = R at *
  generalize R % pw x.width = S at *
  simp [Zge, Z0, Z6e, hneg, hm, hmi, hc, IntKind.bits, hp, hw, hmk, evRO]
theorem e_op21 (x : Nod) (h1 : 1 ≤ x.width) (h2 : x.width ≤ 16) (w : AV) (a0 a1 : Int) (ha : Okv a0 x.width) (hb : 0 ≤ a1) : EE π Ml [.p (Zl x), w, .p (Z1 [a0, a1])] [] = some (.p (I (shrV a0 a1 x.width)), []) := by
 unfold shrV
 by_cases hc : x.width ≤ a1
 ·have hneg : ¬ x.width < 0 := by omega
  have hm : min x.width.toNat 64 = x.width.toNat := by omega
  have hmi : (if x.width < a1 then x.width else a1) = x.width := by split <;> omega
  have hd := fdiv_pw a0 x.width
  rw [Int.ediv_eq_zero_of_lt ha.1 ha.2] at hd
  simp [Zgd, Z0, Z6d, hneg, hm, hmi, hc, IntKind.bits, hd, evRO]
 ·have hneg : ¬ a1 < 0 := by omega
  have hm : min a1.toNat 64 = a1.toNat := by omega
  have hmi : (if x.width < a1 then x.width else a1) = a1 := by split <;> omega
  have hd := fdiv_pw a0 a1
  generalize a0 / pw a1 = Q at *
  simp [Zgd, Z0, Z6d, hneg, hm, hmi, hc, IntKind.bits, hd, evRO]
def bitV (b : Bool) : Int := if b then 1 else 0
def appK : Nat → Nod → List Int → List Int → Int
 | 2, x, _, a => pw x.width - 1 - a.getD 0 0
 | 3, _, _, a => band (a.getD 0 0) (a.getD 1 0)
 | 4, _, _, a => bor (a.getD 0 0) (a.getD 1 0)
 | 5, _, _, a => bxor (a.getD 0 0) (a.getD 1 0)
 | 6, x, _, a => (a.getD 0 0 + a.getD 1 0) % pw x.width
 | 7, x, _, a => (a.getD 0 0 - a.getD 1 0) % pw x.width
 | 8, x, _, a => a.getD 0 0 * a.getD 1 0 % pw x.width
 | 9, _, _, a => bitV (decide (a.getD 0 0 = a.getD 1 0))
 | 10, _, _, a => bitV (decide (a.getD 0 0 < a.getD 1 0))
 | 11, _, w, a => bitV (decide (sgnV (a.getD 0 0) (w.getD 0 0) < sgnV (a.getD 1 0) (w.getD 1 0)))
 | 12, _, _, a => if a.getD 0 0 = 1 then a.getD 1 0 else a.getD 2 0
 | 13, _, w, a => a.getD 0 0 * pw (w.getD 1 0) + a.getD 1 0
 | 14, x, _, a => a.getD 0 0 / pw x.value % pw x.width
 | 15, _, _, a => a.getD 0 0
 | 16, x, w, a => sgnV (a.getD 0 0) (w.getD 0 0) % pw x.width
 | 17, x, _, a => shlV (a.getD 0 0) (a.getD 1 0) x.width
 | 18, x, _, a => shrV (a.getD 0 0) (a.getD 1 0) x.width
 | _, x, _, _ => x.value
structure AppOk (k : Nat) (x : Nod) (w a : List Int) : Prop where
 wd : 1 ≤ x.width ∧ x.width ≤ 16
 al : a.length = argc k
 wl : w.length = argc k
 ok : ∀ i, i < argc k → (1 ≤ w.getD i 0 ∧ w.getD i 0 ≤ 16) ∧ Okv (a.getD i 0) (w.getD i 0)
 fit : fitB k x.width w x.value = true
 val : k = 14 → 0 ≤ x.value ∧ x.value ≤ 15
theorem Zfo (l : List Int) (h : l.length = 1) : ∃ a, l = [a] := by match l, h with | [a], _ => exact ⟨a, rfl⟩
theorem Zbe (l : List Int) (h : l.length = 2) : ∃ a b, l = [a, b] := by match l, h with | [a, b], _ => exact ⟨a, b, rfl⟩
theorem three_of (l : List Int) (h : l.length = 3) : ∃ a b c, l = [a, b, c] := by match l, h with | [a, b, c], _ => exact ⟨a, b, c, rfl⟩
theorem Vr {k : Nat} (hk : 3 ≤ k ∧ k ≤ 8) {x : Nod} {w a : List Int} (h : AppOk k x w a) : ∃ a0 a1, a = [a0, a1] ∧ w = [x.width, x.width] ∧ Okv a0 x.width ∧ Okv a1 x.width := by
 have hc : argc k = 2 := by
  rcases (show k = 3 ∨ k = 4 ∨ k = 5 ∨ k = 6 ∨ k = 7 ∨ k = 8 by omega) with rfl | rfl | rfl | rfl | rfl | rfl <;> rfl
 obtain ⟨a0, a1, rfl⟩ := Zbe a (h.al.trans hc)
 obtain ⟨w0, w1, rfl⟩ := Zbe w (h.wl.trans hc)
 have h0 := h.ok 0 (by omega)
 have h1 := h.ok 1 (by omega)
 have hf := h.fit
 unfold fitB at hf
 rw [if_neg (by omega), if_pos (by omega)] at hf
 simp at hf
 obtain ⟨rfl, rfl⟩ := hf
 exact ⟨a0, a1, rfl, rfl, by simpa using h0.2, by simpa using h1.2⟩
theorem Zfp {k : Nat} (hk : 9 ≤ k ∧ k ≤ 11) {x : Nod} {w a : List Int} (h : AppOk k x w a) : ∃ a0 a1 w0, a = [a0, a1] ∧ w = [w0, w0] ∧ x.width = 1 ∧ (1 ≤ w0 ∧ w0 ≤ 16) ∧ Okv a0 w0 ∧ Okv a1 w0 := by
 have hc : argc k = 2 := by
  rcases (show k = 9 ∨ k = 10 ∨ k = 11 by omega) with rfl | rfl | rfl <;> rfl
 obtain ⟨a0, a1, rfl⟩ := Zbe a (h.al.trans hc)
 obtain ⟨w0, w1, rfl⟩ := Zbe w (h.wl.trans hc)
 have h0 := h.ok 0 (by omega)
 have h1 := h.ok 1 (by omega)
 have hf := h.fit
 unfold fitB at hf
 rw [if_neg (by omega), if_neg (by omega), if_pos (by omega)] at hf
 simp at hf
 obtain ⟨hw, rfl⟩ := hf
 exact ⟨a0, a1, w0, rfl, rfl, hw, by simpa using h0.1, by simpa using h0.2, by simpa using h1.2⟩
theorem ok_not {x : Nod} {w a : List Int} (h : AppOk 2 x w a) : ∃ a0, a = [a0] ∧ w = [x.width] ∧ Okv a0 x.width := by
 obtain ⟨a0, rfl⟩ := Zfo a h.al
 obtain ⟨w0, rfl⟩ := Zfo w h.wl
 have h0 := h.ok 0 (by decide)
 have hf : w0 = x.width := by simpa [fitB] using h.fit
 subst hf
 exact ⟨a0, rfl, rfl, by simpa using h0.2⟩
theorem ok_mux {x : Nod} {w a : List Int} (h : AppOk 12 x w a) : ∃ a0 a1 a2, a = [a0, a1, a2] ∧ w = [1, x.width, x.width] ∧ Okv a1 x.width ∧ Okv a2 x.width := by
 obtain ⟨a0, a1, a2, rfl⟩ := three_of a h.al
 obtain ⟨w0, w1, w2, rfl⟩ := three_of w h.wl
 have h1 := h.ok 1 (by decide)
 have h2 := h.ok 2 (by decide)
 have hf := h.fit
 simp [fitB] at hf
 obtain ⟨rfl, rfl, rfl⟩ := hf
 exact ⟨a0, a1, a2, rfl, rfl, by simpa using h1.2, by simpa using h2.2⟩
theorem ok_join {x : Nod} {w a : List Int} (h : AppOk 13 x w a) : ∃ a0 a1 w0 w1, a = [a0, a1] ∧ w = [w0, w1] ∧ w0 + w1 = x.width ∧ 1 ≤ w0 ∧ 1 ≤ w1 ∧ Okv a0 w0 ∧ Okv a1 w1 := by
 obtain ⟨a0, a1, rfl⟩ := Zbe a h.al
 obtain ⟨w0, w1, rfl⟩ := Zbe w h.wl
 have h0 := h.ok 0 (by decide)
 have h1 := h.ok 1 (by decide)
 simp only [List.getD_cons_zero, List.getD_cons_succ] at h0 h1
 have hf : wrapS w0 w1 = x.width := by simpa [fitB] using h.fit
 unfold wrapS at hf
 rw [w64 ⟨by omega, by omega⟩] at hf
 exact ⟨a0, a1, w0, w1, rfl, rfl, hf, h0.1.1, h1.1.1, h0.2, h1.2⟩
theorem ok_slice {x : Nod} {w a : List Int} (h : AppOk 14 x w a) : ∃ a0 w0, a = [a0] ∧ w = [w0] ∧ (1 ≤ w0 ∧ w0 ≤ 16) ∧ Okv a0 w0 := by
 obtain ⟨a0, rfl⟩ := Zfo a h.al
 obtain ⟨w0, rfl⟩ := Zfo w h.wl
 have h0 := h.ok 0 (by decide)
 exact ⟨a0, w0, rfl, rfl, by simpa using h0.1, by simpa using h0.2⟩
theorem Zd1 {k : Nat} (hk : 15 ≤ k ∧ k ≤ 16) {x : Nod} {w a : List Int} (h : AppOk k x w a) : ∃ a0 w0, a = [a0] ∧ w = [w0] ∧ (1 ≤ w0 ∧ w0 ≤ 16) ∧ w0 ≤ x.width ∧ Okv a0 w0 := by
 have hc : argc k = 1 := by
  rcases (show k = 15 ∨ k = 16 by omega) with rfl | rfl <;> rfl
 obtain ⟨a0, rfl⟩ := Zfo a (h.al.trans hc)
 obtain ⟨w0, rfl⟩ := Zfo w (h.wl.trans hc)
 have h0 := h.ok 0 (by omega)
 have hf : w0 ≤ x.width := by
  have := h.fit
  rcases (show k = 15 ∨ k = 16 by omega) with rfl | rfl <;> simpa [fitB] using this
 exact ⟨a0, w0, rfl, rfl, by simpa using h0.1, hf, by simpa using h0.2⟩
theorem Z8k {k : Nat} (hk : 17 ≤ k ∧ k ≤ 18) {x : Nod} {w a : List Int} (h : AppOk k x w a) : ∃ a0 a1 w1, a = [a0, a1] ∧ w = [x.width, w1] ∧ (1 ≤ w1 ∧ w1 ≤ 16) ∧ Okv a0 x.width ∧ Okv a1 w1 := by
 have hc : argc k = 2 := by
  rcases (show k = 17 ∨ k = 18 by omega) with rfl | rfl <;> rfl
 obtain ⟨a0, a1, rfl⟩ := Zbe a (h.al.trans hc)
 obtain ⟨w0, w1, rfl⟩ := Zbe w (h.wl.trans hc)
 have h0 := h.ok 0 (by omega)
 have h1 := h.ok 1 (by omega)
 have hf : w0 = x.width := by
  have := h.fit
  rcases (show k = 17 ∨ k = 18 by omega) with rfl | rfl <;> simpa [fitB] using this
 subst hf
 exact ⟨a0, a1, w1, rfl, rfl, by simpa using h1.1, by simpa using h0.2, by simpa using h1.2⟩
theorem pw_mono {a b : Int} (h : a ≤ b) : pw a ≤ pw b := by
 unfold pw
 have h1 : (2 : Int) ^ a.toNat = ((2 ^ a.toNat : Nat) : Int) := by simp
 have h2 : (2 : Int) ^ b.toNat = ((2 ^ b.toNat : Nat) : Int) := by simp
 rw [h1, h2]
 have := Nat.pow_le_pow_right (show 0 < 2 by omega) (show a.toNat ≤ b.toNat by omega)
 omega
theorem pw_add {a b : Int} (ha : 0 ≤ a) (hb : 0 ≤ b) : pw (a + b) = pw a * pw b := by
 unfold pw
 rw [show (a + b).toNat = a.toNat + b.toNat by omega, Int.pow_add]
theorem pw_two {w : Int} (h : 1 ≤ w) : 2 ≤ pw w := by
 have := pw_succ h
 have := Xb (w - 1)
 omega
theorem bitV_in {b : Bool} {w : Int} (h : 1 ≤ w) : Okv (bitV b) w := by
 have := pw_two h
 cases b <;> simp [bitV, Okv] <;> omega
theorem appK_in {k : Nat} (hk : 2 ≤ k ∧ k < 19) {x : Nod} {w a : List Int} (h : AppOk k x w a) : Okv (appK k x w a) x.width := by
 have hp := Xb x.width
 have hmod : ∀ n : Int, Okv (n % pw x.width) x.width := fun n => ⟨Int.emod_nonneg _ (by omega), Int.emod_lt_of_pos _ hp⟩
 have hwd := h.wd
 match k, hk with
 | 2, _ =>
  obtain ⟨a0, rfl, rfl, h0⟩ := ok_not h
  simp only [appK, List.getD_cons_zero]
  exact ⟨by omega, by omega⟩
 | 3, _ => obtain ⟨a0, a1, rfl, rfl, h0, h1⟩ := Vr (by omega) h; exact band_in hwd.2 h0 h1
 | 4, _ => obtain ⟨a0, a1, rfl, rfl, h0, h1⟩ := Vr (by omega) h; exact bor_in hwd.2 h0 h1
 | 5, _ => obtain ⟨a0, a1, rfl, rfl, h0, h1⟩ := Vr (by omega) h; exact bxor_in hwd.2 h0 h1
 | 6, _ => exact hmod _
 | 7, _ => exact hmod _
 | 8, _ => exact hmod _
 | 9, _ => exact bitV_in hwd.1
 | 10, _ => exact bitV_in hwd.1
 | 11, _ => exact bitV_in hwd.1
 | 12, _ =>
  obtain ⟨a0, a1, a2, rfl, rfl, h1, h2⟩ := ok_mux h
  simp only [appK, List.getD_cons_zero, List.getD_cons_succ]
  split
  ·exact h1
  ·exact h2
 | 13, _ =>
  obtain ⟨a0, a1, w0, w1, rfl, rfl, hw, hw0, hw1, h0, h1⟩ := ok_join h
  simp only [appK, List.getD_cons_zero, List.getD_cons_succ]
  have hpp := Xb w1
  rw [← hw, Okv, pw_add (by omega) (by omega)]
  have hm : a0 * pw w1 ≤ (pw w0 - 1) * pw w1 := Int.mul_le_mul_of_nonneg_right (by omega) (by omega)
  rw [Int.sub_mul] at hm
  have hm0 : 0 ≤ a0 * pw w1 := Int.mul_nonneg h0.1 (by omega)
  exact ⟨by omega, by omega⟩
 | 14, _ => exact hmod _
 | 15, _ =>
  obtain ⟨a0, w0, rfl, rfl, hw, hle, h0⟩ := Zd1 (by omega) h
  have := pw_mono hle
  simp only [appK, List.getD_cons_zero]
  exact ⟨by omega, by omega⟩
 | 16, _ => exact hmod _
 | 17, _ =>
  simp only [appK, shlV]
  split
  ·exact ⟨by omega, by omega⟩
  ·exact hmod _
 | 18, _ =>
  obtain ⟨a0, a1, w1, rfl, rfl, hw, h0, h1⟩ := Z8k (by omega) h
  simp only [appK, shrV, List.getD_cons_zero, List.getD_cons_succ]
  split
  ·exact ⟨by omega, by omega⟩
  ·have h2 := Int.ediv_nonneg h0.1 (show 0 ≤ pw a1 from Int.le_of_lt (Xb a1))
   have h3 := Int.ediv_le_self (pw a1) h0.1
   exact ⟨h2, by omega⟩
 | k + 19, hk => exact absurd hk.2 (by omega)
theorem Zg5 (l : List Nod) (hl : l.length ≤ top63) {f : Nat} {caps : List PV} {err : Nat → Nod → Int} (hp : ∀ (i : Nat) x, l[i]? = some x → EE (19 :: π) f (.p (I i) :: .p (Zl x) :: caps.map fun v => AV.p v.fg) [] = some (.p (I (err i x)), [])) :
  ∀ (suf pre : List Nod) (x : Env × Sto), l = pre ++ suf → mask [1, 9, 10, 11] [] x = some ([(1, .p (.fn f caps)), (9, .p (Za l)), (10, .p (I l.length)), (11, .p (I pre.length))], []) →
  kpO [] [4, 5] [] (bkO 0 (iter (round EE iter π [] [1, 9, 10, 11] P8) x)) = (if (eachE err pre.length suf).2 = 0 then some (.nm, [], []) else some (.rt, [(4, .p (I (eachE err pre.length suf).1)), (5, .p (I (eachE err pre.length suf).2))], []))
 | [], pre, x, h, hm => by
  rw [Z3 hm]
  subst h
  simp [Qf, Xq, eachE]
 | y :: suf, pre, x, h, hm => by
  rw [Z3 hm]
  have hy := hp pre.length y (by rw [h]; simp)
  by_cases hpy : err pre.length y = 0
  ·simp [Qf, Xq, Zc h, Y3 _ h, hy, hpy, eachE]
   rw [show pre.length + 1 = (pre ++ [y]).length by simp]
   exact Zg5 l hl hp suf (pre ++ [y]) _ (by simp [h]) (by simp [Zf (show pre.length < l.length by have := Zc h; omega) hl])
  ·simp [Qf, Xq, Zc h, Y3 _ h, hy, hpy, eachE]
theorem e_eachN (l : List Nod) (hl : l.length ≤ top63) {f : Nat} {caps : List PV} {err : Nat → Nod → Int} (hp : ∀ (i : Nat) x, l[i]? = some x → EE (19 :: π) f (.p (I i) :: .p (Zl x) :: caps.map fun v => AV.p v.fg) [] = some (.p (I (err i x)), [])) :
  EE π Uw [.p (Za l), .p (.fn f caps)] [] = some (.p (.tup [I (eachE err 0 l).1, I (eachE err 0 l).2]), []) := by
 simp [Z9a, Z0, Ka]
 rw [Zg5 l hl hp l [] _ rfl (by simp)]
 by_cases hf : (eachE err 0 l).2 = 0
 ·have h1 : (eachE err 0 l).1 = 0 := Z58 err 0 l hf
  simp [hf, h1]
 ·simp [hf]
theorem ops_c1 : (∀ x : PV, x ∈ opsPV → x.cell1 = true) = True := eq_true (List.all_eq_true.1 (show opsPV.all PV.cell1 = true from rfl))
theorem mapM_p' (s : Sto) : ∀ l : List PV, l.mapM (toPV s 10 ∘ AV.p) = some l
 | [] => rfl
 | x :: r => by
  rw [List.mapM_cons, mapM_p' s r]; rfl
theorem c1_sl (a b c) : (PV.sl a b c).cell1 = true := rfl
theorem c1_int (k n) : (PV.int k n).cell1 = true := rfl
theorem freeze_p (n : Sto) (v : PV) : Z4 n (.p v) = some (v, n) := rfl
def X8 (leaves : List Int) (nodes : List Nod) : Int × Int :=
 if 40 < leaves.length then (0, 8) else if (eachE (fun _ n => unlE (Z8 n 1 16) 2) 0 leaves).2 ≠ 0 then eachE (fun _ n => unlE (Z8 n 1 16) 2) 0 leaves
 else if 400 < nodes.length then (0, 8) else eachE (nodeE leaves nodes) 0 nodes
theorem Zbn (leaves : List Int) (nodes : List Nod) (hal : ∀ x ∈ nodes, x.args.length ≤ 1000) :
  EE π Qv [.p (Z1 leaves), .p (Za nodes)] [] = some (.p (.tup [I (X8 leaves nodes).1, I (X8 leaves nodes).2]), []) := by
 unfold X8
 by_cases h1 : 40 < leaves.length
 ·have h1' : (40 : Int) < leaves.length := by omega
  simp [Lu, Z0, Vk, h1, h1', Z4, evRO]
 ·have h1' : ¬ (40 : Int) < leaves.length := by omega
  have hea := fun π => e_eachG (π := π) leaves (by simp only [top63]; omega) (f := Vj) (caps := []) (err := fun _ n => unlE (Z8 n 1 16) 2) (fun i x _ => by simpa using e_cn1 _ x)
  by_cases h2 : (eachE (fun _ n => unlE (Z8 n 1 16) 2) 0 leaves).2 = 0
  ·generalize eachE (fun _ n => unlE (Z8 n 1 16) 2) 0 leaves = r at *
   by_cases h3 : 400 < nodes.length
   ·have h3' : (400 : Int) < nodes.length := by omega
    simp [Lu, Z0, Vk, h1, h1', hea, h2, h3, h3', Z4, evRO]
   ·have h3' : ¬ (400 : Int) < nodes.length := by omega
    have hen := fun π => e_eachN (π := π) nodes (by simp only [top63]; omega) (f := Vi) (caps := [.ptr opsPV, .ptr [Z1 leaves], .ptr [Za nodes]]) (err := nodeE leaves nodes) (fun i x hx => by
     have hi : i < nodes.length := (List.getElem?_eq_some_iff.1 hx).1
     have := e_cn2 (π := 19 :: π) leaves (by omega) nodes (by omega) i x (hal x (List.mem_of_getElem? hx)) hi
     simpa [ops_fg] using this)
    generalize eachE (nodeE leaves nodes) 0 nodes = q at *
    simp [-Z4, -PV.cell1, ops_c1, c1_sl, c1_int, Lu, Z0, Vk, h1, h1', hea, h2, h3, h3', Zbj, Zfz, freeze_p, mapM_p', ops_fg, hen, evRO, Z8j]
  ·generalize eachE (fun _ n => unlE (Z8 n 1 16) 2) 0 leaves = r at *
   simp [Lu, Z0, Vk, h1, h1', hea, h2, Z4, evRO]
theorem e_graphErr (leaves : List Int) (nodes : List Nod) (hal : ∀ x ∈ nodes, x.args.length ≤ 1000) :
  EE π Ll [.p (Z1 leaves), .p (Za nodes)] [] = some (.p (I (X8 leaves nodes).2), []) := by
 have hc := fun π => Zbn (π := π) leaves nodes hal
 simp [Zhp, Z0, Z41, hc, evRO]
@[simp] theorem sgB_true_none {d : Option Nat} {e : Env} {s : Sto} : sgB true d e s none = none := rfl
def gtO (want : Bool) (X : Option AV) (r : Option (Env × Sto)) : Option (Env × Sto) := match X with | some (.p (.bool b)) => bif b == want then r else none | _ => none
@[simp] theorem gtO_eq {b want : Bool} {r : Option (Env × Sto)} : gtO want (some (.p (.bool b))) r = bif b == want then r else none := rfl
@[simp] theorem st2_none_gd {C : Call} {d : Option Nat} {e : Env} {s : Sto} {t : Nat} {want : Bool} {op : IOp} : st2 C π ⟨d, some (t, want), op⟩ e s none = gtO want (e.lookup t) ((evT C π e s (d.getD 0) op).map fun r => (r.2.1.set d r.1, r.2.2)) := by
 rfl
theorem lt_nat {α : Type} {l pre suf : List α} {y : α} (h : l = pre ++ y :: suf) : pre.length < l.length := by rw [h]; simp
abbrev Z69 (x : Nod) : PV := .agg [I x.op, I x.width, .sl 1 (some false) (ints x.args), I x.value]
abbrev zNode : PV := .agg [I 0, I 0, .sl 1 (some true) [], I 0]
theorem Zgl (nodes : List Nod) (hl : nodes.length ≤ 1000) (hal : ∀ x ∈ nodes, x.args.length ≤ 1000) : ∀ (suf pre : List Nod) (x : Env × Sto), nodes = pre ++ suf → mask [0, 3, 4] [] x = some ([(0, .p (Za nodes)), (3, .ap (7 :: π)), (4, .p (I pre.length))], [(7 :: π, .row false H1 4 (some false) (pre.map Z69 ++ List.replicate suf.length zNode))]) →
  kpO [3] [2] [] (bkO 0 (iter (round EE iter π [] [0, 3, 4] Ho) x)) = some (.nm, [(3, .ap (7 :: π))], [(7 :: π, .row false H1 4 (some false) (nodes.map Z69))])
 | [], pre, x, h, hm => by
  rw [Z3 hm]
  have : nodes = pre := by simpa using h
  subst this
  simp [Z2f, Pn]
 | y :: suf, pre, x, h, hm => by
  rw [Z3 hm]
  have hci := fun π => Hf (π := π) (ints y.args) (by have := hal y (by rw [h]; simp); simp only [List.length_map, room]; omega)
  have hnext := Zgl nodes hl hal suf (pre ++ [y])
  simp [Z2f, Pn, Zc h, Y3 _ h, hci, Z4, evRO, List.replicate_succ, PV.setc]
  exact hnext _ (by simp [h]) (by simp [Zf (lt_nat h) (show nodes.length ≤ top63 by simp only [top63]; omega)])
theorem e_CopyNodes (nodes : List Nod) (hl : nodes.length ≤ 1000) (hal : ∀ x ∈ nodes, x.args.length ≤ 1000) :
  EE π Hv [.p (Za nodes)] [] = some (.ap (7 :: π), [(7 :: π, .row false H1 4 (some false) (nodes.map Z69))]) := by
 have hr : nodes.length ≤ room := by simp only [room]; omega
 simp [Zf3, Z0, Z23, hr]
 rw [Zgl nodes hl hal nodes [] _ rfl (by simp)]
 simp
theorem Yk (l : List Nod) : PV.fg.PV.fgL (l.map Z69) = l.map Zl := by
 rw [← fgL_nodes l]
 induction l with
 | nil => rfl
 | cons x r ih => simp only [List.map_cons, PV.fg.PV.fgL, ih]; simp
theorem Nh (n : Int) : EE π Mk [.p (I n)] [] = some (.p (.bool (Z8 n 1 16)), []) := by
 simp [e_rb_IsWidth, Z0, Z5n, X9]
theorem e_Fits (n w : Int) (h : 0 ≤ w ∧ w ≤ 16) : EE π Z2k [.p (I n), .p (I w)] [] = some (.p (.bool (fitsB n w)), []) := by
 unfold fitsB
 have hm : min w.toNat 64 = w.toNat := by omega
 have hpw := fun π => Zi0 (π := π) w h.1
 have hp : (2 : Int) ^ w.toNat = pw w := rfl
 have hp1 := Xb w
 have hp2 := pw_le h.2
 have hw : IntKind.i64.wrap (pw w) = pw w := w64 ⟨by omega, by omega⟩
 have hw2 : IntKind.i64.wrap (pw w - 1) = pw w - 1 := w64 ⟨by omega, by omega⟩
 rw [hm, hp, hw] at hpw
 generalize pw w = P at *
 simp [e_rb_Fits, Z0, Ze7, hpw, hw2, X9, h.1]
theorem Zgj : ∀ k : Nat, k < 19 → EE π Ff [.p (I k)] [] = some (.p (I (argc k)), []) := by
 intro k hk
 match k, hk with
 | 0, _ => simp [Zk, Z0, Ze, argc]
 | 1, _ => simp [Zk, Z0, Ze, argc]
 | 2, _ => simp [Zk, Z0, Ze, argc]
 | 3, _ => simp [Zk, Z0, Ze, argc]
 | 4, _ => simp [Zk, Z0, Ze, argc]
 | 5, _ => simp [Zk, Z0, Ze, argc]
 | 6, _ => simp [Zk, Z0, Ze, argc]
 | 7, _ => simp [Zk, Z0, Ze, argc]
 | 8, _ => simp [Zk, Z0, Ze, argc]
 | 9, _ => simp [Zk, Z0, Ze, argc]
 | 10, _ => simp [Zk, Z0, Ze, argc]
 | 11, _ => simp [Zk, Z0, Ze, argc]
 | 12, _ => simp [Zk, Z0, Ze, argc]
 | 13, _ => simp [Zk, Z0, Ze, argc]
 | 14, _ => simp [Zk, Z0, Ze, argc]
 | 15, _ => simp [Zk, Z0, Ze, argc]
 | 16, _ => simp [Zk, Z0, Ze, argc]
 | 17, _ => simp [Zk, Z0, Ze, argc]
 | 18, _ => simp [Zk, Z0, Ze, argc]
 | k + 19, h => exact absurd h (by omega)
theorem wf_loop (nodes : List Nod) (hnl : nodes.length ≤ 100000) (x : Nod) (hal : x.args.length ≤ 1000) (hin : ∀ n ∈ x.args, 0 ≤ n ∧ n < nodes.length) :
  ∀ (suf pre : List Int) (y : Env × Sto), x.args = pre ++ suf →
  mask [0, 3, 5, 6] [] y = some ([(0, .p (Za nodes)), (3, .ref (3 :: π) 0), (5, .ap (1005 :: π)), (6, .p (I pre.length))], [rowI (1005 :: π) (flagE pre) (Y0 nodes pre), (3 :: π, boxNd x)]) →
  kpO [3, 5] [4] [] (bkO 0 (iter (round EE iter π [] [0, 3, 5, 6] Hi) y)) = some (.nm, [(3, .ref (3 :: π) 0), (5, .ap (1005 :: π))], [rowI (1005 :: π) (flagE x.args) (Y0 nodes x.args), (3 :: π, boxNd x)])
 | [], pre, y, h, hm => by
  rw [Z3 hm]
  have : x.args = pre := by simpa using h
  simp [Z2e, Pm, ← this]
 | z :: suf, pre, y, h, hm => by
  rw [Z3 hm]
  have hlen : pre.length < x.args.length := by rw [h]; simp
  obtain ⟨hz0, hz1⟩ := hin z (by rw [h]; simp)
  have hlt : z.toNat < nodes.length := by omega
  have hwid : widOf nodes z = nodes[z.toNat].width := by unfold widOf; simp [List.getD, hlt]
  have hws := Zf hlen (show x.args.length ≤ top63 by simp only [top63]; omega)
  have hroom : (Y0 nodes pre).length + 1 ≤ room := by rw [List.length_map]; simp only [room]; omega
  have hnext := wf_loop nodes hnl x hal hin suf (pre ++ [z])
  rw [show (pre ++ [z]).length = pre.length + 1 by simp, Yj, show Y0 nodes (pre ++ [z]) = Y0 nodes pre ++ [widOf nodes z] by simp, hwid] at hnext
  generalize Y0 nodes pre = R at *
  generalize Y0 nodes x.args = RR at *
  simp [Z2e, Pm, Zc h, Y3 _ h, hz0, hz1, hlt, hroom]
  exact hnext _ (by simp [h]) (by simp [hws])
theorem e_widthsFit (nodes : List Nod) (hnl : nodes.length ≤ 100000) (x : Nod) (hal : x.args.length ≤ 1000) (hin : ∀ n ∈ x.args, 0 ≤ n ∧ n < nodes.length) (k : Nat) (hk : k < 17) (hop : x.op = (k + 2 : Nat)) (hac : x.args.length = argc (k + 2)) :
  EE π Ht [.p (Za nodes), .p (Zl x)] [] = some (.p (.bool (fitB (k + 2) x.width (Y0 nodes x.args) x.value)), []) := by
 have hlp := wf_loop (π := π) nodes hnl x hal hin x.args []
 have h1 : ∀ ws : List Int, ws.length = 1 → ∃ a, ws = [a] := fun ws h => by match ws, h with | [a], _ => exact ⟨a, rfl⟩
 have h2 : ∀ ws : List Int, ws.length = 2 → ∃ a b, ws = [a, b] := fun ws h => by match ws, h with | [a, b], _ => exact ⟨a, b, rfl⟩
 have h3 : ∀ ws : List Int, ws.length = 3 → ∃ a b c, ws = [a, b, c] := fun ws h => by match ws, h with | [a, b, c], _ => exact ⟨a, b, c, rfl⟩
 have hwl : (Y0 nodes x.args).length = argc (k + 2) := by rw [List.length_map]; exact hac
 simp [Zf2, Z0, Z1x, thaw, thaw1]
 rw [hlp _ rfl (by simp [flagE])]
 obtain ⟨op, wd, ar, v⟩ := x
 simp only at hop hac hwl ⊢
 clear hlp
 generalize Y0 nodes ar = W at *
 match k, hk with
 | 0, _ => obtain ⟨a, rfl⟩ := h1 W hwl; by_cases e1 : a = wd <;> simp [hop, fitB, e1]
 | 1, _ => obtain ⟨a, b, rfl⟩ := h2 W hwl; by_cases e1 : a = wd <;> by_cases e2 : b = wd <;> simp [hop, fitB, e1, e2]
 | 2, _ => obtain ⟨a, b, rfl⟩ := h2 W hwl; by_cases e1 : a = wd <;> by_cases e2 : b = wd <;> simp [hop, fitB, e1, e2]
 | 3, _ => obtain ⟨a, b, rfl⟩ := h2 W hwl; by_cases e1 : a = wd <;> by_cases e2 : b = wd <;> simp [hop, fitB, e1, e2]
 | 4, _ => obtain ⟨a, b, rfl⟩ := h2 W hwl; by_cases e1 : a = wd <;> by_cases e2 : b = wd <;> simp [hop, fitB, e1, e2]
 | 5, _ => obtain ⟨a, b, rfl⟩ := h2 W hwl; by_cases e1 : a = wd <;> by_cases e2 : b = wd <;> simp [hop, fitB, e1, e2]
 | 6, _ => obtain ⟨a, b, rfl⟩ := h2 W hwl; by_cases e1 : a = wd <;> by_cases e2 : b = wd <;> simp [hop, fitB, e1, e2]
 | 7, _ => obtain ⟨a, b, rfl⟩ := h2 W hwl; by_cases e1 : a = b <;> by_cases e2 : wd = 1 <;> simp [hop, fitB, e1, e2]
 | 8, _ => obtain ⟨a, b, rfl⟩ := h2 W hwl; by_cases e1 : a = b <;> by_cases e2 : wd = 1 <;> simp [hop, fitB, e1, e2]
 | 9, _ => obtain ⟨a, b, rfl⟩ := h2 W hwl; by_cases e1 : a = b <;> by_cases e2 : wd = 1 <;> simp [hop, fitB, e1, e2]
 | 10, _ => obtain ⟨a, b, c, rfl⟩ := h3 W hwl; by_cases e1 : a = 1 <;> by_cases e2 : b = wd <;> by_cases e3 : c = wd <;> simp [hop, fitB, e1, e2, e3]
 | 11, _ => obtain ⟨a, b, rfl⟩ := h2 W hwl; simp [hop, fitB, wrapS]; try exact Iff.rfl
 | 12, _ => obtain ⟨a, rfl⟩ := h1 W hwl; simp [hop, fitB, wrapS]; try exact Iff.rfl
 | 13, _ => obtain ⟨a, rfl⟩ := h1 W hwl; simp [hop, fitB]
 | 14, _ => obtain ⟨a, rfl⟩ := h1 W hwl; simp [hop, fitB]
 | 15, _ => obtain ⟨a, b, rfl⟩ := h2 W hwl; simp [hop, fitB]
 | 16, _ => obtain ⟨a, b, rfl⟩ := h2 W hwl; simp [hop, fitB]
 | k + 17, h => exact absurd h (by omega)
theorem e_run {k : Nat} (hk : k < 19) (h1k : k ≠ 1) {x : Nod} {w a : List Int} (h : k ≠ 0 → AppOk k x w a) :
  EE π (runN k) (.p (Zl x) :: .p (Z1 w) :: .p (Z1 a) :: (runC k).map fun v => AV.p v.fg) [] = some (.p (I (appK k x w a)), []) := by
 match k, hk with
 | 0, _ => exact e_op1 x _ _
 | 1, _ => exact absurd rfl h1k
 | 2, _ =>
  have h := h (by decide)
  obtain ⟨a0, rfl, rfl, h0⟩ := ok_not h
  exact e_op2 x h.wd.1 h.wd.2 _ a0 h0
 | 3, _ =>
  have h := h (by decide)
  obtain ⟨a0, a1, rfl, rfl, h0, h1⟩ := Vr (by omega) h
  have := Z2y (π := π) x h.wd.1 h.wd.2 (.p (Z1 [x.width, x.width])) a0 a1 _ (fun π => e_op3 (π := π) a0 a1)
  rw [Int.emod_eq_of_lt (band_in h.wd.2 h0 h1).1 (band_in h.wd.2 h0 h1).2] at this
  exact this
 | 4, _ =>
  have h := h (by decide)
  obtain ⟨a0, a1, rfl, rfl, h0, h1⟩ := Vr (by omega) h
  have := Z2y (π := π) x h.wd.1 h.wd.2 (.p (Z1 [x.width, x.width])) a0 a1 _ (fun π => e_op4 (π := π) a0 a1)
  rw [Int.emod_eq_of_lt (bor_in h.wd.2 h0 h1).1 (bor_in h.wd.2 h0 h1).2] at this
  exact this
 | 5, _ =>
  have h := h (by decide)
  obtain ⟨a0, a1, rfl, rfl, h0, h1⟩ := Vr (by omega) h
  have := Z2y (π := π) x h.wd.1 h.wd.2 (.p (Z1 [x.width, x.width])) a0 a1 _ (fun π => e_op5 (π := π) a0 a1)
  rw [Int.emod_eq_of_lt (bxor_in h.wd.2 h0 h1).1 (bxor_in h.wd.2 h0 h1).2] at this
  exact this
 | 6, _ =>
  have h := h (by decide)
  obtain ⟨a0, a1, rfl, rfl, h0, h1⟩ := Vr (by omega) h
  have := pw_le h.wd.2
  exact Z2y x h.wd.1 h.wd.2 _ a0 a1 _ (fun π => e_op6 (π := π) a0 a1 ⟨by omega, by omega⟩)
 | 7, _ =>
  have h := h (by decide)
  obtain ⟨a0, a1, rfl, rfl, h0, h1⟩ := Vr (by omega) h
  have := pw_le h.wd.2
  exact Z2y x h.wd.1 h.wd.2 _ a0 a1 _ (fun π => e_op7 (π := π) a0 a1 ⟨by omega, by omega⟩)
 | 8, _ =>
  have h := h (by decide)
  obtain ⟨a0, a1, rfl, rfl, h0, h1⟩ := Vr (by omega) h
  have := pw_le h.wd.2
  have hm := Zfu (a := a0) (m := a1) ⟨h0.1, by omega⟩ ⟨h1.1, by omega⟩
  exact Z2y x h.wd.1 h.wd.2 _ a0 a1 _ (fun π => e_op8 (π := π) a0 a1 ⟨by omega, by omega⟩)
 | 9, _ =>
  have h := h (by decide)
  obtain ⟨a0, a1, w0, rfl, rfl, hw, hww, h0, h1⟩ := Zfp (by omega) h
  exact Z7a x w0 [w0] a0 a1 _ (fun π => e_op9 (π := π) a0 a1 _)
 | 10, _ =>
  have h := h (by decide)
  obtain ⟨a0, a1, w0, rfl, rfl, hw, hww, h0, h1⟩ := Zfp (by omega) h
  exact Z7a x w0 [w0] a0 a1 _ (fun π => e_op10 (π := π) a0 a1 _)
 | 11, _ =>
  have h := h (by decide)
  obtain ⟨a0, a1, w0, rfl, rfl, hw, hww, h0, h1⟩ := Zfp (by omega) h
  exact Z7a x w0 [w0] a0 a1 _ (fun π => e_op11 (π := π) a0 a1 w0 hww.1 hww.2 h0 h1)
 | 12, _ =>
  have h := h (by decide)
  obtain ⟨a0, a1, a2, rfl, rfl, h1, h2⟩ := ok_mux h
  exact e_op13 x _ a0 a1 a2
 | 13, _ =>
  have h := h (by decide)
  obtain ⟨a0, a1, w0, w1, rfl, rfl, hw, hw0, hw1, h0, h1⟩ := ok_join h
  have hwd := h.wd
  have := pw_le (show w0 ≤ 16 by omega)
  exact e_op15 x w0 w1 a0 a1 ⟨h0.1, by omega⟩ ⟨by omega, by omega⟩ h1
 | 14, _ =>
  have h := h (by decide)
  obtain ⟨a0, w0, rfl, rfl, hw, h0⟩ := ok_slice h
  exact e_op17 x h.wd.1 h.wd.2 (h.val rfl) _ a0
 | 15, _ =>
  have h := h (by decide)
  obtain ⟨a0, w0, rfl, rfl, hw, hle, h0⟩ := Zd1 (by omega) h
  exact e_op18 x _ a0
 | 16, _ =>
  have h := h (by decide)
  obtain ⟨a0, w0, rfl, rfl, hw, hle, h0⟩ := Zd1 (by omega) h
  exact e_op19 x h.wd.1 h.wd.2 w0 a0 hw h0
 | 17, _ =>
  have h := h (by decide)
  obtain ⟨a0, a1, w1, rfl, rfl, hw, h0, h1⟩ := Z8k (by omega) h
  exact e_op20 x h.wd.1 h.wd.2 _ a0 a1 h0 h1.1
 | 18, _ =>
  have h := h (by decide)
  obtain ⟨a0, a1, w1, rfl, rfl, hw, h0, h1⟩ := Z8k (by omega) h
  exact e_op21 x h.wd.1 h.wd.2 _ a0 a1 h0 h1.1
 | k + 19, hk => exact absurd hk (by omega)
theorem Yo (w : Int) (h : 0 ≤ w ∧ w ≤ 16) : EE π Xg [.p (I w)] [] = some (.p (I (pw w)), []) := by
 rw [Zi0 w h.1, shl1 h.1 h.2]
theorem Ze0 (n w : Int) (hw : 1 ≤ w ∧ w ≤ 16) (hn : Okv n w) : EE π H6 [.p (I n), .p (I w)] [] = some (.p (I (sgnV n w)), []) := by
 have hp := fun π => Yo (π := π) w ⟨by omega, hw.2⟩
 have hp1 := fun π => Yo (π := π) (w - 1) ⟨by omega, by omega⟩
 have hw1 : IntKind.i64.wrap (w - 1) = w - 1 := w64 ⟨by omega, by omega⟩
 have h2 := pw_le hw.2
 have hsub : IntKind.i64.wrap (n - pw w) = n - pw w := w64 ⟨by omega, by omega⟩
 unfold sgnV
 generalize pw w = P at *
 generalize pw (w - 1) = P1 at *
 by_cases hc : P1 ≤ n <;> simp [e_rb_Signed, Z0, Z7k, hp, hp1, hw1, hsub, hc]
abbrev Wu (vs : List Int) (args : List Int) : List Int := args.map fun n => vs.getD n.toNat 0
theorem Zbp (nodes : List Nod) (vs : List Int) (x : Nod) (hal : x.args.length ≤ 1000) (hin : ∀ n ∈ x.args, 0 ≤ n ∧ n < nodes.length ∧ n < vs.length) :
  ∀ (suf pre : List Int) (y : Env × Sto), x.args = pre ++ suf →
  mask [0, 1, 3, 6, 9, 10, 14, 15, 16] [] y = some ([(0, .p (.ptr opsPV)), (1, .p (Za nodes)), (3, .p (Z1 vs)), (6, .ref (6 :: π) 0), (9, .ap (1009 :: π)), (10, .ap (1010 :: π)), (14, .p (Z1 x.args)), (15, .p (I x.args.length)), (16, .p (I pre.length))], [rowI (1009 :: π) (flagE pre) (Y0 nodes pre), rowI (1010 :: π) (flagE pre) (Wu vs pre), (6 :: π, boxNd x)]) →
  kpO [0, 6, 9, 10] [8] [] (bkO 0 (iter (round EE iter π [] [0, 1, 3, 6, 9, 10, 14, 15, 16] Z0i) y)) = some (.nm, [(0, .p (.ptr opsPV)), (6, .ref (6 :: π) 0), (9, .ap (1009 :: π)), (10, .ap (1010 :: π))], [rowI (1009 :: π) (flagE x.args) (Y0 nodes x.args), rowI (1010 :: π) (flagE x.args) (Wu vs x.args), (6 :: π, boxNd x)])
 | [], pre, y, h, hm => by
  rw [Z3 hm]
  have : x.args = pre := by simpa using h
  simp [Z4r, Ks, ← this]
 | z :: suf, pre, y, h, hm => by
  rw [Z3 hm]
  have hlen : pre.length < x.args.length := by rw [h]; simp
  obtain ⟨hz0, hz1, hz2⟩ := hin z (by rw [h]; simp)
  have hlt : z.toNat < nodes.length := by omega
  have hlv : z.toNat < vs.length := by omega
  have hwid : widOf nodes z = nodes[z.toNat].width := by unfold widOf; simp [List.getD, hlt]
  have hgd : vs.getD z.toNat 0 = vs[z.toNat] := by simp [List.getD, hlv]
  have hws := Zf hlen (show x.args.length ≤ top63 by simp only [top63]; omega)
  have hroom : (Y0 nodes pre).length + 1 ≤ room := by rw [List.length_map]; simp only [room]; omega
  have hroomA : (Wu vs pre).length + 1 ≤ room := by rw [List.length_map]; simp only [room]; omega
  have hnext := Zbp nodes vs x hal hin suf (pre ++ [z])
  rw [show (pre ++ [z]).length = pre.length + 1 by simp, Yj, show Y0 nodes (pre ++ [z]) = Y0 nodes pre ++ [widOf nodes z] by simp, hwid, show Wu vs (pre ++ [z]) = Wu vs pre ++ [vs.getD z.toNat 0] by simp, hgd] at hnext
  generalize Y0 nodes pre = R at *
  generalize Y0 nodes x.args = RR at *
  generalize Wu vs pre = A at *
  generalize Wu vs x.args = AA at *
  simp [Z4r, Ks, Zc h, Y3 _ h, hz0, hz1, hz2, hlt, hlv, hroom, hroomA, Z4, evRO]
  exact hnext _ (by simp [h]) (by simp [hws])
theorem e_applied (nodes : List Nod) (vs : List Int) (x : Nod) (hal : x.args.length ≤ 1000) (hin : ∀ n ∈ x.args, 0 ≤ n ∧ n < nodes.length ∧ n < vs.length) (ho : 0 ≤ x.op ∧ x.op < 19) (h1 : x.op ≠ 1)
  (hok : x.op.toNat ≠ 0 → AppOk x.op.toNat x (Y0 nodes x.args) (Wu vs x.args)) :
  EE π Z16 [.p (.ptr opsPV), .p (Za nodes), .p (Zl x), .p (Z1 vs)] [] = some (.p (I (appK x.op.toNat x (Y0 nodes x.args) (Wu vs x.args))), []) := by
 have hlp := Zbp (π := π) nodes vs x hal hin x.args []
 have hk : x.op.toNat < 19 := by omega
 have hrow := ops_row x.op.toNat hk
 rw [opRow_eq hk] at hrow
 have hdl : 5 ≤ opsPV.length - x.op.toNat * 5 := by rw [Z8j]; omega
 have hget : opsPV[x.op.toNat * 5 + 4]? = some (.fn (runN x.op.toNat) (runC x.op.toNat)) := by
  have := congrArg (fun l => l[4]?) hrow
  simpa [List.getElem?_take, List.getElem?_drop] using this
 have hrun := fun π => e_run (π := π) hk (by omega) hok
 generalize appK x.op.toNat x (Y0 nodes x.args) (Wu vs x.args) = r at *
 generalize Y0 nodes x.args = W at *
 generalize Wu vs x.args = A at *
 simp [e_gr_applied, Z0, Z5r, thaw, thaw1, ops_fg]
 rw [hlp _ rfl (by simp [flagE])]
 simp [ho.1, ho.2, hdl, hget, hrun, Z4, evRO]
theorem ne_loop (leaves : List Int) (nodes : List Nod) (i : Nat) (hi : i ≤ 100000) (x : Nod) (hal : x.args.length ≤ 1000) :
  ∀ (suf pre : List Int) (y : Env × Sto), x.args = pre ++ suf →
  mask [0, 1, 2, 7, 8] [] y = some ([(0, .p (Z1 leaves)), (1, .p (Za nodes)), (2, .p (I i)), (7, .ref (7 :: π) 0), (8, .p (I pre.length))], [(7 :: π, boxNd x)]) →
  kpO [0, 1, 7] [6] [] (bkO 0 (iter (round EE iter π [] [0, 1, 2, 7, 8] Z0b) y)) = (if Ky i suf = true then some (.nm, [(0, .p (Z1 leaves)), (1, .p (Za nodes)), (7, .ref (7 :: π) 0)], [(7 :: π, boxNd x)]) else some (.rt, [(6, .p (I 9))], []))
 | [], pre, y, h, hm => by
  rw [Z3 hm]
  have : x.args = pre := by simpa using h
  simp [Ft, Pc, ← this, Ky]
 | z :: suf, pre, y, h, hm => by
  rw [Z3 hm]
  have hlen : pre.length < x.args.length := by rw [h]; simp
  have hws := Zf hlen (show x.args.length ≤ top63 by simp only [top63]; omega)
  have hw : IntKind.i64.wrap ((i : Int) - 1) = (i : Int) - 1 := w64 ⟨by omega, by omega⟩
  have hnext := ne_loop leaves nodes i hi x hal suf (pre ++ [z])
  by_cases hz : Z8 z 0 ((i : Int) - 1) = true
  ·rw [show Ky i (z :: suf) = Ky i suf by simp [Ky, hz]]
   generalize Ky i suf = b at *
   simp [Ft, Pc, Zc h, Y3 _ h, hw, X9, hz]
   exact hnext _ (by simp [h]) (by simp [hws])
  ·rw [show Ky i (z :: suf) = false by simp [Ky, hz]]
   simp [Ft, Pc, Zc h, Y3 _ h, hw, X9, hz]
theorem e_nodeErr (leaves : List Int) (hl : leaves.length ≤ 1000) (nodes : List Nod) (hnl : nodes.length ≤ 100000) (i : Nat) (x : Nod) (hx : nodes[i]? = some x) (hal : x.args.length ≤ 1000) :
  EE π Gb [.p (Z1 leaves), .p (Za nodes), .p (I i)] [] = some (.p (I (nodeE leaves nodes i x)), []) := by
 have hi := (List.getElem?_eq_some_iff.1 hx).1
 have hx2 := (List.getElem?_eq_some_iff.1 hx).2
 have hlp := ne_loop (π := π) leaves nodes i (by omega) x hal x.args []
 unfold nodeE
 by_cases h1 : Z8 x.op 0 18 = true
 ·have h1' := Zb.1 h1
  by_cases h2 : Z8 x.width 1 16 = true
  ·have h2' := Zb.1 h2
   have hk : x.op.toNat < 19 := by omega
   have hopn : x.op = (x.op.toNat : Int) := by omega
   have hac := fun π => Zgj (π := π) x.op.toNat hk
   rw [← hopn] at hac
   by_cases h3 : x.args.length = argc x.op.toNat
   ·have h3' : (x.args.length : Int) = (argc x.op.toNat : Int) := by omega
    by_cases h4 : Ky i x.args = true
    ·rw [h4, if_pos rfl] at hlp
     have hin : ∀ n ∈ x.args, 0 ≤ n ∧ n < (nodes.length : Int) := fun n hn => by
      have := Zb.1 (List.all_eq_true.1 h4 n hn)
      omega
     rw [show ∀ c d : Int, Z9 [unlE (Z8 x.op 0 18) 15, unlE (Z8 x.width 1 16) 2, unlE (decide (x.args.length = argc x.op.toNat)) 10, unlE (Ky i x.args) 9, c, d] = if c = 0 then (if d = 0 then 0 else d) else c from fun c d => by simp [Z9, unlE, h1, h2, h3, h4]]
     unfold valE
     simp [Vo, Z0, Wa, hi, hx2, X9, Nh, h1, h2, hac, h3', Z4, evRO]
     rw [hlp _ rfl (by simp)]
     by_cases o0 : x.op = 0
     ·have hfi := fun π => e_Fits (π := π) x.value x.width ⟨by omega, h2'.2⟩
      rw [o0] at h3
      generalize Y0 nodes x.args = W at *
      have : fitB 0 x.width W x.value = true := rfl
      cases hf : fitsB x.value x.width <;> simp [o0, hfi, hf, this, unlE, Z4, evRO]
     ·by_cases o1 : x.op = 1
      ·generalize Y0 nodes x.args = W at *
       have : fitB 1 x.width W x.value = true := rfl
       have hws : IntKind.i64.wrap ((leaves.length : Int) - 1) = (leaves.length : Int) - 1 := w64 ⟨by omega, by omega⟩
       by_cases hv : Z8 x.value 0 ((leaves.length : Int) - 1) = true
       ·have hv' := Zb.1 hv
        have hlt : x.value.toNat < leaves.length := by omega
        have hlt' : x.value < (leaves.length : Int) := by omega
        by_cases hw : leaves[x.value.toNat] = x.width <;> simp [o1, X9, hws, hv, hv'.1, hlt, hlt', hw, this, unlE, Z4, evRO]
       ·simp [o1, X9, hws, hv, this, unlE, Z4, evRO]
      ·have hwf := fun π => e_widthsFit (π := π) nodes hnl x hal hin (x.op.toNat - 2) (by omega) (by omega) (by rw [h3]; congr 1; omega)
       rw [show x.op.toNat - 2 + 2 = x.op.toNat by omega] at hwf
       generalize fitB x.op.toNat x.width (Y0 nodes x.args) x.value = fb at *
       by_cases o14 : x.op = 14
       ·simp only [Zl, o14] at hwf
        cases hv : Z8 x.value 0 15 <;> cases fb <;> simp [o14, X9, hv, hwf, unlE, Z4, evRO]
       ·have hh : hasV x.op.toNat = false := by
         obtain ⟨k, hk2⟩ : ∃ k, x.op.toNat = k := ⟨_, rfl⟩
         rw [hk2]; unfold hasV; split <;> first | rfl | omega
        by_cases hv : x.value = 0
        ·simp only [Zl, hv] at hwf
         cases fb <;> simp [o0, o1, o14, hv, hh, hwf, unlE, Z4, evRO]
        ·cases fb <;> simp [o0, o1, o14, hv, hh, unlE, Z4, evRO]
    ·have h4 : Ky i x.args = false := by simpa using h4
     rw [h4, if_neg (by simp)] at hlp
     generalize valE leaves x (hasV x.op.toNat) = c at *
     generalize fitB x.op.toNat x.width (Y0 nodes x.args) x.value = fb at *
     simp [Vo, Z0, Wa, hi, hx2, X9, Nh, h1, h2, hac, h3', Z4, evRO]
     rw [hlp _ rfl (by simp)]
     simp [Z9, unlE, h1, h2, h3, h4]
   ·have h3' : ¬ (x.args.length : Int) = (argc x.op.toNat : Int) := by omega
    generalize valE leaves x (hasV x.op.toNat) = c at *
    generalize fitB x.op.toNat x.width (Y0 nodes x.args) x.value = fb at *
    simp [Vo, Z0, Wa, hi, hx2, X9, Nh, h1, h2, hac, h3, h3', Z4, evRO, Z9, unlE]
  ·have h2 : Z8 x.width 1 16 = false := by simpa using h2
   simp [Vo, Z0, Wa, hi, hx2, X9, Nh, h1, h2, Z4, evRO, Z9, unlE]
 ·have h1 : Z8 x.op 0 18 = false := by simpa using h1
  simp [Vo, Z0, Wa, hi, hx2, X9, h1, Z4, evRO, Z9, unlE]
theorem Z96 {α : Type} {err : Nat → α → Int} : ∀ {l : List α} {i : Nat}, (eachE err i l).2 = 0 → ∀ k x, l[k]? = some x → err (i + k) x = 0
 | [], i, h, k, x, hk => by simp at hk
 | y :: r, i, h, k, x, hk => by
  simp only [eachE] at h
  split at h
  ·rename_i hy
   match k, hk with
   | 0, hk => simp at hk; subst hk; exact hy
   | k + 1, hk => rw [show i + (k + 1) = i + 1 + k by omega]; exact Z96 h k x (by simpa using hk)
  ·rename_i hy; exact absurd h hy
theorem Yc {leaves : List Int} {nodes : List Nod} (h : (X8 leaves nodes).2 = 0) : leaves.length ≤ 40 ∧ nodes.length ≤ 400 ∧ ∀ n ∈ leaves, 1 ≤ n ∧ n ≤ 16 := by
 unfold X8 at h
 split at h
 ·simp at h
 ·split at h
  ·rename_i h2; exact absurd h h2
  ·rename_i h1 h2
   split at h
   ·simp at h
   ·refine ⟨by omega, by omega, fun n hn => ?_⟩
    obtain ⟨k, hk⟩ := List.mem_iff_getElem?.1 hn
    have := Z96 (by simpa using h2) k n hk
    exact Zb.1 ((Qc (by decide)).1 this)
theorem L5 {leaves : List Int} {nodes : List Nod} (h : (X8 leaves nodes).2 = 0) : ∀ i x, nodes[i]? = some x → nodeE leaves nodes i x = 0 := by
 unfold X8 at h
 split at h
 ·simp at h
 ·split at h
  ·rename_i h2; exact absurd h h2
  ·split at h
   ·simp at h
   ·intro i x hx
    have := Z96 h i x hx
    simpa using this
theorem G7 {leaves : List Int} {nodes : List Nod} {i : Nat} {x : Nod} (h : nodeE leaves nodes i x = 0) :
  Z8 x.op 0 18 = true ∧ Z8 x.width 1 16 = true ∧ x.args.length = argc x.op.toNat ∧ Ky i x.args = true ∧ valE leaves x (hasV x.op.toNat) = 0 ∧ fitB x.op.toNat x.width (Y0 nodes x.args) x.value = true := by
 unfold nodeE at h
 simp only [Zp] at h
 obtain ⟨h1, h2, h3, h4, h5, h6, _⟩ := h
 exact ⟨(Qc (by decide)).1 h1, (Qc (by decide)).1 h2, by simpa using (Qc (by decide)).1 h3, (Qc (by decide)).1 h4, h5, (Qc (by decide)).1 h6⟩
theorem args_in {leaves : List Int} {nodes : List Nod} (h : (X8 leaves nodes).2 = 0) {i : Nat} {x : Nod} (hx : nodes[i]? = some x) : ∀ n ∈ x.args, 0 ≤ n ∧ n < (i : Int) := fun n hn => by
 have := Zb.1 (List.all_eq_true.1 (G7 (L5 h i x hx)).2.2.2.1 n hn)
 omega
def valN (nodes : List Nod) (L vs : List Int) (x : Nod) : Int :=
 if x.op = 1 then L.getD x.value.toNat 0 else appK x.op.toNat x (Y0 nodes x.args) (Wu vs x.args)
def valsN (nodes : List Nod) (L : List Int) : List Nod → List Int → List Int
 | [], vs => vs
 | x :: r, vs => valsN nodes L r (vs ++ [valN nodes L vs x])
structure InvV (nodes : List Nod) (k : Nat) (vs : List Int) : Prop where
 len : vs.length = k
 ok : ∀ j, j < k → Okv (vs.getD j 0) (widOf nodes (j : Int))
structure LeafOk (leaves L : List Int) : Prop where
 len : L.length = leaves.length
 ok : ∀ j, j < leaves.length → Okv (L.getD j 0) (leaves.getD j 0)
theorem widOf_get {nodes : List Nod} {j : Nat} {y : Nod} (h : nodes[j]? = some y) : widOf nodes (j : Int) = y.width := by
 unfold widOf
 simp [List.getD, h]
theorem app_ok {leaves : List Int} {nodes : List Nod} (hG : ∀ i x, nodes[i]? = some x → nodeE leaves nodes i x = 0) {k : Nat} {vs : List Int} (hI : InvV nodes k vs) {x : Nod} (hx : nodes[k]? = some x) (h1 : x.op ≠ 1) (h0 : x.op ≠ 0) :
  AppOk x.op.toNat x (Y0 nodes x.args) (Wu vs x.args) := by
 obtain ⟨ho, hw, hl, ha, hv, hf⟩ := G7 (hG k x hx)
 have ho' := Zb.1 ho
 have hw' := Zb.1 hw
 refine ⟨hw', by rw [List.length_map]; exact hl, by rw [List.length_map]; exact hl, fun i hi => ?_, hf, fun h14 => ?_⟩
 ·have hil : i < x.args.length := by omega
  have hn := Zb.1 (List.all_eq_true.1 ha x.args[i] (List.getElem_mem hil))
  have e1 : (Y0 nodes x.args).getD i 0 = widOf nodes x.args[i] := by simp [List.getD, hil]
  have e2 : (Wu vs x.args).getD i 0 = vs.getD x.args[i].toNat 0 := by simp [List.getD, hil]
  rw [e1, e2]
  have hj : x.args[i].toNat < k := by omega
  have hkl := (List.getElem?_eq_some_iff.1 hx).1
  have hjl : x.args[i].toNat < nodes.length := by omega
  have hy : nodes[x.args[i].toNat]? = some nodes[x.args[i].toNat] := List.getElem?_eq_getElem hjl
  have hcast : ((x.args[i].toNat : Nat) : Int) = x.args[i] := by omega
  have e3 := widOf_get hy
  rw [hcast] at e3
  have hwj := Zb.1 (G7 (hG _ _ hy)).2.1
  have hok := hI.ok _ hj
  rw [hcast] at hok
  exact ⟨by rw [e3]; exact hwj, hok⟩
 ·unfold valE at hv
  rw [if_neg h0, if_neg h1, if_pos (by omega)] at hv
  exact Zb.1 ((Qc (by decide)).1 hv)
theorem val_in {leaves L : List Int} {nodes : List Nod} (hG : ∀ i x, nodes[i]? = some x → nodeE leaves nodes i x = 0) (hL : LeafOk leaves L) {k : Nat} {vs : List Int} (hI : InvV nodes k vs) {x : Nod} (hx : nodes[k]? = some x) : Okv (valN nodes L vs x) x.width := by
 obtain ⟨ho, hw, hl, ha, hv, hf⟩ := G7 (hG k x hx)
 have ho' := Zb.1 ho
 have hw' := Zb.1 hw
 unfold valN
 split
 ·rename_i h1
  unfold valE at hv
  rw [if_neg (by omega), if_pos h1] at hv
  split at hv
  ·rename_i hin
   have hin' := Zb.1 hin
   have hwd : leaves.getD x.value.toNat 0 = x.width := by simpa using (Qc (by decide)).1 hv
   have := hL.ok x.value.toNat (by omega)
   rw [hwd] at this
   exact this
  ·exact absurd hv (by decide)
 ·rename_i h1
  by_cases h0 : x.op = 0
  ·unfold valE at hv
   rw [if_pos h0] at hv
   have hfi := (Qc (by decide)).1 hv
   unfold fitsB at hfi
   simp only [Bool.and_eq_true, decide_eq_true_eq] at hfi
   have := Zb.1 hfi.2
   have e : appK x.op.toNat x (Y0 nodes x.args) (Wu vs x.args) = x.value := by rw [h0]; rfl
   rw [e]
   exact ⟨this.1, by omega⟩
  ·exact appK_in ⟨by omega, by omega⟩ (app_ok hG hI hx h1 h0)
theorem Zhc {leaves L : List Int} {nodes : List Nod} (hG : ∀ i x, nodes[i]? = some x → nodeE leaves nodes i x = 0) (hL : LeafOk leaves L) {k : Nat} {vs : List Int} (hI : InvV nodes k vs) {x : Nod} (hx : nodes[k]? = some x) : InvV nodes (k + 1) (vs ++ [valN nodes L vs x]) := by
 have hlen := hI.len
 refine ⟨by simp [hlen], fun j hj => ?_⟩
 by_cases h : j < k
 ·rw [show (vs ++ [valN nodes L vs x]).getD j 0 = vs.getD j 0 by simp [List.getD, List.getElem?_append_left (show j < vs.length by omega)]]
  exact hI.ok j h
 ·have : j = k := by omega
  subst this
  rw [show (vs ++ [valN nodes L vs x]).getD j 0 = valN nodes L vs x by simp [List.getD, ← hlen], widOf_get hx]
  exact val_in hG hL hI hx
@[simp] theorem idsL_p : ∀ l : List PV, AV.ids.AV.idsL (l.map AV.p) = []
 | [] => rfl
 | x :: r => by rw [List.map_cons]; simp only [AV.ids.AV.idsL, AV.ids, idsL_p r]; rfl
theorem mapM_p11 (s : Sto) : ∀ l : List PV, l.mapM (toPV s 11 ∘ AV.p) = some l
 | [] => rfl
 | x :: r => by
  rw [List.mapM_cons, mapM_p11 s r]; rfl
@[simp] theorem kill_p (i : Id) : (AV.kill i ∘ AV.p) = AV.p := rfl
abbrev boxOps : Blk := .box false (opsPV.map AV.p)
theorem Zcp (fl : Option Bool) {leaves L : List Int} {nodes : List Nod} (hnl : nodes.length ≤ 1000) (hal : ∀ x ∈ nodes, x.args.length ≤ 1000) (hll : leaves.length ≤ 1000) (hG : ∀ i x, nodes[i]? = some x → nodeE leaves nodes i x = 0) (hL : LeafOk leaves L) :
  ∀ (suf pre : List Nod) (vs : List Int) (y : Env × Sto), nodes = pre ++ suf → InvV nodes pre.length vs →
  mask [0, 1, 5, 6, 11, 12, 13] [] y = some ([(0, .p (Za nodes)), (1, .p (.sl 1 fl (ints L))), (5, .ref (5 :: π) 0), (6, .ap (1006 :: π)), (11, .p (Za nodes)), (12, .p (I nodes.length)), (13, .p (I pre.length))], [rowI (1006 :: π) (flagE pre) vs, (5 :: π, boxOps)]) →
  kpO [6] [4] [] (bkO 0 (iter (round EE iter π [] [0, 1, 5, 6, 11, 12, 13] Z24) y)) = some (.nm, [(6, .ap (1006 :: π))], [rowI (1006 :: π) (flagE nodes) (valsN nodes L suf vs)])
 | [], pre, vs, y, h, hI, hm => by
  rw [Z3 hm]
  have : nodes = pre := by simpa using h
  simp [Z1m, Nn, valsN, ← this]
 | z :: suf, pre, vs, y, h, hI, hm => by
  rw [Z3 hm]
  have hlen : pre.length < nodes.length := by rw [h]; simp
  have hz := hal z (by rw [h]; simp)
  have hx : nodes[pre.length]? = some z := by rw [h]; simp
  have hvl := hI.len
  have hws := Zf hlen (show nodes.length ≤ top63 by simp only [top63]; omega)
  have hroom : vs.length + 1 ≤ room := by simp only [room]; omega
  have hnext := Zcp fl hnl hal hll hG hL suf (pre ++ [z]) (vs ++ [valN nodes L vs z])
  rw [show (pre ++ [z]).length = pre.length + 1 by simp, Yj] at hnext
  have hnext := fun y e => hnext y e (Zhc hG hL hI hx)
  obtain ⟨ho, hw, hl2, ha, hv, hf⟩ := G7 (hG _ z hx)
  have ho' := Zb.1 ho
  have hrs : valsN nodes L (z :: suf) vs = valsN nodes L suf (vs ++ [valN nodes L vs z]) := rfl
  rw [hrs]
  generalize valsN nodes L suf (vs ++ [valN nodes L vs z]) = RR at *
  by_cases h1 : z.op = 1
  ·unfold valE at hv
   rw [if_neg (by omega), if_pos h1] at hv
   split at hv
   ·rename_i hin
    have hin' := Zb.1 hin
    have hLl := hL.len
    have hlt : z.value.toNat < L.length := by omega
    have hlt' : z.value < (L.length : Int) := by omega
    have hval : valN nodes L vs z = L[z.value.toNat] := by unfold valN; rw [if_pos h1]; simp [List.getD, hlt]
    rw [hval] at hnext
    simp [Z1m, Nn, Zc h, Y3 _ h, h1, hin'.1, hlt, hlt', hroom]
    exact hnext _ (by simp [h]) (by simp [hws])
   ·exact absurd hv (by decide)
  ·have hap := fun π => e_applied (π := π) nodes vs z hz (fun n hn => by
    have := Zb.1 (List.all_eq_true.1 ha n hn)
    omega) ⟨ho'.1, by omega⟩ h1 (fun h0 => app_ok hG hI hx h1 (by omega))
   have hval : valN nodes L vs z = appK z.op.toNat z (Y0 nodes z.args) (Wu vs z.args) := by unfold valN; rw [if_neg h1]
   rw [← hval] at hap
   generalize valN nodes L vs z = r at *
   simp [Z1m, Nn, Zc h, Y3 _ h, h1, hap, hroom, mapM_p11, ops_fg, Z4, evRO]
   exact hnext _ (by simp [h]) (by simp [hws])
theorem e_valued {fl : Option Bool} {leaves L : List Int} {nodes : List Nod} (hnl : nodes.length ≤ 1000) (hal : ∀ x ∈ nodes, x.args.length ≤ 1000) (hll : leaves.length ≤ 1000) (hG : ∀ i x, nodes[i]? = some x → nodeE leaves nodes i x = 0) (hL : LeafOk leaves L) :
  EE π Z3c [.p (Za nodes), .p (.sl 1 fl (ints L))] [] = some (.ap (1006 :: π), [rowI (1006 :: π) (flagE nodes) (valsN nodes L nodes [])]) := by
 have hlp := Zcp (π := π) fl hnl hal hll hG hL nodes [] []
 generalize valsN nodes L nodes [] = RR at *
 simp [-Z4, -PV.cell1, ops_c1, c1_sl, c1_int, e_gr_valued, Z0, Z7p, Zbj, Zfz, freeze_p, mapM_p', ops_fg, Z8j, evRO, thaw, thaw1]
 rw [hlp _ rfl ⟨rfl, fun j hj => absurd hj (by simp)⟩ (by simp [flagE])]
 simp
def fitE (leaves : List Int) (i : Nat) (n : Int) : Int := unlE (fitsB n (leaves.getD i 0)) 2
theorem e_ValuesOf1 (leaves : List Int) (hlw : ∀ n ∈ leaves, 1 ≤ n ∧ n ≤ 16) (i : Nat) (hi : i < leaves.length) (n : Int) :
  EE π Qu [.p (I i), .p (I n), .p (.ptr [Z1 leaves])] [] = some (.p (I (fitE leaves i n)), []) := by
 have hgd : leaves.getD i 0 = leaves[i] := by simp [List.getD, hi]
 have hfi := fun π => e_fitsG (π := π) n leaves[i] (hlw _ (List.getElem_mem hi)).2
 unfold fitE
 rw [hgd]
 generalize fitsB n leaves[i] = b at *
 simp [Zdw, Z0, Z0j, hi, hfi, Yz]
def Yl (leaves values : List Int) : Int := if values.length ≠ leaves.length then 10 else (eachE (fitE leaves) 0 values).2
theorem Z8t {leaves values : List Int} (h : Yl leaves values = 0) : LeafOk leaves values := by
 unfold Yl at h
 split at h
 ·exact absurd h (by decide)
 ·rename_i hl
  have hl : values.length = leaves.length := by simpa using hl
  refine ⟨hl, fun j hj => ?_⟩
  have hv : values[j]? = some (values.getD j 0) := by simp [List.getD, show j < values.length by omega]
  have := Z96 h j _ hv
  unfold fitE at this
  rw [Nat.zero_add] at this
  have hf := (Qc (by decide)).1 this
  unfold fitsB at hf
  simp only [Bool.and_eq_true, decide_eq_true_eq] at hf
  have h2 := Zb.1 hf.2
  exact ⟨h2.1, by omega⟩
theorem Zgh (leaves : List Int) (nodes : List Nod) (values : List Int) (hll : leaves.length ≤ 1000) (hnl : nodes.length ≤ 1000) (hvl : values.length ≤ 1000) (hal : ∀ x ∈ nodes, x.args.length ≤ 1000) :
  EE π Ln [.p (Z1 leaves), .p (Za nodes), .p (Z1 values)] [] =
   (if (X8 leaves nodes).2 ≠ 0 then some (.p (.tup [.sl 1 (some true) [], I (X8 leaves nodes).2]), []) else if Yl leaves values ≠ 0 then some (.p (.tup [.sl 1 (some true) [], I (Yl leaves values)]), [])
    else some (.tup [.ap (1006 :: 36 :: π), .p (I 0)], [rowI (1006 :: 36 :: π) (flagE nodes) (valsN nodes values nodes [])])) := by
 have hge := fun π => e_graphErr (π := π) leaves nodes hal
 by_cases hc : (X8 leaves nodes).2 = 0
 ·obtain ⟨_, _, hlw⟩ := Yc hc
  have hG := L5 hc
  rw [hc] at hge
  rw [if_neg (by simp [hc])]
  by_cases hl : values.length = leaves.length
  ·have hl' : (values.length : Int) = leaves.length := by omega
   have hea := fun π => e_eachG (π := π) values (by simp only [top63]; omega) (f := Qu) (caps := [.ptr [Z1 leaves]]) (err := fitE leaves) (fun i x hx => by
    have := (List.getElem?_eq_some_iff.1 hx).1
    simpa using e_ValuesOf1 leaves hlw i (by omega) x)
   by_cases hv : Yl leaves values = 0
   ·have hva := fun π => e_valued (π := π) (fl := none) hnl hal hll hG (Z8t hv)
    have hv2 : (eachE (fitE leaves) 0 values).2 = 0 := by unfold Yl at hv; rwa [if_neg (by simp [hl])] at hv
    generalize valsN nodes values nodes [] = R at *
    generalize eachE (fitE leaves) 0 values = q at *
    simp [Fj, Z0, Pk, hge, hl', Yz, Nf, unlE, Z9, hea, hv, hv2, hva, Z4, evRO]
   ·have hv2 : Yl leaves values = (eachE (fitE leaves) 0 values).2 := by unfold Yl; rw [if_neg (by simp [hl])]
    rw [hv2] at hv ⊢
    generalize eachE (fitE leaves) 0 values = q at *
    simp [Fj, Z0, Pk, hge, hl', Yz, Nf, unlE, Z9, hea, hv, Z4, evRO]
  ·have hl' : ¬ (values.length : Int) = leaves.length := by omega
   have hv2 : Yl leaves values = 10 := by unfold Yl; rw [if_pos (by simpa using hl)]
   rw [hv2]
   simp [Fj, Z0, Pk, hge, hl', Yz, Nf, unlE, Z9, Z4, evRO]
 ·generalize (X8 leaves nodes).2 = c at *
  simp [Fj, Z0, Pk, hge, hc, Yz, Nf, Z9, Z4, evRO]
theorem H4 {E : Call} {s0 : Sto} {H : List Id} {lg : Bool} {n2 : Nat} {l2 : List Ins} : ∀ (l1 : List Ins) {n1 k : Nat} {e : Env} {s : Sto} {p : List (Id × Blk)} {A : List Apx} {U : List (Nat × List AV)} {C : List (Nat × Id)} {h : HSt}, l1.length = n1 → Yi E π s0 H lg k n1 l1 e s p A U C = some (h, []) →
  Yi E π s0 H lg k (n1 + n2) (l1 ++ l2) e s p A U C = Yi E π s0 H lg (k + n1) n2 l2 h.e h.s h.p h.A h.U h.C
 | [], n1, k, e, s, p, A, U, C, h, hl, hs => by
  subst hl
  simp [Yi] at hs
  subst hs
  simp
 | o :: r, n1, k, e, s, p, A, U, C, h, hl, hs => by
  obtain ⟨m, rfl⟩ : ∃ m, n1 = m + 1 := ⟨r.length, by simpa using hl.symm⟩
  have hl' : r.length = m := by simpa using hl
  rw [show m + 1 + n2 = (m + n2) + 1 by omega, List.cons_append]
  rw [show k + (m + 1) = k + 1 + m by omega]
  generalize hR : Yi E π s0 H lg (k + 1 + m) n2 l2 h.e h.s h.p h.A h.U h.C = R
  unfold Yi at hs ⊢
  split
  ·rename_i x hx
   rw [hx] at hs
   simp only at hs
   split at hs
   ·rename_i hc
    rw [if_pos hc]
    rw [← hR]; exact H4 r hl' hs
   ·cases hs
  ·rename_i hx
   rw [hx] at hs
   simp only at hs
   split
   ·rename_i y hy
    rw [hy] at hs
    simp only at hs
    split at hs
    ·rename_i hc
     rw [if_pos hc]
     rw [← hR]; exact H4 r hl' hs
    ·cases hs
   ·rename_i hy
    rw [hy] at hs
    simp only at hs
    cases hz : ldW lg s0 H o e with
    | some z =>
     simp only [hz] at hs ⊢
     rw [← hR]; exact H4 r hl' hs
    | none =>
     simp only [hz] at hs ⊢
     by_cases hcs : (lg && o.isCS) = true
     ·rw [if_pos hcs] at hs ⊢
      cases hw : callW E π s0 p H o e with
      | some w =>
       simp only [hw] at hs ⊢
       rw [← hR]; exact H4 r hl' hs
      | none =>
       rw [hw] at hs
       cases hs
     ·rw [if_neg hcs] at hs ⊢
      cases hst : stepA E π o e s with
      | none =>
       rw [hst] at hs
       cases hs
      | some z =>
       simp only [hst] at hs ⊢
       by_cases hlg : lg = true
       ·rw [if_pos hlg] at hs ⊢
        split at hs
        ·rename_i hc
         rw [if_pos hc]
         rw [← hR]; exact H4 r hl' hs
        ·cases hs
       ·rw [if_neg hlg] at hs ⊢
        rw [← hR]; exact H4 r hl' hs
def okU (a : Apx) (u : Nat × List AV) : Bool := u.1 == a.k || (u.2.all fun v => !v.ids.contains a.id) || a.anc.contains u.1
theorem okU_mk (a : Apx) (k : Nat) (l : List AV) : okU a (k, l) = (k == a.k || (l.all fun v => !v.ids.contains a.id) || a.anc.contains k) := rfl
theorem apxOk1 {e : Env} {s0 s : Sto} {p : List (Id × Blk)} {a : Apx} {U : List (Nat × List AV)} : apxOk s0 ⟨e, s, p, [a], U, []⟩ = (U.all (okU a) && (p ++ s).all fun x => !x.2.ids.contains a.id) := by
 simp only [apxOk, List.all_cons, List.all_nil, Bool.and_true]; rfl
theorem apxE1 {e : Env} {s : Sto} {p : List (Id × Blk)} {a : Apx} {U : List (Nat × List AV)} {t : Nat} : (apxE ⟨e, s, p, [a], U, []⟩).lookup t = if t = a.d then some (.ap a.id) else (e.lookup t).map fun v => if v.ids.contains a.id then .top else v := by
 have key : ∀ l : Env, (l.map fun x => (x.1, if x.2.ids.any (fun i => [a].any fun b => b.id == i) then AV.top else x.2)).lookup t = (l.lookup t).map fun v => if v.ids.contains a.id then .top else v := by
  intro l
  induction l with
  | nil => rfl
  | cons y r ih =>
   obtain ⟨k, v⟩ := y
   simp only [List.map_cons, List.lookup_cons, ih]
   have hb : v.ids.any (fun i => [a].any fun b => b.id == i) = v.ids.contains a.id := by
    rw [List.contains_eq_any_beq]
    congr 1
    funext i
    simp
   rw [hb]
   cases t == k <;> rfl
 show List.lookup t ((a.d, AV.ap a.id) :: _) = _
 rw [List.lookup_cons]
 by_cases h : t = a.d
 ·rw [if_pos h, h]; simp
 ·rw [if_neg h, show (t == a.d) = false by simpa using h]
  exact key e
def nvReg : List Ins := match Zw with | .sq _ (.sq (.bk _ (.op _ l _)) _) => l | _ => []
def nvA : List Ins := nvReg.take 14
def nvB : List Ins := nvReg.drop 14
theorem nv_chunkA (cells VC AC WC zs : List PV) (L : PV) (i p : Nat) (z v a b d : Int) (nl : Option Bool) (h1 : cells[i]? = some (.agg [I a, I b, .sl 1 none zs, I d])) (hp : zs[p]? = some (I z)) (hz : 0 ≤ z)
  (hvl : z.toNat < VC.length) (hv : VC[z.toNat] = I v) (hA : AC.length + 1 ≤ room) :
  ∃ e1 U1, Yi EE π [(1007 :: π, .row false t_int 1 nl AC), (1008 :: π, .row false t_int 1 nl WC), (12 :: π, .row false t_int 1 (some false) VC)] [1007 :: π] true 0 14 nvA
   [(0, .p (.sl 4 none cells)), (1, .p L), (5, .ap (12 :: π)), (6, .p (I i)), (7, .ap (1007 :: π)), (8, .ap (1008 :: π)), (9, .p (I p)), (26, .p (.bool true))] [(1008 :: π, .row false t_int 1 nl WC), (12 :: π, .row false t_int 1 (some false) VC)] [] [] [] [] =
   some (⟨e1, [(41 :: π, .row false t_int 1 (some false) [I v]), (1008 :: π, .row false t_int 1 nl WC), (12 :: π, .row false t_int 1 (some false) VC)], [(1007 :: π, .row false t_int 1 (some false) (AC ++ [I v]))], [⟨1007 :: π, 42, 13, [0, 1, 2, 3, 4, 5, 6, 7, 8, 9, 10, 11, 12]⟩], U1, []⟩, []) ∧
   (e1.lookup 0 = some (.p (.sl 4 none cells)) ∧ e1.lookup 1 = some (.p L) ∧ e1.lookup 5 = some (.ap (12 :: π)) ∧ e1.lookup 6 = some (.p (I i)) ∧ e1.lookup 8 = some (.ap (1008 :: π)) ∧ e1.lookup 9 = some (.p (I p))) ∧
   U1.all (okU ⟨1007 :: π, 42, 13, [0, 1, 2, 3, 4, 5, 6, 7, 8, 9, 10, 11, 12]⟩) = true := by
 obtain ⟨r, hr⟩ : ∃ r, Yi EE π [(1007 :: π, .row false t_int 1 nl AC), (1008 :: π, .row false t_int 1 nl WC), (12 :: π, .row false t_int 1 (some false) VC)] [1007 :: π] true 0 14 nvA
   [(0, .p (.sl 4 none cells)), (1, .p L), (5, .ap (12 :: π)), (6, .p (I i)), (7, .ap (1007 :: π)), (8, .ap (1008 :: π)), (9, .p (I p)), (26, .p (.bool true))] [(1008 :: π, .row false t_int 1 nl WC), (12 :: π, .row false t_int 1 (some false) VC)] [] [] [] [] = r := ⟨_, rfl⟩
 have h2 := hr
 simp [nvA, nvReg, Zw, h1, hp, hz, hv, hvl, hA] at h2
 subst h2
 refine ⟨_, _, hr, by simp, ?_⟩
 simp [-List.contains_cons, okU_mk]
theorem Zd9 (id : Id) (t : Nat) : ∀ e : Env, (Env.kill e id).lookup t = (e.lookup t).map (AV.kill id)
 | [] => rfl
 | (k, v) :: r => by
  have ih := Zd9 id t r
  unfold Env.kill at ih ⊢
  rw [List.map_cons, List.lookup_cons, List.lookup_cons, ih]
  cases t == k <;> rfl
theorem nv_hid (cells VC AC WC zs : List PV) (L : PV) (i p : Nat) (z v w a b d a2 d2 : Int) (q : PV) (nl : Option Bool) (h1 : cells[i]? = some (.agg [I a, I b, .sl 1 none zs, I d])) (hp : zs[p]? = some (I z)) (hz : 0 ≤ z)
  (h2 : cells[z.toNat]? = some (.agg [I a2, I w, q, I d2])) (hvl : z.toNat < VC.length) (hv : VC[z.toNat] = I v) :
  hidA EE π 28 nvReg [(0, .p (.sl 4 none cells)), (1, .p L), (5, .ap (12 :: π)), (6, .p (I i)), (7, .ap (1007 :: π)), (8, .ap (1008 :: π)), (9, .p (I p)), (26, .p (.bool true))] [(1007 :: π, .row false t_int 1 nl AC), (1008 :: π, .row false t_int 1 nl WC), (12 :: π, .row false t_int 1 (some false) VC)] [] = some [1007 :: π] := by
 simp [nvReg, Zw, h1, hp, hz, h2, hv, hvl]
theorem nv_region (cells VC AC WC zs : List PV) (L : PV) (i p : Nat) (z v w a b d a2 d2 : Int) (q : PV) (nl : Option Bool) (h1 : cells[i]? = some (.agg [I a, I b, .sl 1 none zs, I d])) (hp : zs[p]? = some (I z)) (hz : 0 ≤ z)
  (h2 : cells[z.toNat]? = some (.agg [I a2, I w, q, I d2])) (hvl : z.toNat < VC.length) (hv : VC[z.toNat] = I v) (hA : AC.length + 1 ≤ room) (hW : WC.length + 1 ≤ room) :
  opO (some [0, 1, 5, 6, 7, 8, 9]) (evRO EE π 28 nvReg [(0, .p (.sl 4 none cells)), (1, .p L), (5, .ap (12 :: π)), (6, .p (I i)), (7, .ap (1007 :: π)), (8, .ap (1008 :: π)), (9, .p (I p)), (26, .p (.bool true))] [(1007 :: π, .row false t_int 1 nl AC), (1008 :: π, .row false t_int 1 nl WC), (12 :: π, .row false t_int 1 (some false) VC)]
   (hidOf [(0, .p (.sl 4 none cells)), (1, .p L), (5, .ap (12 :: π)), (6, .p (I i)), (7, .ap (1007 :: π)), (8, .ap (1008 :: π)), (9, .p (I p)), (26, .p (.bool true))] 28 nvReg [])) = some (.nm, [(0, .p (.sl 4 none cells)), (1, .p L), (5, .ap (12 :: π)), (6, .p (I i)), (7, .ap (1007 :: π)), (8, .ap (1008 :: π)), (9, .p (I p))], [(1007 :: π, .row false t_int 1 (some false) (AC ++ [I v])), (56 :: π, .row false t_int 1 (some false) [I w]), (41 :: π, .row false t_int 1 (some false) [I v]), (1008 :: π, .row false t_int 1 (some false) (WC ++ [I w])), (12 :: π, .row false t_int 1 (some false) VC)]) := by
 obtain ⟨e1, U1, hs, ⟨l0, l1, l5, l6, l8, l9⟩, hU⟩ := nv_chunkA (π := π) cells VC AC WC zs L i p z v a b d nl h1 hp hz hvl hv hA
 have hh0 : hidOf [(0, .p (.sl 4 none cells)), (1, .p L), (5, .ap (12 :: π)), (6, .p (I i)), (7, .ap (1007 :: π)), (8, .ap (1008 :: π)), (9, .p (I p)), (26, .p (.bool true))] 28 nvReg [] = none := by rfl
 have hh := nv_hid (π := π) cells VC AC WC zs L i p z v w a b d a2 d2 q nl h1 hp hz h2 hvl hv
 rw [hh0]
 unfold evRO
 simp only
 rw [hh]
 simp only
 unfold evHO
 have hdd : dd [1007 :: π] = [1007 :: π] := rfl
 have hkb : kbx true [(1007 :: π, Blk.row false t_int 1 nl AC), (1008 :: π, .row false t_int 1 nl WC), (12 :: π, .row false t_int 1 (some false) VC)] [1007 :: π] = [] := by simp [kbx]
 rw [hdd, hkb]
 have hst := H4 (n1 := 14) (n2 := 14) (l2 := nvB) nvA rfl hs
 have hf : ([(1007 :: π, Blk.row false t_int 1 nl AC), (1008 :: π, .row false t_int 1 nl WC), (12 :: π, .row false t_int 1 (some false) VC)].filter fun x => !([1007 :: π].contains x.1)) = [(1008 :: π, .row false t_int 1 nl WC), (12 :: π, .row false t_int 1 (some false) VC)] := by simp
 rw [hf, show nvReg = nvA ++ nvB from rfl, show (28 : Nat) = 14 + 14 from rfl, hst]
 simp [-apxOk, -apxE, -Env.kill, Zd9, -List.contains_cons, apxOk1, apxE1, okU_mk, hU, l0, l1, l5, l6, l8, l9, nvB, nvReg, Zw, h1, hp, hz, h2, hW]
def nvH : IR := match Zw with | .sq a _ => a | x => x
def nvT : IR := match Zw with | .sq _ (.sq _ a) => a | x => x
theorem nv_body {E : Call} {L : Loop} {k0 : List Id} {e : Env} {s : Sto} : evC E L π k0 Q6 e s = evC E L π k0 (.sq nvH (.sq (.bk 3 (.op 28 nvReg (some [0, 1, 5, 6, 7, 8, 9]))) nvT)) e s := rfl
theorem nv_loop1 (nodes : List Nod) (L : PV) (V : List Int) (i : Nat) (x : Nod) (hx : nodes[i]? = some x) (hal : x.args.length ≤ 1000) (hin : ∀ n ∈ x.args, 0 ≤ n ∧ n < nodes.length ∧ n < V.length) :
  ∀ (suf pre : List Int) (y : Env × Sto), x.args = pre ++ suf →
  mask [0, 1, 5, 6, 7, 8, 9] [] y = some ([(0, .p (Za nodes)), (1, .p L), (5, .ap (12 :: π)), (6, .p (I i)), (7, .ap (1007 :: π)), (8, .ap (1008 :: π)), (9, .p (I pre.length))], [rowI (1007 :: π) (flagE pre) (Wu V pre), rowI (1008 :: π) (flagE pre) (Y0 nodes pre), rowI (12 :: π) (some false) V]) →
  kpO [0, 1, 5, 6, 7, 8] [4] [] (bkO 2 (iter (round EE iter π [] [0, 1, 5, 6, 7, 8, 9] Q6) y)) = some (.nm, [(0, .p (Za nodes)), (1, .p L), (5, .ap (12 :: π)), (6, .p (I i)), (7, .ap (1007 :: π)), (8, .ap (1008 :: π))], [rowI (1007 :: π) (flagE x.args) (Wu V x.args), rowI (1008 :: π) (flagE x.args) (Y0 nodes x.args), rowI (12 :: π) (some false) V])
 | [], pre, y, h, hm => by
  rw [Z3 hm]
  have : x.args = pre := by simpa using h
  have hi := (List.getElem?_eq_some_iff.1 hx).1
  have hx2 := (List.getElem?_eq_some_iff.1 hx).2
  simp [Z8a, Zw, hi, hx2, ← this]
 | z :: suf, pre, y, h, hm => by
  rw [Z3 hm]
  have hi := (List.getElem?_eq_some_iff.1 hx).1
  have hx2 := (List.getElem?_eq_some_iff.1 hx).2
  have hlen : pre.length < x.args.length := by rw [h]; simp
  obtain ⟨hz0, hz1, hz2⟩ := hin z (by rw [h]; simp)
  have hlt : z.toNat < nodes.length := by omega
  have hlv : z.toNat < V.length := by omega
  have hwid : widOf nodes z = nodes[z.toNat].width := by unfold widOf; simp [List.getD, hlt]
  have hgd : V.getD z.toNat 0 = V[z.toNat] := by simp [List.getD, hlv]
  have hws := Zf hlen (show x.args.length ≤ top63 by simp only [top63]; omega)
  have hroom : (ints (Y0 nodes pre)).length + 1 ≤ room := by rw [List.length_map, List.length_map]; simp only [room]; omega
  have hroomA : (ints (Wu V pre)).length + 1 ≤ room := by rw [List.length_map, List.length_map]; simp only [room]; omega
  have hreg := nv_region (π := π) (nodes.map Zl) (ints V) (ints (Wu V pre)) (ints (Y0 nodes pre)) (ints x.args) L i pre.length z V[z.toNat] nodes[z.toNat].width x.op x.width x.value nodes[z.toNat].op nodes[z.toNat].value (Z1 nodes[z.toNat].args) (flagE pre)
   (by rw [List.getElem?_map, hx]; rfl) (by rw [h]; simp) hz0 (by rw [List.getElem?_map, List.getElem?_eq_getElem hlt]; rfl) (by simpa using hlv) (by simp) hroomA hroom
  have hnext := nv_loop1 nodes L V i x hx hal hin suf (pre ++ [z])
  rw [show (pre ++ [z]).length = pre.length + 1 by simp, Yj, show Y0 nodes (pre ++ [z]) = Y0 nodes pre ++ [widOf nodes z] by simp, hwid, show Wu V (pre ++ [z]) = Wu V pre ++ [V.getD z.toNat 0] by simp, hgd] at hnext
  generalize Y0 nodes pre = R at *
  generalize Y0 nodes x.args = RR at *
  generalize Wu V pre = A at *
  generalize Wu V x.args = AA at *
  simp [nv_body, nvH, nvT, Zw, hi, hx2, Zc h, hreg]
  refine hnext _ (by simp [h]) ?_
  simp [hws]
theorem e_Apply0 (x : Nod) (hw : 0 ≤ x.width ∧ x.width ≤ 16) (w a L : AV) (ho : x.op = 0) :
  EE π Zs [.p (Zl x), a, w, L] [] = some (.p (I x.value), []) := by
 have hp := fun π => Yo (π := π) x.width hw
 obtain ⟨op, wd, ar, v⟩ := x
 simp only at hp ho hw ⊢
 generalize pw wd = P at *
 simp [Y4, Z0, Zv, hp, ho, evRO]
theorem e_Apply1 (x : Nod) (hw : 0 ≤ x.width ∧ x.width ≤ 16) (w a : AV) (L : List Int) (ho : x.op = 1) (hv : 0 ≤ x.value ∧ x.value < L.length) :
  EE π Zs [.p (Zl x), a, w, .p (Z1 L)] [] = some (.p (I (L.getD x.value.toNat 0)), []) := by
 have hp := fun π => Yo (π := π) x.width hw
 obtain ⟨op, wd, ar, v⟩ := x
 simp only at hp ho hw hv ⊢
 have hlt : v.toNat < L.length := by omega
 generalize pw wd = P at *
 simp [Y4, Z0, Zv, hp, ho, hv.1, hv.2, hlt, evRO]
theorem e_Apply_2 {x : Nod} (ho : x.op = 2) {w a : List Int} (h : AppOk 2 x w a) (L : AV) :
  EE π Zs [.p (Zl x), .p (Z1 a), .p (Z1 w), L] [] = some (.p (I (appK 2 x w a)), []) := by
 have hwd := h.wd
 have n0 : ¬ x.op = 0 := by omega
 have n1 : ¬ x.op = 1 := by omega
 have hp := fun π => Yo (π := π) x.width ⟨by omega, by omega⟩
 have hP1 := Xb x.width
 have hP2 := pw_le hwd.2
 obtain ⟨a0, rfl, rfl, h0⟩ := ok_not h
 simp only [Okv, appK, List.getD_cons_zero] at h0 ⊢
 generalize pw x.width = P at *
 have hw1 : IntKind.i64.wrap (P - 1) = P - 1 := w64 ⟨by omega, by omega⟩
 have hw2 : IntKind.i64.wrap (P - 1 - a0) = P - 1 - a0 := w64 ⟨by omega, by omega⟩
 simp [Y4, Z0, Zv, hp, evRO]
 simp [n0]
 simp [n1]
 simp [ho, hw1, hw2, evRO]
theorem e_Apply_3 {x : Nod} (ho : x.op = 3) {w a : List Int} (h : AppOk 3 x w a) (L : AV) :
  EE π Zs [.p (Zl x), .p (Z1 a), .p (Z1 w), L] [] = some (.p (I (appK 3 x w a)), []) := by
 have hwd := h.wd
 have n0 : ¬ x.op = 0 := by omega
 have n1 : ¬ x.op = 1 := by omega
 have n2 : ¬ x.op = 2 := by omega
 have hp := fun π => Yo (π := π) x.width ⟨by omega, by omega⟩
 have hP1 := Xb x.width
 have hP2 := pw_le hwd.2
 obtain ⟨a0, a1, rfl, rfl, h0, h1⟩ := Vr (by omega) h
 have hb : ibits .and .i64 a0 a1 = some (band a0 a1) := rfl
 simp only [appK, List.getD_cons_zero, List.getD_cons_succ]
 generalize pw x.width = P at *
 simp [Y4, Z0, Zv, hp, evRO]
 simp [n0]
 simp [n1]
 simp [n2]
 simp [ho, hb, evRO]
theorem e_Apply_4 {x : Nod} (ho : x.op = 4) {w a : List Int} (h : AppOk 4 x w a) (L : AV) :
  EE π Zs [.p (Zl x), .p (Z1 a), .p (Z1 w), L] [] = some (.p (I (appK 4 x w a)), []) := by
 have hwd := h.wd
 have n0 : ¬ x.op = 0 := by omega
 have n1 : ¬ x.op = 1 := by omega
 have n2 : ¬ x.op = 2 := by omega
 have n3 : ¬ x.op = 3 := by omega
 have hp := fun π => Yo (π := π) x.width ⟨by omega, by omega⟩
 have hP1 := Xb x.width
 have hP2 := pw_le hwd.2
 obtain ⟨a0, a1, rfl, rfl, h0, h1⟩ := Vr (by omega) h
 have hb : ibits .or .i64 a0 a1 = some (bor a0 a1) := rfl
 simp only [appK, List.getD_cons_zero, List.getD_cons_succ]
 generalize pw x.width = P at *
 simp [Y4, Z0, Zv, hp, evRO]
 simp [n0]
 simp [n1]
 simp [n2]
 simp [n3]
 simp [ho, hb, evRO]
theorem e_Apply_5 {x : Nod} (ho : x.op = 5) {w a : List Int} (h : AppOk 5 x w a) (L : AV) :
  EE π Zs [.p (Zl x), .p (Z1 a), .p (Z1 w), L] [] = some (.p (I (appK 5 x w a)), []) := by
 have hwd := h.wd
 have n0 : ¬ x.op = 0 := by omega
 have n1 : ¬ x.op = 1 := by omega
 have n2 : ¬ x.op = 2 := by omega
 have n3 : ¬ x.op = 3 := by omega
 have n4 : ¬ x.op = 4 := by omega
 have hp := fun π => Yo (π := π) x.width ⟨by omega, by omega⟩
 have hP1 := Xb x.width
 have hP2 := pw_le hwd.2
 obtain ⟨a0, a1, rfl, rfl, h0, h1⟩ := Vr (by omega) h
 have hb : ibits .xor .i64 a0 a1 = some (bxor a0 a1) := rfl
 simp only [appK, List.getD_cons_zero, List.getD_cons_succ]
 generalize pw x.width = P at *
 simp [Y4, Z0, Zv, hp, evRO]
 simp [n0]
 simp [n1]
 simp [n2]
 simp [n3]
 simp [n4]
 simp [ho, hb, evRO]
theorem e_Apply_6 {x : Nod} (ho : x.op = 6) {w a : List Int} (h : AppOk 6 x w a) (L : AV) :
  EE π Zs [.p (Zl x), .p (Z1 a), .p (Z1 w), L] [] = some (.p (I (appK 6 x w a)), []) := by
 have hwd := h.wd
 have n0 : ¬ x.op = 0 := by omega
 have n1 : ¬ x.op = 1 := by omega
 have n2 : ¬ x.op = 2 := by omega
 have n3 : ¬ x.op = 3 := by omega
 have n4 : ¬ x.op = 4 := by omega
 have n5 : ¬ x.op = 5 := by omega
 have hp := fun π => Yo (π := π) x.width ⟨by omega, by omega⟩
 have hP1 := Xb x.width
 have hP2 := pw_le hwd.2
 obtain ⟨a0, a1, rfl, rfl, h0, h1⟩ := Vr (by omega) h
 simp only [Okv, appK, List.getD_cons_zero, List.getD_cons_succ] at h0 h1 ⊢
 generalize pw x.width = P at *
 have hw1 : IntKind.i64.wrap (a0 + a1) = a0 + a1 := w64 ⟨by omega, by omega⟩
 have hm : (a0 + a1).tmod P = (a0 + a1) % P := Int.tmod_eq_emod_of_nonneg (by omega)
 have hP0 : ¬ P = 0 := by omega
 simp [Y4, Z0, Zv, hp, evRO]
 simp [n0]
 simp [n1]
 simp [n2]
 simp [n3]
 simp [n4]
 simp [n5]
 simp [ho, hw1, hm, hP0, evRO]
theorem e_Apply_7 {x : Nod} (ho : x.op = 7) {w a : List Int} (h : AppOk 7 x w a) (L : AV) :
  EE π Zs [.p (Zl x), .p (Z1 a), .p (Z1 w), L] [] = some (.p (I (appK 7 x w a)), []) := by
 have hwd := h.wd
 have n0 : ¬ x.op = 0 := by omega
 have n1 : ¬ x.op = 1 := by omega
 have n2 : ¬ x.op = 2 := by omega
 have n3 : ¬ x.op = 3 := by omega
 have n4 : ¬ x.op = 4 := by omega
 have n5 : ¬ x.op = 5 := by omega
 have n6 : ¬ x.op = 6 := by omega
 have hp := fun π => Yo (π := π) x.width ⟨by omega, by omega⟩
 have hP1 := Xb x.width
 have hP2 := pw_le hwd.2
 obtain ⟨a0, a1, rfl, rfl, h0, h1⟩ := Vr (by omega) h
 simp only [Okv, appK, List.getD_cons_zero, List.getD_cons_succ] at h0 h1 ⊢
 generalize pw x.width = P at *
 have hw1 : IntKind.i64.wrap (a0 - a1) = a0 - a1 := w64 ⟨by omega, by omega⟩
 have hw2 : IntKind.i64.wrap (a0 - a1 + P) = a0 - a1 + P := w64 ⟨by omega, by omega⟩
 have hm : (a0 - a1 + P).tmod P = (a0 - a1) % P := by rw [Int.tmod_eq_emod_of_nonneg (by omega)]; simp
 have hP0 : ¬ P = 0 := by omega
 simp [Y4, Z0, Zv, hp, evRO]
 simp [n0]
 simp [n1]
 simp [n2]
 simp [n3]
 simp [n4]
 simp [n5]
 simp [n6]
 simp [ho, hw1, hw2, hm, hP0, evRO]
theorem e_Apply_8 {x : Nod} (ho : x.op = 8) {w a : List Int} (h : AppOk 8 x w a) (L : AV) :
  EE π Zs [.p (Zl x), .p (Z1 a), .p (Z1 w), L] [] = some (.p (I (appK 8 x w a)), []) := by
 have hwd := h.wd
 have n0 : ¬ x.op = 0 := by omega
 have n1 : ¬ x.op = 1 := by omega
 have n2 : ¬ x.op = 2 := by omega
 have n3 : ¬ x.op = 3 := by omega
 have n4 : ¬ x.op = 4 := by omega
 have n5 : ¬ x.op = 5 := by omega
 have n6 : ¬ x.op = 6 := by omega
 have n7 : ¬ x.op = 7 := by omega
 have hp := fun π => Yo (π := π) x.width ⟨by omega, by omega⟩
 have hP1 := Xb x.width
 have hP2 := pw_le hwd.2
 obtain ⟨a0, a1, rfl, rfl, h0, h1⟩ := Vr (by omega) h
 simp only [Okv, appK, List.getD_cons_zero, List.getD_cons_succ] at h0 h1 ⊢
 generalize pw x.width = P at *
 have hml := Zfu (a := a0) (m := a1) ⟨h0.1, by omega⟩ ⟨h1.1, by omega⟩
 have hw1 : IntKind.i64.wrap (a0 * a1) = a0 * a1 := w64 ⟨by omega, by omega⟩
 have hm : (a0 * a1).tmod P = a0 * a1 % P := Int.tmod_eq_emod_of_nonneg hml.1
 have hP0 : ¬ P = 0 := by omega
 simp [Y4, Z0, Zv, hp, evRO]
 simp [n0]
 simp [n1]
 simp [n2]
 simp [n3]
 simp [n4]
 simp [n5]
 simp [n6]
 simp [n7]
 simp [ho, hw1, hm, hP0, evRO]
theorem e_Apply_9 {x : Nod} (ho : x.op = 9) {w a : List Int} (h : AppOk 9 x w a) (L : AV) :
  EE π Zs [.p (Zl x), .p (Z1 a), .p (Z1 w), L] [] = some (.p (I (appK 9 x w a)), []) := by
 have hwd := h.wd
 have n0 : ¬ x.op = 0 := by omega
 have n1 : ¬ x.op = 1 := by omega
 have n2 : ¬ x.op = 2 := by omega
 have n3 : ¬ x.op = 3 := by omega
 have n4 : ¬ x.op = 4 := by omega
 have n5 : ¬ x.op = 5 := by omega
 have n6 : ¬ x.op = 6 := by omega
 have n7 : ¬ x.op = 7 := by omega
 have n8 : ¬ x.op = 8 := by omega
 have hp := fun π => Yo (π := π) x.width ⟨by omega, by omega⟩
 have hP1 := Xb x.width
 have hP2 := pw_le hwd.2
 obtain ⟨a0, a1, w0, rfl, rfl, hw, hww, h0, h1⟩ := Zfp (by omega) h
 simp only [appK, bitV, List.getD_cons_zero, List.getD_cons_succ]
 generalize pw x.width = P at *
 simp [Y4, Z0, Zv, hp, evRO]
 simp [n0]
 simp [n1]
 simp [n2]
 simp [n3]
 simp [n4]
 simp [n5]
 simp [n6]
 simp [n7]
 simp [n8]
 by_cases hc : a0 = a1 <;> simp [ho, hc, e_Bit, evRO]
theorem e_Apply_10 {x : Nod} (ho : x.op = 10) {w a : List Int} (h : AppOk 10 x w a) (L : AV) :
  EE π Zs [.p (Zl x), .p (Z1 a), .p (Z1 w), L] [] = some (.p (I (appK 10 x w a)), []) := by
 have hwd := h.wd
 have n0 : ¬ x.op = 0 := by omega
 have n1 : ¬ x.op = 1 := by omega
 have n2 : ¬ x.op = 2 := by omega
 have n3 : ¬ x.op = 3 := by omega
 have n4 : ¬ x.op = 4 := by omega
 have n5 : ¬ x.op = 5 := by omega
 have n6 : ¬ x.op = 6 := by omega
 have n7 : ¬ x.op = 7 := by omega
 have n8 : ¬ x.op = 8 := by omega
 have n9 : ¬ x.op = 9 := by omega
 have hp := fun π => Yo (π := π) x.width ⟨by omega, by omega⟩
 have hP1 := Xb x.width
 have hP2 := pw_le hwd.2
 obtain ⟨a0, a1, w0, rfl, rfl, hw, hww, h0, h1⟩ := Zfp (by omega) h
 simp only [appK, bitV, List.getD_cons_zero, List.getD_cons_succ]
 generalize pw x.width = P at *
 simp [Y4, Z0, Zv, hp, evRO]
 simp [n0]
 simp [n1]
 simp [n2]
 simp [n3]
 simp [n4]
 simp [n5]
 simp [n6]
 simp [n7]
 simp [n8]
 simp [n9]
 by_cases hc : a0 < a1 <;> simp [ho, hc, e_Bit, evRO]
theorem e_Apply_11 {x : Nod} (ho : x.op = 11) {w a : List Int} (h : AppOk 11 x w a) (L : AV) :
  EE π Zs [.p (Zl x), .p (Z1 a), .p (Z1 w), L] [] = some (.p (I (appK 11 x w a)), []) := by
 have hwd := h.wd
 have n0 : ¬ x.op = 0 := by omega
 have n1 : ¬ x.op = 1 := by omega
 have n2 : ¬ x.op = 2 := by omega
 have n3 : ¬ x.op = 3 := by omega
 have n4 : ¬ x.op = 4 := by omega
 have n5 : ¬ x.op = 5 := by omega
 have n6 : ¬ x.op = 6 := by omega
 have n7 : ¬ x.op = 7 := by omega
 have n8 : ¬ x.op = 8 := by omega
 have n9 : ¬ x.op = 9 := by omega
 have n10 : ¬ x.op = 10 := by omega
 have hp := fun π => Yo (π := π) x.width ⟨by omega, by omega⟩
 have hP1 := Xb x.width
 have hP2 := pw_le hwd.2
 obtain ⟨a0, a1, w0, rfl, rfl, hw, hww, h0, h1⟩ := Zfp (by omega) h
 simp only [appK, bitV, List.getD_cons_zero, List.getD_cons_succ]
 have hs0 := fun π => Ze0 (π := π) a0 w0 hww h0
 have hs1 := fun π => Ze0 (π := π) a1 w0 hww h1
 generalize pw x.width = P at *
 generalize sgnV a0 w0 = S0 at *
 generalize sgnV a1 w0 = S1 at *
 simp [Y4, Z0, Zv, hp, evRO]
 simp [n0]
 simp [n1]
 simp [n2]
 simp [n3]
 simp [n4]
 simp [n5]
 simp [n6]
 simp [n7]
 simp [n8]
 simp [n9]
 simp [n10]
 by_cases hc : S0 < S1 <;> simp [ho, hs0, hs1, hc, e_Bit, evRO]
theorem e_Apply_12 {x : Nod} (ho : x.op = 12) {w a : List Int} (h : AppOk 12 x w a) (L : AV) :
  EE π Zs [.p (Zl x), .p (Z1 a), .p (Z1 w), L] [] = some (.p (I (appK 12 x w a)), []) := by
 have hwd := h.wd
 have n0 : ¬ x.op = 0 := by omega
 have n1 : ¬ x.op = 1 := by omega
 have n2 : ¬ x.op = 2 := by omega
 have n3 : ¬ x.op = 3 := by omega
 have n4 : ¬ x.op = 4 := by omega
 have n5 : ¬ x.op = 5 := by omega
 have n6 : ¬ x.op = 6 := by omega
 have n7 : ¬ x.op = 7 := by omega
 have n8 : ¬ x.op = 8 := by omega
 have n9 : ¬ x.op = 9 := by omega
 have n10 : ¬ x.op = 10 := by omega
 have n11 : ¬ x.op = 11 := by omega
 have hp := fun π => Yo (π := π) x.width ⟨by omega, by omega⟩
 have hP1 := Xb x.width
 have hP2 := pw_le hwd.2
 obtain ⟨a0, a1, a2, rfl, rfl, h1, h2⟩ := ok_mux h
 simp only [appK, List.getD_cons_zero, List.getD_cons_succ]
 generalize pw x.width = P at *
 simp [Y4, Z0, Zv, hp, evRO]
 simp [n0]
 simp [n1]
 simp [n2]
 simp [n3]
 simp [n4]
 simp [n5]
 simp [n6]
 simp [n7]
 simp [n8]
 simp [n9]
 simp [n10]
 simp [n11]
 by_cases hc : a0 = 1 <;> simp [ho, hc, evRO]
theorem e_Apply_13 {x : Nod} (ho : x.op = 13) {w a : List Int} (h : AppOk 13 x w a) (L : AV) :
  EE π Zs [.p (Zl x), .p (Z1 a), .p (Z1 w), L] [] = some (.p (I (appK 13 x w a)), []) := by
 have hwd := h.wd
 have n0 : ¬ x.op = 0 := by omega
 have n1 : ¬ x.op = 1 := by omega
 have n2 : ¬ x.op = 2 := by omega
 have n3 : ¬ x.op = 3 := by omega
 have n4 : ¬ x.op = 4 := by omega
 have n5 : ¬ x.op = 5 := by omega
 have n6 : ¬ x.op = 6 := by omega
 have n7 : ¬ x.op = 7 := by omega
 have n8 : ¬ x.op = 8 := by omega
 have n9 : ¬ x.op = 9 := by omega
 have n10 : ¬ x.op = 10 := by omega
 have n11 : ¬ x.op = 11 := by omega
 have n12 : ¬ x.op = 12 := by omega
 have hp := fun π => Yo (π := π) x.width ⟨by omega, by omega⟩
 have hP1 := Xb x.width
 have hP2 := pw_le hwd.2
 obtain ⟨a0, a1, w0, w1, rfl, rfl, hw, hw0, hw1, h0, h1⟩ := ok_join h
 simp only [appK, List.getD_cons_zero, List.getD_cons_succ]
 have hpw := fun π => Yo (π := π) w1 ⟨by omega, by omega⟩
 have hpl := pw_le (show w0 ≤ 16 by omega)
 have hpl1 := pw_le (show w1 ≤ 16 by omega)
 have hml := Zfu (a := a0) (m := pw w1) ⟨h0.1, by omega⟩ ⟨Int.le_of_lt (Xb w1), hpl1⟩
 have hwa : IntKind.i64.wrap (a0 * pw w1) = a0 * pw w1 := w64 ⟨by omega, by omega⟩
 have hwb : IntKind.i64.wrap (a0 * pw w1 + a1) = a0 * pw w1 + a1 := w64 ⟨by omega, by omega⟩
 generalize pw x.width = P at *
 generalize pw w1 = P1 at *
 simp [Y4, Z0, Zv, hp, evRO]
 simp [n0]
 simp [n1]
 simp [n2]
 simp [n3]
 simp [n4]
 simp [n5]
 simp [n6]
 simp [n7]
 simp [n8]
 simp [n9]
 simp [n10]
 simp [n11]
 simp [n12]
 simp [ho, hpw, hwa, hwb, evRO]
theorem e_Apply_14 {x : Nod} (ho : x.op = 14) {w a : List Int} (h : AppOk 14 x w a) (L : AV) :
  EE π Zs [.p (Zl x), .p (Z1 a), .p (Z1 w), L] [] = some (.p (I (appK 14 x w a)), []) := by
 have hwd := h.wd
 have n0 : ¬ x.op = 0 := by omega
 have n1 : ¬ x.op = 1 := by omega
 have n2 : ¬ x.op = 2 := by omega
 have n3 : ¬ x.op = 3 := by omega
 have n4 : ¬ x.op = 4 := by omega
 have n5 : ¬ x.op = 5 := by omega
 have n6 : ¬ x.op = 6 := by omega
 have n7 : ¬ x.op = 7 := by omega
 have n8 : ¬ x.op = 8 := by omega
 have n9 : ¬ x.op = 9 := by omega
 have n10 : ¬ x.op = 10 := by omega
 have n11 : ¬ x.op = 11 := by omega
 have n12 : ¬ x.op = 12 := by omega
 have n13 : ¬ x.op = 13 := by omega
 have hp := fun π => Yo (π := π) x.width ⟨by omega, by omega⟩
 have hP1 := Xb x.width
 have hP2 := pw_le hwd.2
 obtain ⟨a0, w0, rfl, rfl, hw, h0⟩ := ok_slice h
 have hv := h.val rfl
 simp only [appK, List.getD_cons_zero, List.getD_cons_succ]
 have hpw := fun π => Yo (π := π) x.value ⟨by omega, by omega⟩
 have hpv := Xb x.value
 have hpl := pw_le hw.2
 have hd : a0.tdiv (pw x.value) = a0 / pw x.value := Int.tdiv_eq_ediv_of_nonneg h0.1
 have hd0 := Int.ediv_nonneg h0.1 (Int.le_of_lt hpv)
 have hd1 := Int.ediv_le_self (pw x.value) h0.1
 have hwq : IntKind.i64.wrap (a0 / pw x.value) = a0 / pw x.value := w64 ⟨by omega, by omega⟩
 have hm : (a0 / pw x.value).tmod (pw x.width) = a0 / pw x.value % pw x.width := Int.tmod_eq_emod_of_nonneg hd0
 have hP0 : ¬ pw x.width = 0 := by omega
 have hV0 : ¬ pw x.value = 0 := by omega
 generalize pw x.width = P at *
 generalize pw x.value = V at *
 simp [Y4, Z0, Zv, hp, evRO]
 simp [n0]
 simp [n1]
 simp [n2]
 simp [n3]
 simp [n4]
 simp [n5]
 simp [n6]
 simp [n7]
 simp [n8]
 simp [n9]
 simp [n10]
 simp [n11]
 simp [n12]
 simp [n13]
 simp [ho, hpw, hd, hwq, hm, hP0, hV0, evRO]
theorem e_Apply_15 {x : Nod} (ho : x.op = 15) {w a : List Int} (h : AppOk 15 x w a) (L : AV) :
  EE π Zs [.p (Zl x), .p (Z1 a), .p (Z1 w), L] [] = some (.p (I (appK 15 x w a)), []) := by
 have hwd := h.wd
 have n0 : ¬ x.op = 0 := by omega
 have n1 : ¬ x.op = 1 := by omega
 have n2 : ¬ x.op = 2 := by omega
 have n3 : ¬ x.op = 3 := by omega
 have n4 : ¬ x.op = 4 := by omega
 have n5 : ¬ x.op = 5 := by omega
 have n6 : ¬ x.op = 6 := by omega
 have n7 : ¬ x.op = 7 := by omega
 have n8 : ¬ x.op = 8 := by omega
 have n9 : ¬ x.op = 9 := by omega
 have n10 : ¬ x.op = 10 := by omega
 have n11 : ¬ x.op = 11 := by omega
 have n12 : ¬ x.op = 12 := by omega
 have n13 : ¬ x.op = 13 := by omega
 have n14 : ¬ x.op = 14 := by omega
 have hp := fun π => Yo (π := π) x.width ⟨by omega, by omega⟩
 have hP1 := Xb x.width
 have hP2 := pw_le hwd.2
 obtain ⟨a0, w0, rfl, rfl, hw, hle, h0⟩ := Zd1 (by omega) h
 simp only [appK, List.getD_cons_zero]
 generalize pw x.width = P at *
 simp [Y4, Z0, Zv, hp, evRO]
 simp [n0]
 simp [n1]
 simp [n2]
 simp [n3]
 simp [n4]
 simp [n5]
 simp [n6]
 simp [n7]
 simp [n8]
 simp [n9]
 simp [n10]
 simp [n11]
 simp [n12]
 simp [n13]
 simp [n14]
 simp [ho, evRO]
theorem e_Apply_16 {x : Nod} (ho : x.op = 16) {w a : List Int} (h : AppOk 16 x w a) (L : AV) :
  EE π Zs [.p (Zl x), .p (Z1 a), .p (Z1 w), L] [] = some (.p (I (appK 16 x w a)), []) := by
 have hwd := h.wd
 have n0 : ¬ x.op = 0 := by omega
 have n1 : ¬ x.op = 1 := by omega
 have n2 : ¬ x.op = 2 := by omega
 have n3 : ¬ x.op = 3 := by omega
 have n4 : ¬ x.op = 4 := by omega
 have n5 : ¬ x.op = 5 := by omega
 have n6 : ¬ x.op = 6 := by omega
 have n7 : ¬ x.op = 7 := by omega
 have n8 : ¬ x.op = 8 := by omega
 have n9 : ¬ x.op = 9 := by omega
 have n10 : ¬ x.op = 10 := by omega
 have n11 : ¬ x.op = 11 := by omega
 have n12 : ¬ x.op = 12 := by omega
 have n13 : ¬ x.op = 13 := by omega
 have n14 : ¬ x.op = 14 := by omega
 have n15 : ¬ x.op = 15 := by omega
 have hp := fun π => Yo (π := π) x.width ⟨by omega, by omega⟩
 have hP1 := Xb x.width
 have hP2 := pw_le hwd.2
 obtain ⟨a0, w0, rfl, rfl, hw, hle, h0⟩ := Zd1 (by omega) h
 simp only [appK, List.getD_cons_zero]
 have hs0 := fun π => Ze0 (π := π) a0 w0 hw h0
 have hmo := pw_mono hle
 have hsg : - pw w0 ≤ sgnV a0 w0 ∧ sgnV a0 w0 < pw w0 := by
  have := h0.1
  have := h0.2
  have := Xb w0
  unfold sgnV; split <;> omega
 generalize sgnV a0 w0 = S0 at *
 generalize pw x.width = P at *
 have hw2 : IntKind.i64.wrap (S0 + P) = S0 + P := w64 ⟨by omega, by omega⟩
 have hm : (S0 + P).tmod P = S0 % P := by rw [Int.tmod_eq_emod_of_nonneg (by omega)]; simp
 have hP0 : ¬ P = 0 := by omega
 simp [Y4, Z0, Zv, hp, evRO]
 simp [n0]
 simp [n1]
 simp [n2]
 simp [n3]
 simp [n4]
 simp [n5]
 simp [n6]
 simp [n7]
 simp [n8]
 simp [n9]
 simp [n10]
 simp [n11]
 simp [n12]
 simp [n13]
 simp [n14]
 simp [n15]
 simp [ho, hs0, hw2, hm, hP0, evRO]
theorem e_Apply_17 {x : Nod} (ho : x.op = 17) {w a : List Int} (h : AppOk 17 x w a) (L : AV) :
  EE π Zs [.p (Zl x), .p (Z1 a), .p (Z1 w), L] [] = some (.p (I (appK 17 x w a)), []) := by
 have hwd := h.wd
 have n0 : ¬ x.op = 0 := by omega
 have n1 : ¬ x.op = 1 := by omega
 have n2 : ¬ x.op = 2 := by omega
 have n3 : ¬ x.op = 3 := by omega
 have n4 : ¬ x.op = 4 := by omega
 have n5 : ¬ x.op = 5 := by omega
 have n6 : ¬ x.op = 6 := by omega
 have n7 : ¬ x.op = 7 := by omega
 have n8 : ¬ x.op = 8 := by omega
 have n9 : ¬ x.op = 9 := by omega
 have n10 : ¬ x.op = 10 := by omega
 have n11 : ¬ x.op = 11 := by omega
 have n12 : ¬ x.op = 12 := by omega
 have n13 : ¬ x.op = 13 := by omega
 have n14 : ¬ x.op = 14 := by omega
 have n15 : ¬ x.op = 15 := by omega
 have n16 : ¬ x.op = 16 := by omega
 have hp := fun π => Yo (π := π) x.width ⟨by omega, by omega⟩
 have hP1 := Xb x.width
 have hP2 := pw_le hwd.2
 obtain ⟨a0, a1, w1, rfl, rfl, hw, h0, h1⟩ := Z8k (by omega) h
 simp only [appK, shlV, List.getD_cons_zero, List.getD_cons_succ]
 by_cases hc : x.width ≤ a1
 ·generalize pw x.width = P at *
  simp [Y4, Z0, Zv, hp, evRO]
  simp [n0]
  simp [n1]
  simp [n2]
  simp [n3]
  simp [n4]
  simp [n5]
  simp [n6]
  simp [n7]
  simp [n8]
  simp [n9]
  simp [n10]
  simp [n11]
  simp [n12]
  simp [n13]
  simp [n14]
  simp [n15]
  simp [n16]
  simp [ho, hc, evRO]
 ·have hpw := fun π => Yo (π := π) a1 ⟨h1.1, by omega⟩
  have hml := Zfu (a := a0) (m := pw a1) ⟨h0.1, by have := h0.2; omega⟩ ⟨Int.le_of_lt (Xb a1), pw_le (by omega)⟩
  have hwa : IntKind.i64.wrap (a0 * pw a1) = a0 * pw a1 := w64 ⟨by omega, by omega⟩
  have hm : (a0 * pw a1).tmod (pw x.width) = a0 * pw a1 % pw x.width := Int.tmod_eq_emod_of_nonneg hml.1
  have hP0 : ¬ pw x.width = 0 := by omega
  generalize pw x.width = P at *
  generalize pw a1 = P1 at *
  simp [Y4, Z0, Zv, hp, evRO]
  simp [n0]
  simp [n1]
  simp [n2]
  simp [n3]
  simp [n4]
  simp [n5]
  simp [n6]
  simp [n7]
  simp [n8]
  simp [n9]
  simp [n10]
  simp [n11]
  simp [n12]
  simp [n13]
  simp [n14]
  simp [n15]
  simp [n16]
  simp [ho, hc, hpw, hwa, hm, hP0, evRO]
theorem e_Apply_18 {x : Nod} (ho : x.op = 18) {w a : List Int} (h : AppOk 18 x w a) (L : AV) :
  EE π Zs [.p (Zl x), .p (Z1 a), .p (Z1 w), L] [] = some (.p (I (appK 18 x w a)), []) := by
 have hwd := h.wd
 have n0 : ¬ x.op = 0 := by omega
 have n1 : ¬ x.op = 1 := by omega
 have n2 : ¬ x.op = 2 := by omega
 have n3 : ¬ x.op = 3 := by omega
 have n4 : ¬ x.op = 4 := by omega
 have n5 : ¬ x.op = 5 := by omega
 have n6 : ¬ x.op = 6 := by omega
 have n7 : ¬ x.op = 7 := by omega
 have n8 : ¬ x.op = 8 := by omega
 have n9 : ¬ x.op = 9 := by omega
 have n10 : ¬ x.op = 10 := by omega
 have n11 : ¬ x.op = 11 := by omega
 have n12 : ¬ x.op = 12 := by omega
 have n13 : ¬ x.op = 13 := by omega
 have n14 : ¬ x.op = 14 := by omega
 have n15 : ¬ x.op = 15 := by omega
 have n16 : ¬ x.op = 16 := by omega
 have n17 : ¬ x.op = 17 := by omega
 have hp := fun π => Yo (π := π) x.width ⟨by omega, by omega⟩
 have hP1 := Xb x.width
 have hP2 := pw_le hwd.2
 obtain ⟨a0, a1, w1, rfl, rfl, hw, h0, h1⟩ := Z8k (by omega) h
 simp only [appK, shrV, List.getD_cons_zero, List.getD_cons_succ]
 by_cases hc : x.width ≤ a1
 ·generalize pw x.width = P at *
  simp [Y4, Z0, Zv, hp, evRO]
  simp [n0]
  simp [n1]
  simp [n2]
  simp [n3]
  simp [n4]
  simp [n5]
  simp [n6]
  simp [n7]
  simp [n8]
  simp [n9]
  simp [n10]
  simp [n11]
  simp [n12]
  simp [n13]
  simp [n14]
  simp [n15]
  simp [n16]
  simp [n17]
  simp [ho, hc, evRO]
 ·have hpw := fun π => Yo (π := π) a1 ⟨h1.1, by omega⟩
  have hpv := Xb a1
  have hd : a0.tdiv (pw a1) = a0 / pw a1 := Int.tdiv_eq_ediv_of_nonneg h0.1
  have hd0 := Int.ediv_nonneg h0.1 (Int.le_of_lt hpv)
  have hd1 := Int.ediv_le_self (pw a1) h0.1
  have hwq : IntKind.i64.wrap (a0 / pw a1) = a0 / pw a1 := w64 ⟨by omega, by have := h0.2; omega⟩
  have hV0 : ¬ pw a1 = 0 := by omega
  generalize pw x.width = P at *
  generalize pw a1 = V at *
  simp [Y4, Z0, Zv, hp, evRO]
  simp [n0]
  simp [n1]
  simp [n2]
  simp [n3]
  simp [n4]
  simp [n5]
  simp [n6]
  simp [n7]
  simp [n8]
  simp [n9]
  simp [n10]
  simp [n11]
  simp [n12]
  simp [n13]
  simp [n14]
  simp [n15]
  simp [n16]
  simp [n17]
  simp [ho, hc, hpw, hd, hwq, hV0, evRO]
theorem e_ApplyK {k : Nat} (hk : 2 ≤ k ∧ k < 19) {x : Nod} (ho : x.op = (k : Int)) {w a : List Int} (h : AppOk k x w a) (L : AV) :
  EE π Zs [.p (Zl x), .p (Z1 a), .p (Z1 w), L] [] = some (.p (I (appK k x w a)), []) := by
 match k, hk with
 | 2, _ => exact e_Apply_2 ho h L
 | 3, _ => exact e_Apply_3 ho h L
 | 4, _ => exact e_Apply_4 ho h L
 | 5, _ => exact e_Apply_5 ho h L
 | 6, _ => exact e_Apply_6 ho h L
 | 7, _ => exact e_Apply_7 ho h L
 | 8, _ => exact e_Apply_8 ho h L
 | 9, _ => exact e_Apply_9 ho h L
 | 10, _ => exact e_Apply_10 ho h L
 | 11, _ => exact e_Apply_11 ho h L
 | 12, _ => exact e_Apply_12 ho h L
 | 13, _ => exact e_Apply_13 ho h L
 | 14, _ => exact e_Apply_14 ho h L
 | 15, _ => exact e_Apply_15 ho h L
 | 16, _ => exact e_Apply_16 ho h L
 | 17, _ => exact e_Apply_17 ho h L
 | 18, _ => exact e_Apply_18 ho h L
 | k + 19, hk => exact absurd hk.2 (by omega)
theorem e_ApplyN {leaves L : List Int} {nodes : List Nod} (hG : ∀ i x, nodes[i]? = some x → nodeE leaves nodes i x = 0) (hL : LeafOk leaves L) {k : Nat} {vs : List Int} (hI : InvV nodes k vs) {x : Nod} (hx : nodes[k]? = some x) :
  EE π Zs [.p (Zl x), .p (Z1 (Wu vs x.args)), .p (Z1 (Y0 nodes x.args)), .p (Z1 L)] [] = some (.p (I (valN nodes L vs x)), []) := by
 obtain ⟨ho, hw, hl, ha, hv, hf⟩ := G7 (hG k x hx)
 have ho' := Zb.1 ho
 have hw' := Zb.1 hw
 unfold valN
 by_cases h1 : x.op = 1
 ·rw [if_pos h1]
  unfold valE at hv
  rw [if_neg (by omega), if_pos h1] at hv
  split at hv
  ·rename_i hin
   have hin' := Zb.1 hin
   have hLl := hL.len
   exact e_Apply1 x ⟨by omega, by omega⟩ _ _ L h1 ⟨by omega, by omega⟩
  ·exact absurd hv (by decide)
 ·rw [if_neg h1]
  by_cases h0 : x.op = 0
  ·rw [e_Apply0 x ⟨by omega, by omega⟩ _ _ _ h0, h0]; rfl
  ·exact e_ApplyK (k := x.op.toNat) ⟨by omega, by omega⟩ (by omega) (app_ok hG hI hx h1 h0) _
theorem argsOf_app (vs zs : List Int) (l : List Int) (h : ∀ n ∈ l, n.toNat < vs.length) : Wu (vs ++ zs) l = Wu vs l := by
 apply List.map_congr_left
 intro n hn
 simp [List.getD, List.getElem?_append_left (h n hn)]
theorem set_zero (vs : List Int) (k : Nat) (r : Int) : (ints (vs ++ List.replicate (k + 1) 0)).set vs.length (I r) = ints ((vs ++ [r]) ++ List.replicate k 0) := by
 rw [List.replicate_succ]
 simp [List.set_append]
theorem nv_loop0 {leaves L : List Int} {nodes : List Nod} (hnl : nodes.length ≤ 1000) (hal : ∀ x ∈ nodes, x.args.length ≤ 1000) (hG : ∀ i x, nodes[i]? = some x → nodeE leaves nodes i x = 0) (hL : LeafOk leaves L) :
  ∀ (suf pre : List Nod) (vs : List Int) (y : Env × Sto), nodes = pre ++ suf → InvV nodes pre.length vs →
  mask [0, 1, 5, 6] [] y = some ([(0, .p (Za nodes)), (1, .p (Z1 L)), (5, .ap (12 :: π)), (6, .p (I pre.length))], [rowI (12 :: π) (some false) (vs ++ List.replicate suf.length 0)]) →
  kpO [5] [4] [] (bkO 0 (iter (round EE iter π [] [0, 1, 5, 6] K4) y)) = some (.nm, [(5, .ap (12 :: π))], [rowI (12 :: π) (some false) (valsN nodes L suf vs)])
 | [], pre, vs, y, h, hI, hm => by
  rw [Z3 hm]
  have : nodes = pre := by simpa using h
  simp [Z0x, Q8, valsN, ← this]
 | z :: suf, pre, vs, y, h, hI, hm => by
  rw [Z3 hm]
  have hlen : pre.length < nodes.length := by rw [h]; simp
  have hz := hal z (by rw [h]; simp)
  have hx : nodes[pre.length]? = some z := by rw [h]; simp
  have hvl := hI.len
  have hws := Zf hlen (show nodes.length ≤ top63 by simp only [top63]; omega)
  obtain ⟨ho, hw, hl2, ha, hv, hf⟩ := G7 (hG _ z hx)
  have hin : ∀ n ∈ z.args, 0 ≤ n ∧ n < (pre.length : Int) := fun n hn => by
   have := Zb.1 (List.all_eq_true.1 ha n hn); omega
  have hap := fun π => e_ApplyN (π := π) hG hL hI hx
  have hl1 := nv_loop1 (π := π) nodes (Z1 L) (vs ++ List.replicate (suf.length + 1) 0) pre.length z hx hz (fun n hn => by
   have := hin n hn
   exact ⟨this.1, by omega, by simp; omega⟩) z.args []
  rw [argsOf_app _ _ z.args (fun n hn => by have := hin n hn; omega)] at hl1
  have hnext := nv_loop0 hnl hal hG hL suf (pre ++ [z]) (vs ++ [valN nodes L vs z])
  rw [show (pre ++ [z]).length = pre.length + 1 by simp] at hnext
  have hnext := fun y e => hnext y e (Zhc hG hL hI hx)
  have hset := set_zero vs suf.length (valN nodes L vs z)
  rw [hvl] at hset
  have hlt : pre.length < (vs ++ List.replicate (suf.length + 1) (0 : Int)).length := by simp; omega
  have hrs : valsN nodes L (z :: suf) vs = valsN nodes L suf (vs ++ [valN nodes L vs z]) := rfl
  rw [hrs]
  simp only [List.length_cons] at hm hl1 ⊢
  generalize valsN nodes L suf (vs ++ [valN nodes L vs z]) = RR at *
  generalize valN nodes L vs z = r at *
  generalize (vs ++ [r]) ++ List.replicate suf.length (0 : Int) = V2 at *
  generalize vs ++ List.replicate (suf.length + 1) (0 : Int) = V at *
  generalize Wu vs z.args = A at *
  generalize Y0 nodes z.args = W at *
  have hgm := Y3 Zl h
  simp [Z0x, Q8, Zc h, thaw, thaw1]
  rw [hl1 _ rfl (by simp [flagE])]
  simp [Y3 _ h, hap, hlt, Z4]
  refine hnext _ (by simp [h]) ?_
  simp [hws]
  exact hset
theorem Zbm {leaves L : List Int} {nodes : List Nod} (hnl : nodes.length ≤ 1000) (hal : ∀ x ∈ nodes, x.args.length ≤ 1000) (hG : ∀ i x, nodes[i]? = some x → nodeE leaves nodes i x = 0) (hL : LeafOk leaves L) :
  EE π Qn [.p (Za nodes), .p (Z1 L)] [] = some (.ap (12 :: π), [rowI (12 :: π) (some false) (valsN nodes L nodes [])]) := by
 have hlp := nv_loop0 (π := π) hnl hal hG hL nodes [] []
 have hro : nodes.length ≤ room := by simp only [room]; omega
 have hrep : List.replicate nodes.length (PV.int .i64 0) = ints (List.replicate nodes.length 0) := by simp
 simp only [List.nil_append] at hlp
 generalize List.replicate nodes.length (0 : Int) = o at *
 generalize valsN nodes L nodes [] = RR at *
 simp [Zdp, Z0, Z0c, hro, hrep]
 rw [hlp _ trivial ⟨rfl, fun j hj => absurd hj (by simp)⟩ (by simp)]
 simp
end Go.Proofs.YteecfnfjlclhdaaGreat.V
