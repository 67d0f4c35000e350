/- Small functions: graph's, the base's. The operations. Which widths fit; the error of a node's value. The error of a node; of a graph. Numbers bit by bit: what the operations of nodes compute. The operations of nodes, in the evaluator. What each operation computes. What a node's operation computes, b -/
import Derived.Test.YteecfnfjlclhdaaGreatT2

set_option linter.unusedSimpArgs false
set_option linter.unusedVariables false

/- Small functions: graph's, the base's. -/
namespace Go.Proofs.YteecfnfjlclhdaaGreat.V
open Go (IntKind BinOp UnOp)
variable {π : Id}
abbrev I (n : Int) : PV := .int .i64 n
abbrev ints (l : List Int) : List PV := l.map I
abbrev Z2 (l : List Int) : PV := .sl 1 none (ints l)
abbrev ok64 (n : Int) : Prop := -9223372036854775808 ≤ n ∧ n ≤ 9223372036854775807
abbrev top63 : Nat := 9223372036854775807
theorem w64 {n : Int} (h : ok64 n) : IntKind.i64.wrap n = n := Z1e h.1 h.2
theorem Zb {n m : Nat} (h : n < m) (hm : m ≤ top63) : IntKind.i64.wrap ((n : Int) + 1) = (n : Int) + 1 := Z1e (by omega) (by simp only [top63] at hm; omega)
def Z6 (n lo hi : Int) : Bool := decide (lo ≤ n) && decide (n ≤ hi)
theorem W6 (a b c : Int) : EE π Yf [.p (I a), .p (I b), .p (I c)] [] = some (.p (.bool (Z6 a b c)), []) := by
 by_cases h : b ≤ a <;> simp [e_rb_Within, Z1, Z80, Z6, h]
theorem Z0f (a b c : Int) : EE π Vd [.p (I a), .p (I b), .p (I c)] [] = some (.p (.bool (Z6 a b c)), []) := by
 by_cases h : b ≤ a <;> simp [e_gr_within, Z1, Z85, Z6, h]
def unlE (b : Bool) (e : Int) : Int := if b then 0 else e
theorem Wk (a : Bool) (c : Int) : EE π Yg [.p (.bool a), .p (I c)] [] = some (.p (I (unlE a c)), []) := by
 cases a <;> simp [e_gr_unless, Z1, Z86, unlE]
def Z9 : List Int → Int
 | [] => 0
 | x :: l => if x = 0 then Z9 l else x
theorem Zd3 (l : List Int) (hl : l.length ≤ top63) : ∀ (suf pre : List Int) (x : Env × Sto), l = pre ++ suf → mask [5, 6, 7] [] x = some ([(5, .p (Z2 l)), (6, .p (I l.length)), (7, .p (I pre.length))], []) →
  kpO [] [2] [] (bkO 0 (iter (round EE iter π [] [5, 6, 7] Z4j) x)) = (if Z9 suf = 0 then some (.nm, [], []) else some (.rt, [(2, .p (I (Z9 suf)))], []))
 | [], pre, x, h, hm => by
  rw [Z0 hm]
  subst h
  simp [Z3p, K7, Z9]
 | y :: suf, pre, x, h, hm => by
  rw [Z0 hm]
  by_cases hy : y = 0
  ·simp [Z3p, K7, Z7 h, Zt _ h, hy, Z9]
   exact Zd3 l hl suf (pre ++ [y]) _ (by simp [h]) (by simp [Zb (show pre.length < l.length by have := Z7 h; omega) hl])
  ·simp [Z3p, K7, Z7 h, Zt _ h, hy, Z9]
theorem e_firstG (l : List Int) (hl : l.length ≤ top63) : EE π Pk [.p (Z2 l)] [] = some (.p (I (Z9 l)), []) := by
 simp [e_gr_first, Z1, Zat]
 rw [Zd3 l hl l [] _ rfl (by simp)]
 by_cases hf : Z9 l = 0 <;> simp [hf]
theorem Zhd (n : Int) (h : 0 ≤ n) : EE π Fo [.p (I n)] [] = some (.p (I (IntKind.i64.wrap (2 ^ (min n.toNat 64)))), []) := by
 have : ¬ n < 0 := by omega
 simp [e_rb_Power, Z1, Zao, this, IntKind.bits]
theorem Kw (l : List PV) (h : l.length ≤ room) : EE π Xk [.p (.sl 1 none l)] [] = some (.ap (3 :: π), [(3 :: π, .row false t_int 1 (some false) l)]) := by
 simp [Zh0, Z1, Z4d, h]
theorem ints_loop (a b : List Int) (hab : a.length = b.length) (hl : a.length ≤ top63) : ∀ (sa sb pa pb : List Int) (x : Env × Sto), a = pa ++ sa → b = pb ++ sb → pa.length = pb.length → mask [0, 1, 5] [] x = some ([(0, .p (Z2 a)), (1, .p (Z2 b)), (5, .p (I pa.length))], []) →
  kpO [] [4] [] (bkO 0 (iter (round EE iter π [] [0, 1, 5] Z67) x)) = (if sa = sb then some (.nm, [], []) else some (.rt, [(4, .p (.bool false))], []))
 | [], sb, pa, pb, x, h, k, hp, hm => by
  rw [Z0 hm]
  have : sb = [] := by
   have h1 := congrArg List.length h
   have h2 := congrArg List.length k
   simp at h1 h2
   cases sb with
   | nil => rfl
   | cons y r => simp at h2; omega
  subst this
  subst h
  simp [Z58, Gc]
 | y :: sa, [], pa, pb, x, h, k, hp, hm => by
  have h1 := congrArg List.length h
  have h2 := congrArg List.length k
  simp at h1 h2
  omega
 | y :: sa, z :: sb, pa, pb, x, h, k, hp, hm => by
  rw [Z0 hm]
  have g2 : (ints b)[pa.length]? = some (I z) := by rw [hp]; exact Zt _ k
  by_cases hy : y = z
  ·subst hy
   simp [Z58, Gc, Z7 h, Zt _ h, g2]
   exact ints_loop a b hab hl sa sb (pa ++ [y]) (pb ++ [y]) _ (by simp [h]) (by simp [k]) (by simp [hp]) (by simp [Zb (show pa.length < a.length by have := Z7 h; omega) hl])
  ·simp [Z58, Gc, Z7 h, Zt _ h, g2, hy]
theorem e_Ints (a b : List Int) (ha : a.length ≤ top63) : EE π Uj [.p (Z2 a), .p (Z2 b)] [] = some (.p (.bool (decide (a = b))), []) := by
 by_cases hab : a.length = b.length
 ·simp [e_rb_Ints, Z1, Z9w, hab]
  rw [ints_loop a b hab ha a b [] [] _ rfl rfl rfl (by simp)]
  by_cases hf : a = b <;> simp [hf]
 ·have : ¬ a = b := fun h => hab (by rw [h])
  have h2 : ¬ (a.length : Int) = b.length := by omega
  simp [e_rb_Ints, Z1, Z9w, this, h2]
theorem Zn (x : Int) (l : List Int) : Z9 (x :: l) = 0 ↔ x = 0 ∧ Z9 l = 0 := by
 simp only [Z9]
 split
 ·rename_i h; simp [h]
 ·rename_i h; simp [h]
theorem Hs {b : Bool} {c : Int} (hc : c ≠ 0) : unlE b c = 0 ↔ b = true := by
 cases b <;> simp [unlE, hc]
theorem Y7 {n lo hi : Int} : Z6 n lo hi = true ↔ lo ≤ n ∧ n ≤ hi := by simp [Z6]
def idxOf {α : Type} (p : α → Bool) : Nat → List α → Int
 | _, [] => -1
 | i, x :: r => if p x then i else idxOf p (i + 1) r
theorem Zgu {α : Type} (p : α → Bool) : ∀ (i : Nat) (l : List α), decide (0 ≤ idxOf p i l) = l.any p
 | _, [] => by simp [idxOf]
 | i, x :: r => by
  simp only [idxOf, List.any_cons]
  by_cases h : p x = true
  ·simp [h]
  ·simp only [h, if_false, Bool.false_eq_true]
   rw [Zgu p (i + 1) r]; simp
theorem idx_loopI (l : List Int) (hl : l.length ≤ top63) {f : Nat} {caps : List PV} {p : Int → Bool} (hp : ∀ x ∈ l, EE (16 :: π) f (.p (I x) :: caps.map fun v => AV.p v.fg) [] = some (.p (.bool (p x)), [])) :
  ∀ (suf pre : List Int) (x : Env × Sto), l = pre ++ suf → mask [0, 1, 7, 8] [] x = some ([(0, .p (Z2 l)), (1, .p (.fn f caps)), (7, .p (I l.length)), (8, .p (I pre.length))], []) →
  kpO [] [4] [] (bkO 0 (iter (round EE iter π [] [0, 1, 7, 8] Nz) x)) = (if idxOf p pre.length suf = -1 then some (.nm, [], []) else some (.rt, [(4, .p (I (idxOf p pre.length suf)))], []))
 | [], pre, x, h, hm => by
  rw [Z0 hm]
  subst h
  simp [Nt, Wl, idxOf]
 | y :: suf, pre, x, h, hm => by
  rw [Z0 hm]
  have hy := hp y (by rw [h]; simp)
  by_cases hpy : p y = true
  ·rw [hpy] at hy
   have : ¬ ((pre.length : Int) = -1) := by omega
   simp [Nt, Wl, Z7 h, Zt _ h, hy, hpy, idxOf, this]
  ·have hpf : p y = false := by simpa using hpy
   rw [hpf] at hy
   simp [Nt, Wl, Z7 h, Zt _ h, hy, hpf, idxOf]
   rw [show pre.length + 1 = (pre ++ [y]).length by simp]
   exact idx_loopI l hl hp suf (pre ++ [y]) _ (by simp [h]) (by simp [Zb (show pre.length < l.length by have := Z7 h; omega) hl])
theorem e_IxFI (l : List Int) (hl : l.length ≤ top63) {f : Nat} {caps : List PV} {p : Int → Bool} (hp : ∀ x ∈ l, EE (16 :: π) f (.p (I x) :: caps.map fun v => AV.p v.fg) [] = some (.p (.bool (p x)), [])) :
  EE π Uh [.p (Z2 l), .p (.fn f caps)] [] = some (.p (I (idxOf p 0 l)), []) := by
 simp [Zbp, Z1, Gk]
 rw [idx_loopI l hl hp l [] _ rfl (by simp)]
 by_cases hf : idxOf p 0 l = -1 <;> simp [hf]
theorem fgfg : ∀ (x : PV), x.fg.fg = x.fg := by
 intro x
 have key : ∀ (n : Nat), (∀ x : PV, SizeOf.sizeOf x < n → x.fg.fg = x.fg) ∧ (∀ l : List PV, SizeOf.sizeOf l < n → PV.fg.PV.fgL (PV.fg.PV.fgL l) = PV.fg.PV.fgL l) := by
  intro n
  induction n with
  | zero => exact ⟨fun x h => by omega, fun l h => by omega⟩
  | succ n ih =>
   refine ⟨fun x h => ?_, fun l h => ?_⟩
   ·cases x <;> simp only [PV.fg] <;> simp at h <;> rw [ih.2 _ (by omega)]
   ·cases l with
    | nil => rfl
    | cons a r => simp only [PV.fg.PV.fgL]; simp at h; rw [ih.1 a (by omega), ih.2 r (by omega)]
 exact (key (SizeOf.sizeOf x + 1)).1 x (by omega)
@[simp] theorem fgfgL (l : List PV) : PV.fg.PV.fgL (PV.fg.PV.fgL l) = PV.fg.PV.fgL l := by
 induction l with
 | nil => rfl
 | cons a r ih => simp [fgfg, ih]
theorem map_fgL (l : List PV) : (PV.fg.PV.fgL l).map (fun v => AV.p v.fg) = l.map fun v => AV.p v.fg := by
 induction l with
 | nil => rfl
 | cons a r ih => simp [fgfg, ih]
theorem e_CoFI (l : List Int) (hl : l.length ≤ top63) {f : Nat} {caps : List PV} {p : Int → Bool} (hp : ∀ x ∈ l, EE (16 :: 7 :: π) f (.p (I x) :: caps.map fun v => AV.p v.fg) [] = some (.p (.bool (p x)), [])) :
  EE π Ym [.p (Z2 l), .p (.fn f caps)] [] = some (.p (.bool (l.any p)), []) := by
 have h := e_IxFI (π := 7 :: π) l hl (f := f) (caps := PV.fg.PV.fgL caps) (p := p) (by rw [map_fgL]; exact hp)
 simp [Zbr, Z1, Gm, h, Zgu]
def eachE {α : Type} (err : Nat → α → Int) : Nat → List α → Int × Int
 | _, [] => (0, 0)
 | i, x :: r => if err i x = 0 then eachE err (i + 1) r else (i, err i x)
theorem Z5n {α : Type} (err : Nat → α → Int) : ∀ (i : Nat) (l : List α), (eachE err i l).2 = 0 → (eachE err i l).1 = 0
 | _, [], _ => rfl
 | i, x :: r, h => by
  simp only [eachE] at h ⊢
  split
  ·rename_i hx; rw [if_pos hx] at h; exact Z5n err (i + 1) r h
  ·rename_i hx; rw [if_neg hx] at h; exact absurd h hx
theorem Zfo (l : List Int) (hl : l.length ≤ top63) {f : Nat} {caps : List PV} {err : Nat → Int → Int} (hp : ∀ (i : Nat) x, l[i]? = some x → EE (19 :: π) f (.p (I i) :: .p (I x) :: caps.map fun v => AV.p v.fg) [] = some (.p (I (err i x)), [])) :
  ∀ (suf pre : List Int) (x : Env × Sto), l = pre ++ suf → mask [1, 9, 10, 11] [] x = some ([(1, .p (.fn f caps)), (9, .p (Z2 l)), (10, .p (I l.length)), (11, .p (I pre.length))], []) →
  kpO [] [4, 5] [] (bkO 0 (iter (round EE iter π [] [1, 9, 10, 11] Gv) x)) = (if (eachE err pre.length suf).2 = 0 then some (.nm, [], []) else some (.rt, [(4, .p (I (eachE err pre.length suf).1)), (5, .p (I (eachE err pre.length suf).2))], []))
 | [], pre, x, h, hm => by
  rw [Z0 hm]
  subst h
  simp [Gf, Uq, eachE]
 | y :: suf, pre, x, h, hm => by
  rw [Z0 hm]
  have hy := hp pre.length y (by rw [h]; simp)
  by_cases hpy : err pre.length y = 0
  ·simp [Gf, Uq, Z7 h, Zt _ h, hy, hpy, eachE]
   rw [show pre.length + 1 = (pre ++ [y]).length by simp]
   exact Zfo l hl hp suf (pre ++ [y]) _ (by simp [h]) (by simp [Zb (show pre.length < l.length by have := Z7 h; omega) hl])
  ·simp [Gf, Uq, Z7 h, Zt _ h, hy, hpy, eachE]
theorem e_eachG (l : List Int) (hl : l.length ≤ top63) {f : Nat} {caps : List PV} {err : Nat → Int → Int} (hp : ∀ (i : Nat) x, l[i]? = some x → EE (19 :: π) f (.p (I i) :: .p (I x) :: caps.map fun v => AV.p v.fg) [] = some (.p (I (err i x)), [])) :
  EE π Mz [.p (Z2 l), .p (.fn f caps)] [] = some (.p (.tup [I (eachE err 0 l).1, I (eachE err 0 l).2]), []) := by
 simp [Zh6, Z1, Z4l]
 rw [Zfo l hl hp l [] _ rfl (by simp)]
 by_cases hf : (eachE err 0 l).2 = 0
 ·have h1 : (eachE err 0 l).1 = 0 := Z5n err 0 l hf
  simp [hf, h1]
 ·simp [hf]
abbrev fn0 (k : Nat) : PV := .fn k []
abbrev binF (k : Nat) : PV := .fn Zu [.ptr [fn0 k]]
abbrev relF (k : Nat) : PV := .fn Yi [.ptr [fn0 k]]
def opRow : Nat → List PV
 | 0 => [.str ⟨#[99, 111, 110, 115, 116]⟩, I 0, .bool true, fn0 Yb, fn0 N5]
 | 1 => [.str ⟨#[108, 101, 97, 102]⟩, I 0, .bool true, fn0 Yb, fn0 N5]
 | 2 => [.str ⟨#[110, 111, 116]⟩, I 1, .bool false, fn0 Ze, fn0 Z31]
 | 3 => [.str ⟨#[97, 110, 100]⟩, I 2, .bool false, fn0 Ze, binF G5]
 | 4 => [.str ⟨#[111, 114]⟩, I 2, .bool false, fn0 Ze, binF G4]
 | 5 => [.str ⟨#[120, 111, 114]⟩, I 2, .bool false, fn0 Ze, binF G3]
 | 6 => [.str ⟨#[97, 100, 100]⟩, I 2, .bool false, fn0 Ze, binF G2]
 | 7 => [.str ⟨#[115, 117, 98]⟩, I 2, .bool false, fn0 Ze, binF G1]
 | 8 => [.str ⟨#[109, 117, 108]⟩, I 2, .bool false, fn0 Ze, binF Hz]
 | 9 => [.str ⟨#[101, 113]⟩, I 2, .bool false, fn0 Zq, relF Hy]
 | 10 => [.str ⟨#[108, 116]⟩, I 2, .bool false, fn0 Zq, relF Mg]
 | 11 => [.str ⟨#[115, 108, 116]⟩, I 2, .bool false, fn0 Zq, relF Mf]
 | 12 => [.str ⟨#[109, 117, 120]⟩, I 3, .bool false, fn0 Me, fn0 Fv]
 | 13 => [.str ⟨#[106, 111, 105, 110]⟩, I 2, .bool false, fn0 Md, fn0 Fu]
 | 14 => [.str ⟨#[115, 108, 105, 99, 101]⟩, I 1, .bool true, fn0 Mc, fn0 Ft]
 | 15 => [.str ⟨#[122, 101, 120, 116]⟩, I 1, .bool false, fn0 Ya, fn0 Fs]
 | 16 => [.str ⟨#[115, 101, 120, 116]⟩, I 1, .bool false, fn0 Ya, fn0 Fr]
 | 17 => [.str ⟨#[115, 104, 108]⟩, I 2, .bool false, fn0 Yo, fn0 Fq]
 | 18 => [.str ⟨#[115, 104, 114]⟩, I 2, .bool false, fn0 Yo, fn0 Fp]
 | _ => []
def opsPV : List PV := (List.range 19).flatMap opRow
theorem opsPV_len : opsPV.length = 95 := by decide
theorem ops_row : ∀ k, k < 19 → (opsPV.drop (k * 5)).take 5 = opRow k := by
 intro k hk
 match k, hk with
 | 0, _ => exact rfl
 | 1, _ => exact rfl
 | 2, _ => exact rfl
 | 3, _ => exact rfl
 | 4, _ => exact rfl
 | 5, _ => exact rfl
 | 6, _ => exact rfl
 | 7, _ => exact rfl
 | 8, _ => exact rfl
 | 9, _ => exact rfl
 | 10, _ => exact rfl
 | 11, _ => exact rfl
 | 12, _ => exact rfl
 | 13, _ => exact rfl
 | 14, _ => exact rfl
 | 15, _ => exact rfl
 | 16, _ => exact rfl
 | 17, _ => exact rfl
 | 18, _ => exact rfl
 | k + 19, h => exact absurd h (by omega)
set_option maxRecDepth 100000 in
theorem ops_fg : PV.fg.PV.fgL opsPV = opsPV := rfl
theorem e_binary (s : ByteArray) (k : Nat) : EE π Ua [.p (.str s), .p (fn0 k)] [] = some (.agg [.p (.str s), .p (I 2), .p (.bool false), .p (fn0 Ze), .fn Zu [.ref (3 :: π) 0]], [(3 :: π, .box false [.p (fn0 k)])]) := by
 simp [e_gr_binary, Z1, Z88]
theorem e_relation (s : ByteArray) (k : Nat) : EE π Pj [.p (.str s), .p (fn0 k)] [] = some (.agg [.p (.str s), .p (I 2), .p (.bool false), .p (fn0 Zq), .fn Yi [.ref (3 :: π) 0]], [(3 :: π, .box false [.p (fn0 k)])]) := by
 simp [Zh2, Z1, Z4g]
set_option maxRecDepth 100000 in
def opsA (π : Id) : AV := .agg [.p (.str ⟨#[99, 111, 110, 115, 116]⟩), .p (I 0), .p (.bool true), .p (fn0 Yb), .p (fn0 N5),
 .p (.str ⟨#[108, 101, 97, 102]⟩), .p (I 0), .p (.bool true), .p (fn0 Yb), .p (fn0 N5),
 .p (.str ⟨#[110, 111, 116]⟩), .p (I 1), .p (.bool false), .p (fn0 Ze), .p (fn0 Z31),
 .p (.str ⟨#[97, 110, 100]⟩), .p (I 2), .p (.bool false), .p (fn0 Ze), .fn Zu [.ref (3 :: 7 :: π) 0],
 .p (.str ⟨#[111, 114]⟩), .p (I 2), .p (.bool false), .p (fn0 Ze), .fn Zu [.ref (3 :: 8 :: π) 0],
 .p (.str ⟨#[120, 111, 114]⟩), .p (I 2), .p (.bool false), .p (fn0 Ze), .fn Zu [.ref (3 :: 9 :: π) 0],
 .p (.str ⟨#[97, 100, 100]⟩), .p (I 2), .p (.bool false), .p (fn0 Ze), .fn Zu [.ref (3 :: 10 :: π) 0],
 .p (.str ⟨#[115, 117, 98]⟩), .p (I 2), .p (.bool false), .p (fn0 Ze), .fn Zu [.ref (3 :: 11 :: π) 0],
 .p (.str ⟨#[109, 117, 108]⟩), .p (I 2), .p (.bool false), .p (fn0 Ze), .fn Zu [.ref (3 :: 12 :: π) 0],
 .p (.str ⟨#[101, 113]⟩), .p (I 2), .p (.bool false), .p (fn0 Zq), .fn Yi [.ref (3 :: 13 :: π) 0],
 .p (.str ⟨#[108, 116]⟩), .p (I 2), .p (.bool false), .p (fn0 Zq), .fn Yi [.ref (3 :: 14 :: π) 0],
 .p (.str ⟨#[115, 108, 116]⟩), .p (I 2), .p (.bool false), .p (fn0 Zq), .fn Yi [.ref (3 :: 15 :: π) 0],
 .p (.str ⟨#[109, 117, 120]⟩), .p (I 3), .p (.bool false), .p (fn0 Me), .p (fn0 Fv),
 .p (.str ⟨#[106, 111, 105, 110]⟩), .p (I 2), .p (.bool false), .p (fn0 Md), .p (fn0 Fu),
 .p (.str ⟨#[115, 108, 105, 99, 101]⟩), .p (I 1), .p (.bool true), .p (fn0 Mc), .p (fn0 Ft),
 .p (.str ⟨#[122, 101, 120, 116]⟩), .p (I 1), .p (.bool false), .p (fn0 Ya), .p (fn0 Fs),
 .p (.str ⟨#[115, 101, 120, 116]⟩), .p (I 1), .p (.bool false), .p (fn0 Ya), .p (fn0 Fr),
 .p (.str ⟨#[115, 104, 108]⟩), .p (I 2), .p (.bool false), .p (fn0 Yo), .p (fn0 Fq),
 .p (.str ⟨#[115, 104, 114]⟩), .p (I 2), .p (.bool false), .p (fn0 Yo), .p (fn0 Fp)]
set_option maxRecDepth 100000 in
theorem e_operations : EE π Qu [] [] = some (opsA π, [(3 :: 15 :: π, .box false [.p (fn0 Mf)]), (3 :: 14 :: π, .box false [.p (fn0 Mg)]), (3 :: 13 :: π, .box false [.p (fn0 Hy)]), (3 :: 12 :: π, .box false [.p (fn0 Hz)]), (3 :: 11 :: π, .box false [.p (fn0 G1)]), (3 :: 10 :: π, .box false [.p (fn0 G2)]), (3 :: 9 :: π, .box false [.p (fn0 G3)]), (3 :: 8 :: π, .box false [.p (fn0 G4)]), (3 :: 7 :: π, .box false [.p (fn0 G5)])]) := by
 simp [Zdj, Z1, Z0u, e_binary, e_relation, opsA]
@[simp] theorem opsA_scal : (opsA π).scal = false := rfl
@[simp] theorem opsA_keeps : (opsA π).keeps = false := rfl
set_option maxRecDepth 100000 in
theorem freeze_ops : Z4 [(3 :: 15 :: π, .box false [.p (fn0 Mf)]), (3 :: 14 :: π, .box false [.p (fn0 Mg)]), (3 :: 13 :: π, .box false [.p (fn0 Hy)]), (3 :: 12 :: π, .box false [.p (fn0 Hz)]), (3 :: 11 :: π, .box false [.p (fn0 G1)]), (3 :: 10 :: π, .box false [.p (fn0 G2)]), (3 :: 9 :: π, .box false [.p (fn0 G3)]), (3 :: 8 :: π, .box false [.p (fn0 G4)]), (3 :: 7 :: π, .box false [.p (fn0 G5)])] (opsA π) = some (.agg opsPV, [(3 :: 15 :: π, .box true [.p (fn0 Mf)]), (3 :: 14 :: π, .box true [.p (fn0 Mg)]), (3 :: 13 :: π, .box true [.p (fn0 Hy)]), (3 :: 12 :: π, .box true [.p (fn0 Hz)]), (3 :: 11 :: π, .box true [.p (fn0 G1)]), (3 :: 10 :: π, .box true [.p (fn0 G2)]), (3 :: 9 :: π, .box true [.p (fn0 G3)]), (3 :: 8 :: π, .box true [.p (fn0 G4)]), (3 :: 7 :: π, .box true [.p (fn0 G5)])]) := by
 have h : opsPV = [.str ⟨#[99, 111, 110, 115, 116]⟩, I 0, .bool true, fn0 Yb, fn0 N5,
  .str ⟨#[108, 101, 97, 102]⟩, I 0, .bool true, fn0 Yb, fn0 N5,
  .str ⟨#[110, 111, 116]⟩, I 1, .bool false, fn0 Ze, fn0 Z31,
  .str ⟨#[97, 110, 100]⟩, I 2, .bool false, fn0 Ze, binF G5,
  .str ⟨#[111, 114]⟩, I 2, .bool false, fn0 Ze, binF G4,
  .str ⟨#[120, 111, 114]⟩, I 2, .bool false, fn0 Ze, binF G3,
  .str ⟨#[97, 100, 100]⟩, I 2, .bool false, fn0 Ze, binF G2,
  .str ⟨#[115, 117, 98]⟩, I 2, .bool false, fn0 Ze, binF G1,
  .str ⟨#[109, 117, 108]⟩, I 2, .bool false, fn0 Ze, binF Hz,
  .str ⟨#[101, 113]⟩, I 2, .bool false, fn0 Zq, relF Hy,
  .str ⟨#[108, 116]⟩, I 2, .bool false, fn0 Zq, relF Mg,
  .str ⟨#[115, 108, 116]⟩, I 2, .bool false, fn0 Zq, relF Mf,
  .str ⟨#[109, 117, 120]⟩, I 3, .bool false, fn0 Me, fn0 Fv,
  .str ⟨#[106, 111, 105, 110]⟩, I 2, .bool false, fn0 Md, fn0 Fu,
  .str ⟨#[115, 108, 105, 99, 101]⟩, I 1, .bool true, fn0 Mc, fn0 Ft,
  .str ⟨#[122, 101, 120, 116]⟩, I 1, .bool false, fn0 Ya, fn0 Fs,
  .str ⟨#[115, 101, 120, 116]⟩, I 1, .bool false, fn0 Ya, fn0 Fr,
  .str ⟨#[115, 104, 108]⟩, I 2, .bool false, fn0 Yo, fn0 Fq,
  .str ⟨#[115, 104, 114]⟩, I 2, .bool false, fn0 Yo, fn0 Fp] := rfl
 rw [h]
 simp [opsA, Z4]
def opNm : Nat → ByteArray
 | 0 => ⟨#[99, 111, 110, 115, 116]⟩
 | 1 => ⟨#[108, 101, 97, 102]⟩
 | 2 => ⟨#[110, 111, 116]⟩
 | 3 => ⟨#[97, 110, 100]⟩
 | 4 => ⟨#[111, 114]⟩
 | 5 => ⟨#[120, 111, 114]⟩
 | 6 => ⟨#[97, 100, 100]⟩
 | 7 => ⟨#[115, 117, 98]⟩
 | 8 => ⟨#[109, 117, 108]⟩
 | 9 => ⟨#[101, 113]⟩
 | 10 => ⟨#[108, 116]⟩
 | 11 => ⟨#[115, 108, 116]⟩
 | 12 => ⟨#[109, 117, 120]⟩
 | 13 => ⟨#[106, 111, 105, 110]⟩
 | 14 => ⟨#[115, 108, 105, 99, 101]⟩
 | 15 => ⟨#[122, 101, 120, 116]⟩
 | 16 => ⟨#[115, 101, 120, 116]⟩
 | 17 => ⟨#[115, 104, 108]⟩
 | 18 => ⟨#[115, 104, 114]⟩
 | _ => ⟨#[]⟩
def argc : Nat → Nat
 | 0 => 0
 | 1 => 0
 | 2 => 1
 | 3 => 2
 | 4 => 2
 | 5 => 2
 | 6 => 2
 | 7 => 2
 | 8 => 2
 | 9 => 2
 | 10 => 2
 | 11 => 2
 | 12 => 3
 | 13 => 2
 | 14 => 1
 | 15 => 1
 | 16 => 1
 | 17 => 2
 | 18 => 2
 | _ => 0
def hasV : Nat → Bool
 | 0 => true
 | 1 => true
 | 14 => true
 | _ => false
def fitF : Nat → Nat
 | 0 => Yb
 | 1 => Yb
 | 2 => Ze
 | 3 => Ze
 | 4 => Ze
 | 5 => Ze
 | 6 => Ze
 | 7 => Ze
 | 8 => Ze
 | 9 => Zq
 | 10 => Zq
 | 11 => Zq
 | 12 => Me
 | 13 => Md
 | 14 => Mc
 | 15 => Ya
 | 16 => Ya
 | 17 => Yo
 | 18 => Yo
 | _ => 0
def runN : Nat → Nat
 | 0 => N5
 | 1 => N5
 | 2 => Z31
 | 3 => Zu
 | 4 => Zu
 | 5 => Zu
 | 6 => Zu
 | 7 => Zu
 | 8 => Zu
 | 9 => Yi
 | 10 => Yi
 | 11 => Yi
 | 12 => Fv
 | 13 => Fu
 | 14 => Ft
 | 15 => Fs
 | 16 => Fr
 | 17 => Fq
 | 18 => Fp
 | _ => 0
def runC : Nat → List PV
 | 0 => []
 | 1 => []
 | 2 => []
 | 3 => [.ptr [fn0 G5]]
 | 4 => [.ptr [fn0 G4]]
 | 5 => [.ptr [fn0 G3]]
 | 6 => [.ptr [fn0 G2]]
 | 7 => [.ptr [fn0 G1]]
 | 8 => [.ptr [fn0 Hz]]
 | 9 => [.ptr [fn0 Hy]]
 | 10 => [.ptr [fn0 Mg]]
 | 11 => [.ptr [fn0 Mf]]
 | 12 => []
 | 13 => []
 | 14 => []
 | 15 => []
 | 16 => []
 | 17 => []
 | 18 => []
 | _ => []
theorem opRow_eq {k : Nat} (h : k < 19) : opRow k = [.str (opNm k), I (argc k), .bool (hasV k), .fn (fitF k) [], .fn (runN k) (runC k)] := by
 match k, h with
 | 0, _ => exact rfl
 | 1, _ => exact rfl
 | 2, _ => exact rfl
 | 3, _ => exact rfl
 | 4, _ => exact rfl
 | 5, _ => exact rfl
 | 6, _ => exact rfl
 | 7, _ => exact rfl
 | 8, _ => exact rfl
 | 9, _ => exact rfl
 | 10, _ => exact rfl
 | 11, _ => exact rfl
 | 12, _ => exact rfl
 | 13, _ => exact rfl
 | 14, _ => exact rfl
 | 15, _ => exact rfl
 | 16, _ => exact rfl
 | 17, _ => exact rfl
 | 18, _ => exact rfl
 | k + 19, h => exact absurd h (by omega)
structure Nod where
 op : Int
 width : Int
 args : List Int
 value : Int
abbrev Ks (x : Nod) : PV := .agg [I x.op, I x.width, Z2 x.args, I x.value]
abbrev Z8 (l : List Nod) : PV := .sl 4 none (l.map Ks)
@[simp] theorem fgL_nodes (l : List Nod) : PV.fg.PV.fgL (l.map Ks) = l.map Ks := L6 _ _ (fun x => by simp) l
def wrapS (a b : Int) : Int := IntKind.i64.wrap (a + b)
def fitB (k : Nat) (w : Int) (ws : List Int) (v : Int) : Bool :=
 if k ≤ 1 then true else if k ≤ 8 then ws.all (fun n => decide (n = w)) else if k ≤ 11 then decide (w = 1) && decide (ws.getD 0 0 = ws.getD 1 0)
 else if k = 12 then decide (ws.getD 0 0 = 1) && (decide (ws.getD 1 0 = w) && decide (ws.getD 2 0 = w)) else if k = 13 then decide (wrapS (ws.getD 0 0) (ws.getD 1 0) = w)
 else if k = 14 then decide (wrapS v w ≤ ws.getD 0 0) else if k ≤ 16 then decide (ws.getD 0 0 ≤ w) else decide (ws.getD 0 0 = w)
theorem Zfv (a b c : AV) : EE π Yb [a, b, c] [] = some (.p (.bool true), []) := by
 simp [Zh8, Z1, Z4p]
theorem e_same1 (n w : Int) : EE π Z05 [.p (I n), .p (.ptr [I w])] [] = some (.p (.bool (decide (n ≠ w))), []) := by
 by_cases h : n = w <;> simp [e_gr_same_1, Z1, Z87, h]
theorem Zdf (w : Int) (ws : List Int) (hl : ws.length ≤ top63) (v : AV) : EE π Ze [.p (I w), .p (Z2 ws), v] [] = some (.p (.bool (ws.all fun n => decide (n = w))), []) := by
 have hc := fun π => e_CoFI (π := π) ws hl (f := Z05) (caps := [.ptr [I w]]) (p := fun n => decide (n ≠ w)) (fun x _ => by simpa using e_same1 x w)
 have e : (ws.all fun n => decide (n = w)) = !(ws.any fun n => decide (n ≠ w)) := by
  rw [List.any_eq_not_all_not]; simp
 rw [e]
 simp [e_gr_same, Z1, Zdy, hc]
theorem Zai (w a b : Int) (v : AV) : EE π Zq [.p (I w), .p (Z2 [a, b]), v] [] = some (.p (.bool (decide (w = 1) && decide (a = b))), []) := by
 by_cases h : w = 1 <;> simp [Zh7, Z1, Z4m, h, evRO]
theorem e_shifted (w a b : Int) (v : AV) : EE π Yo [.p (I w), .p (Z2 [a, b]), v] [] = some (.p (.bool (decide (a = w))), []) := by
 simp [e_gr_shifted, Z1, Z68]
theorem Zfu (w a : Int) (v : AV) : EE π Ya [.p (I w), .p (Z2 [a]), v] [] = some (.p (.bool (decide (a ≤ w))), []) := by
 simp [Zh5, Z1, Z4k]
theorem e_op12 (w a b c : Int) (v : AV) : EE π Me [.p (I w), .p (Z2 [a, b, c]), v] [] = some (.p (.bool (decide (a = 1) && (decide (b = w) && decide (c = w)))), []) := by
 by_cases h : a = 1 <;> by_cases h2 : b = w <;> simp [e_gr_op_12, Z1, Zas, h, h2, evRO]
theorem e_op14 (w a b : Int) (v : AV) : EE π Md [.p (I w), .p (Z2 [a, b]), v] [] = some (.p (.bool (decide (wrapS a b = w))), []) := by
 simp [e_gr_op_14, Z1, Zar, evRO]
 exact Iff.rfl
theorem e_op16 (w a v : Int) : EE π Mc [.p (I w), .p (Z2 [a]), .p (I v)] [] = some (.p (.bool (decide (wrapS v w ≤ a))), []) := by
 simp [e_gr_op_16, Z1, Zaq, evRO]
 exact Iff.rfl
theorem e_fit {k : Nat} (hk : k < 19) (w : Int) (ws : List Int) (hl : ws.length = argc k) (v : Int) : EE π (fitF k) [.p (I w), .p (Z2 ws), .p (I v)] [] = some (.p (.bool (fitB k w ws v)), []) := by
 have h1 : ∀ ws : List Int, ws.length = 1 → ∃ a, ws = [a] := fun ws h => by match ws, h with | [a], _ => exact ⟨a, rfl⟩
 have h2 : ∀ ws : List Int, ws.length = 2 → ∃ a b, ws = [a, b] := fun ws h => by match ws, h with | [a, b], _ => exact ⟨a, b, rfl⟩
 have h3 : ∀ ws : List Int, ws.length = 3 → ∃ a b c, ws = [a, b, c] := fun ws h => by match ws, h with | [a, b, c], _ => exact ⟨a, b, c, rfl⟩
 match k, hk with
 | 0, _ => exact Zfv _ _ _
 | 1, _ => exact Zfv _ _ _
 | 2, _ => exact Zdf _ _ (by rw [hl]; decide) _
 | 3, _ => exact Zdf _ _ (by rw [hl]; decide) _
 | 4, _ => exact Zdf _ _ (by rw [hl]; decide) _
 | 5, _ => exact Zdf _ _ (by rw [hl]; decide) _
 | 6, _ => exact Zdf _ _ (by rw [hl]; decide) _
 | 7, _ => exact Zdf _ _ (by rw [hl]; decide) _
 | 8, _ => exact Zdf _ _ (by rw [hl]; decide) _
 | 9, _ => obtain ⟨a, b, rfl⟩ := h2 ws hl; exact Zai _ _ _ _
 | 10, _ => obtain ⟨a, b, rfl⟩ := h2 ws hl; exact Zai _ _ _ _
 | 11, _ => obtain ⟨a, b, rfl⟩ := h2 ws hl; exact Zai _ _ _ _
 | 12, _ => obtain ⟨a, b, c, rfl⟩ := h3 ws hl; exact e_op12 _ _ _ _ _
 | 13, _ => obtain ⟨a, b, rfl⟩ := h2 ws hl; exact e_op14 _ _ _ _
 | 14, _ => obtain ⟨a, rfl⟩ := h1 ws hl; exact e_op16 _ _ _
 | 15, _ => obtain ⟨a, rfl⟩ := h1 ws hl; exact Zfu _ _ _
 | 16, _ => obtain ⟨a, rfl⟩ := h1 ws hl; exact Zfu _ _ _
 | 17, _ => obtain ⟨a, b, rfl⟩ := h2 ws hl; exact e_shifted _ _ _ _
 | 18, _ => obtain ⟨a, b, rfl⟩ := h2 ws hl; exact e_shifted _ _ _ _
 | k + 19, h => exact absurd h (by omega)
def pw (w : Int) : Int := 2 ^ w.toNat
theorem pw_pos (w : Int) : 0 < pw w := by unfold pw; exact Int.pow_pos (by omega)
theorem pw_le {w : Int} (h : w ≤ 16) : pw w ≤ 65536 := by
 unfold pw
 have : (2 : Int) ^ w.toNat = ((2 ^ w.toNat : Nat) : Int) := by simp
 rw [this]
 have h2 : 2 ^ w.toNat ≤ 2 ^ 16 := Nat.pow_le_pow_right (by omega) (by omega)
 have : (2 : Nat) ^ 16 = 65536 := by decide
 omega
def fitsB (n w : Int) : Bool := decide (0 ≤ w) && Z6 n 0 (pw w - 1)
theorem e_fitsG (n w : Int) (h : w ≤ 16) : EE π Z5g [.p (I n), .p (I w)] [] = some (.p (.bool (fitsB n w)), []) := by
 unfold fitsB
 by_cases h0 : 0 ≤ w
 ·have hneg : ¬ w < 0 := by omega
  have hm : min w.toNat 64 = w.toNat := by omega
  have hp : (2 : Int) ^ w.toNat = pw w := rfl
  have hp1 := pw_pos w
  have hp2 := pw_le h
  have hw : IntKind.i64.wrap (pw w) = pw w := w64 ⟨by omega, by omega⟩
  have hw2 : IntKind.i64.wrap (pw w - 1) = pw w - 1 := w64 ⟨by omega, by omega⟩
  have hwi := fun π => Z0f (π := π) n 0 (pw w - 1)
  generalize pw w = P at *
  simp [e_gr_fits, Z1, Z9x, h0, hneg, hm, hp, hw, hw2, hwi, IntKind.bits, Z4]
 ·simp [e_gr_fits, Z1, Z9x, h0]
theorem Zft (n : Int) : EE π G6 [.p (I n)] [] = some (.p (.bool (Z6 n 1 16)), []) := by
 simp [e_gr_isWidth, Z1, Z69, Z0f]
def valE (leaves : List Int) (x : Nod) (b : Bool) : Int :=
 if x.op = 0 then unlE (fitsB x.value x.width) 2 else if x.op = 1 then (if Z6 x.value 0 ((leaves.length : Int) - 1) = true then unlE (decide (leaves.getD x.value.toNat 0 = x.width)) 25 else 6)
 else if x.op = 14 then unlE (Z6 x.value 0 15) 2 else unlE (b || decide (x.value = 0)) 3
theorem e_valueErr (leaves : List Int) (hl : leaves.length ≤ 1000) (x : Nod) (hw : x.width ≤ 16) (s : ByteArray) (n : Int) (b : Bool) (kf kg : Nat) (cf cg : List PV) :
  EE π F8 [.p (Z2 leaves), .p (Ks x), .p (.agg [.str s, I n, .bool b, .fn kf cf, .fn kg cg])] [] = some (.p (I (valE leaves x b)), []) := by
 obtain ⟨op, wd, ar, v⟩ := x
 simp only at hw
 have hfi := fun π => e_fitsG (π := π) v wd hw
 have hws : IntKind.i64.wrap ((leaves.length : Int) - 1) = (leaves.length : Int) - 1 := w64 ⟨by omega, by omega⟩
 have hwi := fun π => Z0f (π := π) v 0 ((leaves.length : Int) - 1)
 unfold valE
 by_cases h0 : op = 0
 ·simp [Po, Z1, Va, h0, hfi, Wk, Z4, evRO]
 ·by_cases h1 : op = 1
  ·by_cases hin : Z6 v 0 ((leaves.length : Int) - 1) = true
   ·have hin' := Y7.1 hin
    have hlt : v.toNat < leaves.length := by omega
    have hlt' : v < (leaves.length : Int) := by omega
    have hgd : leaves.getD v.toNat 0 = leaves[v.toNat] := by simp [List.getD, hlt]
    simp [Po, Z1, Va, h1, hws, hwi, hin, hin'.1, hlt, hlt', Wk, Z4, evRO]
   ·have hin2 : Z6 v 0 ((leaves.length : Int) - 1) = false := by simpa using hin
    simp [Po, Z1, Va, h1, hws, hwi, hin2, Wk, Z4, evRO]
  ·by_cases h14 : op = 14
   ·simp [Po, Z1, Va, h14, Z0f, Wk, Z4, evRO]
   ·cases b
    ·by_cases hv : v = 0 <;> simp [Po, Z1, Va, h0, h1, h14, hv, Wk, Z4, evRO]
    ·simp [Po, Z1, Va, h0, h1, h14, Wk, Z4, evRO]
def flagE {α : Type} : List α → Option Bool
 | [] => some true
 | _ :: _ => some false
theorem Zc {α : Type} (l : List α) (x : α) : flagE (l ++ [x]) = some false := by cases l <;> rfl
abbrev rowI (i : Id) (nl : Option Bool) (D : List Int) : Id × Blk := (i, .row false t_int 1 nl (ints D))
theorem Z0g (a b : Int) : EE π Pk [.p (.sl 1 none [I a, I b])] [] = some (.p (I (Z9 [a, b])), []) := e_firstG [a, b] (by simp [top63])
theorem Z9s (a b c : Int) : EE π Pk [.p (.sl 1 none [I a, I b, I c])] [] = some (.p (I (Z9 [a, b, c])), []) := e_firstG [a, b, c] (by simp [top63])
def nod0 : Nod := ⟨0, 0, [], 0⟩
def widOf (nodes : List Nod) (n : Int) : Int := (nodes.getD n.toNat nod0).width
abbrev U6 (nodes : List Nod) (args : List Int) : List Int := args.map (widOf nodes)
def Qi (i : Int) (args : List Int) : Bool := args.all fun n => Z6 n 0 (i - 1)
abbrev boxNd (x : Nod) : Blk := .box false [.p (I x.op), .p (I x.width), .p (Z2 x.args), .p (I x.value)]
abbrev boxRow (k : Nat) : Blk := .box false [.p (.str (opNm k)), .p (I (argc k)), .p (.bool (hasV k)), .p (.fn (fitF k) []), .p (.fn (runN k) (runC k))]
@[simp] theorem fgL_runC : ∀ k : Nat, PV.fg.PV.fgL (runC k) = runC k := by
 intro k
 unfold runC
 repeat' split
 all_goals rfl
theorem e_cn1 (i : AV) (n : Int) : EE π Vu [i, .p (I n)] [] = some (.p (I (unlE (Z6 n 1 16) 2)), []) := by
 simp [Zah, Z1, H6, Zft, Wk]
theorem e_cn21 (i n : Int) (hi : 0 ≤ i ∧ i ≤ 1000000) : EE π Wi [.p (I n), .p (.ptr [I i])] [] = some (.p (.bool (!Z6 n 0 (i - 1))), []) := by
 have hw : IntKind.i64.wrap (i - 1) = i - 1 := w64 ⟨by omega, by omega⟩
 simp [Z7t, Z1, M6, hw, Z0f]
theorem cn2_loop (nodes : List Nod) (hnl : nodes.length ≤ 100000) (x : Nod) (k : Nat) (hal : x.args.length ≤ 1000) (hin : ∀ n ∈ x.args, 0 ≤ n ∧ n < nodes.length) :
  ∀ (suf pre : List Int) (y : Env × Sto), x.args = pre ++ suf →
  mask [4, 6, 9, 12, 56, 57, 58] [] y = some ([(4, .p (.ptr [Z8 nodes])), (6, .ref (6 :: π) 0), (9, .ref (9 :: π) 0), (12, .ap (1012 :: π)), (56, .p (Z2 x.args)), (57, .p (I x.args.length)), (58, .p (I pre.length))], [rowI (1012 :: π) (flagE pre) (U6 nodes pre), (9 :: π, boxRow k), (6 :: π, boxNd x)]) →
  kpO [6, 9, 12] [7] [] (bkO 0 (iter (round EE iter π [] [4, 6, 9, 12, 56, 57, 58] N2) y)) = some (.nm, [(6, .ref (6 :: π) 0), (9, .ref (9 :: π) 0), (12, .ap (1012 :: π))], [rowI (1012 :: π) (flagE x.args) (U6 nodes x.args), (9 :: π, boxRow k), (6 :: π, boxNd x)])
 | [], pre, y, h, hm => by
  rw [Z0 hm]
  have : x.args = pre := by simpa using h
  simp [F2, Vm, ← this]
 | z :: suf, pre, y, h, hm => by
  rw [Z0 hm]
  have hlen : pre.length < x.args.length := by rw [h]; simp
  obtain ⟨hz0, hz1⟩ := hin z (by rw [h]; simp)
  have hlt : z.toNat < nodes.length := by omega
  have hwid : widOf nodes z = nodes[z.toNat].width := by unfold widOf; simp [List.getD, hlt]
  have hws := Zb hlen (show x.args.length ≤ top63 by simp only [top63]; omega)
  have hroom : (U6 nodes pre).length + 1 ≤ room := by rw [List.length_map]; simp only [room]; omega
  have hnext := cn2_loop nodes hnl x k hal hin suf (pre ++ [z])
  rw [show (pre ++ [z]).length = pre.length + 1 by simp, Zc, show U6 nodes (pre ++ [z]) = U6 nodes pre ++ [widOf nodes z] by simp, hwid] at hnext
  generalize U6 nodes pre = R at *
  generalize U6 nodes x.args = RR at *
  simp [F2, Vm, Z7 h, Zt _ h, hz0, hz1, hlt, hroom]
  exact hnext _ (by simp [h]) (by simp [hws])
def nodeE (leaves : List Int) (nodes : List Nod) (i : Nat) (x : Nod) : Int :=
 Z9 [unlE (Z6 x.op 0 18) 15, unlE (Z6 x.width 1 16) 2, unlE (decide (x.args.length = argc x.op.toNat)) 10, unlE (Qi i x.args) 9, valE leaves x (hasV x.op.toNat), unlE (fitB x.op.toNat x.width (U6 nodes x.args) x.value) 25]
theorem e_cn2 (leaves : List Int) (hl : leaves.length ≤ 1000) (nodes : List Nod) (hnl : nodes.length ≤ 100000) (i : Nat) (x : Nod) (hal : x.args.length ≤ 1000) (hi : i < nodes.length) :
  EE π Vt [.p (I i), .p (Ks x), .p (.ptr opsPV), .p (.ptr [Z2 leaves]), .p (.ptr [Z8 nodes])] [] = some (.p (I (nodeE leaves nodes i x)), []) := by
 have hwo := fun π => Z0f (π := π) x.op 0 18
 have hww := fun π => Zft (π := π) x.width
 unfold nodeE
 by_cases h1 : Z6 x.op 0 18 = true
 ·by_cases h2 : Z6 x.width 1 16 = true
  ·have h1' := Y7.1 h1
   have h2' := Y7.1 h2
   have hk : x.op.toNat < 19 := by omega
   have hk' : x.op < 19 := by omega
   have hrow := ops_row x.op.toNat hk
   rw [opRow_eq hk] at hrow
   have hdl : 5 ≤ opsPV.length - x.op.toNat * 5 := by rw [opsPV_len]; omega
   have hcf := fun π => e_CoFI (π := π) x.args (by simp only [top63]; omega) (f := Wi) (caps := [.ptr [I i]]) (p := fun n => !Z6 n 0 (i - 1)) (fun n _ => by simpa using e_cn21 (i : Int) n ⟨by omega, by omega⟩)
   have hany : (x.args.any fun n => !Z6 n 0 ((i : Int) - 1)) = !Qi i x.args := by unfold Qi; rw [List.any_eq_not_all_not]; simp
   rw [hany] at hcf
   have hve := fun π => e_valueErr (π := π) leaves hl x h2'.2 (opNm x.op.toNat) (argc x.op.toNat) (hasV x.op.toNat) (fitF x.op.toNat) (runN x.op.toNat) [] (runC x.op.toNat)
   by_cases h3 : x.args.length = argc x.op.toNat
   ·have h3' : (x.args.length : Int) = (argc x.op.toNat : Int) := by omega
    by_cases h4 : Qi i x.args = true
    ·rw [h4] at hcf
     have hin : ∀ n ∈ x.args, 0 ≤ n ∧ n < (nodes.length : Int) := fun n hn => by
      have := Y7.1 (List.all_eq_true.1 h4 n hn)
      omega
     have hlp := cn2_loop (π := π) nodes hnl x x.op.toNat hal hin x.args []
     have hft := fun π => e_fit (π := π) hk x.width (U6 nodes x.args) (by simpa using h3) x.value
     generalize valE leaves x (hasV x.op.toNat) = c at *
     generalize U6 nodes x.args = W at *
     generalize fitB x.op.toNat x.width W x.value = fb at *
     by_cases h5 : c = 0
     ·simp [Wc, Z1, Yp, hwo, hww, h1, h2, hk', h1'.1, hdl, hrow, hcf, hve, Wk, Z0g, Z9s, h3', h4, h5, unlE, Z9, Z4, evRO, thaw, thaw1]
      rw [hlp _ rfl (by simp [h3', flagE])]
      cases fb <;> simp [hft, h3, Wk, unlE, Z4, evRO, thaw, thaw1]
     ·simp [Wc, Z1, Yp, hwo, hww, h1, h2, hk', h1'.1, hdl, hrow, hcf, hve, Wk, Z0g, Z9s, h3, h3', h4, h5, unlE, Z9, Z4, evRO]
    ·have h4 : Qi i x.args = false := by simpa using h4
     rw [h4] at hcf
     generalize valE leaves x (hasV x.op.toNat) = c at *
     simp [Wc, Z1, Yp, hwo, hww, h1, h2, hk', h1'.1, hdl, hrow, hcf, hve, Wk, Z0g, Z9s, h3, h3', h4, unlE, Z9, Z4, evRO]
   ·have h3' : ¬ (x.args.length : Int) = (argc x.op.toNat : Int) := by omega
    generalize valE leaves x (hasV x.op.toNat) = c at *
    cases h4 : Qi i x.args <;> rw [h4] at hcf <;> simp [Wc, Z1, Yp, hwo, hww, h1, h2, hk', h1'.1, hdl, hrow, hcf, hve, Wk, Z0g, Z9s, h3, h3', unlE, Z9, Z4, evRO]
  ·have h2 : Z6 x.width 1 16 = false := by simpa using h2
   simp [Wc, Z1, Yp, hwo, hww, h1, h2, Wk, Z0g, unlE, Z9, Z4, evRO]
 ·have h1 : Z6 x.op 0 18 = false := by simpa using h1
  simp [Wc, Z1, Yp, hwo, hww, h1, Wk, Z0g, unlE, Z9, Z4, evRO]
abbrev Okv (v w : Int) : Prop := 0 ≤ v ∧ v < pw w
structure AppOk (k : Nat) (x : Nod) (w a : List Int) : Prop where
 wd : 1 ≤ x.width ∧ x.width ≤ 16
 al : a.length = argc k
 wl : w.length = argc k
 ok : ∀ i, i < argc k → (1 ≤ w.getD i 0 ∧ w.getD i 0 ≤ 16) ∧ Okv (a.getD i 0) (w.getD i 0)
 fit : fitB k x.width w x.value = true
 val : k = 14 → 0 ≤ x.value ∧ x.value ≤ 15
theorem Zfn (l : List Nod) (hl : l.length ≤ top63) {f : Nat} {caps : List PV} {err : Nat → Nod → Int} (hp : ∀ (i : Nat) x, l[i]? = some x → EE (19 :: π) f (.p (I i) :: .p (Ks x) :: caps.map fun v => AV.p v.fg) [] = some (.p (I (err i x)), [])) :
  ∀ (suf pre : List Nod) (x : Env × Sto), l = pre ++ suf → mask [1, 9, 10, 11] [] x = some ([(1, .p (.fn f caps)), (9, .p (Z8 l)), (10, .p (I l.length)), (11, .p (I pre.length))], []) →
  kpO [] [4, 5] [] (bkO 0 (iter (round EE iter π [] [1, 9, 10, 11] P6) x)) = (if (eachE err pre.length suf).2 = 0 then some (.nm, [], []) else some (.rt, [(4, .p (I (eachE err pre.length suf).1)), (5, .p (I (eachE err pre.length suf).2))], []))
 | [], pre, x, h, hm => by
  rw [Z0 hm]
  subst h
  simp [Ql, Xr, eachE]
 | y :: suf, pre, x, h, hm => by
  rw [Z0 hm]
  have hy := hp pre.length y (by rw [h]; simp)
  by_cases hpy : err pre.length y = 0
  ·simp [Ql, Xr, Z7 h, Zt _ h, hy, hpy, eachE]
   rw [show pre.length + 1 = (pre ++ [y]).length by simp]
   exact Zfn l hl hp suf (pre ++ [y]) _ (by simp [h]) (by simp [Zb (show pre.length < l.length by have := Z7 h; omega) hl])
  ·simp [Ql, Xr, Z7 h, Zt _ h, hy, hpy, eachE]
theorem e_eachN (l : List Nod) (hl : l.length ≤ top63) {f : Nat} {caps : List PV} {err : Nat → Nod → Int} (hp : ∀ (i : Nat) x, l[i]? = some x → EE (19 :: π) f (.p (I i) :: .p (Ks x) :: caps.map fun v => AV.p v.fg) [] = some (.p (I (err i x)), [])) :
  EE π Q6 [.p (Z8 l), .p (.fn f caps)] [] = some (.p (.tup [I (eachE err 0 l).1, I (eachE err 0 l).2]), []) := by
 simp [Z9q, Z1, Lq]
 rw [Zfn l hl hp l [] _ rfl (by simp)]
 by_cases hf : (eachE err 0 l).2 = 0
 ·have h1 : (eachE err 0 l).1 = 0 := Z5n err 0 l hf
  simp [hf, h1]
 ·simp [hf]
theorem ops_c1 : (∀ x : PV, x ∈ opsPV → x.cell1 = true) = True := eq_true (List.all_eq_true.1 (show opsPV.all PV.cell1 = true from rfl))
theorem mapM_p' (s : Sto) : ∀ l : List PV, l.mapM (toPV s 10 ∘ AV.p) = some l
 | [] => rfl
 | x :: r => by
  rw [List.mapM_cons, mapM_p' s r]; rfl
theorem c1_sl (a b c) : (PV.sl a b c).cell1 = true := rfl
theorem c1_int (k n) : (PV.int k n).cell1 = true := rfl
theorem freeze_p (n : Sto) (v : PV) : Z4 n (.p v) = some (v, n) := rfl
def Xw (leaves : List Int) (nodes : List Nod) : Int × Int :=
 if 40 < leaves.length then (0, 8) else if (eachE (fun _ n => unlE (Z6 n 1 16) 2) 0 leaves).2 ≠ 0 then eachE (fun _ n => unlE (Z6 n 1 16) 2) 0 leaves
 else if 400 < nodes.length then (0, 8) else eachE (nodeE leaves nodes) 0 nodes
theorem Zbm (leaves : List Int) (nodes : List Nod) (hal : ∀ x ∈ nodes, x.args.length ≤ 1000) :
  EE π Qw [.p (Z2 leaves), .p (Z8 nodes)] [] = some (.p (.tup [I (Xw leaves nodes).1, I (Xw leaves nodes).2]), []) := by
 unfold Xw
 by_cases h1 : 40 < leaves.length
 ·have h1' : (40 : Int) < leaves.length := by omega
  simp [Lb, Z1, Vy, h1, h1', Z4, evRO]
 ·have h1' : ¬ (40 : Int) < leaves.length := by omega
  have hea := fun π => e_eachG (π := π) leaves (by simp only [top63]; omega) (f := Vu) (caps := []) (err := fun _ n => unlE (Z6 n 1 16) 2) (fun i x _ => by simpa using e_cn1 _ x)
  by_cases h2 : (eachE (fun _ n => unlE (Z6 n 1 16) 2) 0 leaves).2 = 0
  ·generalize eachE (fun _ n => unlE (Z6 n 1 16) 2) 0 leaves = r at *
   by_cases h3 : 400 < nodes.length
   ·have h3' : (400 : Int) < nodes.length := by omega
    simp [Lb, Z1, Vy, h1, h1', hea, h2, h3, h3', Z4, evRO]
   ·have h3' : ¬ (400 : Int) < nodes.length := by omega
    have hen := fun π => e_eachN (π := π) nodes (by simp only [top63]; omega) (f := Vt) (caps := [.ptr opsPV, .ptr [Z2 leaves], .ptr [Z8 nodes]]) (err := nodeE leaves nodes) (fun i x hx => by
     have hi : i < nodes.length := (List.getElem?_eq_some_iff.1 hx).1
     have := e_cn2 (π := 19 :: π) leaves (by omega) nodes (by omega) i x (hal x (List.mem_of_getElem? hx)) hi
     simpa [ops_fg] using this)
    generalize eachE (nodeE leaves nodes) 0 nodes = q at *
    simp [-Z4, -PV.cell1, ops_c1, c1_sl, c1_int, Lb, Z1, Vy, h1, h1', hea, h2, h3, h3', e_operations, freeze_ops, freeze_p, mapM_p', ops_fg, hen, evRO, opsPV_len]
  ·generalize eachE (fun _ n => unlE (Z6 n 1 16) 2) 0 leaves = r at *
   simp [Lb, Z1, Vy, h1, h1', hea, h2, Z4, evRO]
theorem e_graphErr (leaves : List Int) (nodes : List Nod) (hal : ∀ x ∈ nodes, x.args.length ≤ 1000) :
  EE π My [.p (Z2 leaves), .p (Z8 nodes)] [] = some (.p (I (Xw leaves nodes).2), []) := by
 have hc := fun π => Zbm (π := π) leaves nodes hal
 simp [Zh4, Z1, Z4i, hc, evRO]
@[simp] theorem sgB_true_none {d : Option Nat} {e : Env} {s : Sto} : sgB true d e s none = none := rfl
def gtO (want : Bool) (X : Option AV) (r : Option (Env × Sto)) : Option (Env × Sto) := match X with | some (.p (.bool b)) => bif b == want then r else none | _ => none
@[simp] theorem gtO_eq {b want : Bool} {r : Option (Env × Sto)} : gtO want (some (.p (.bool b))) r = bif b == want then r else none := rfl
@[simp] theorem st2_none_gd {C : Call} {d : Option Nat} {e : Env} {s : Sto} {t : Nat} {want : Bool} {op : IOp} : st2 C π ⟨d, some (t, want), op⟩ e s none = gtO want (e.lookup t) ((evT C π e s (d.getD 0) op).map fun r => (r.2.1.set d r.1, r.2.2)) := by
 rfl
theorem lt_nat {α : Type} {l pre suf : List α} {y : α} (h : l = pre ++ y :: suf) : pre.length < l.length := by rw [h]; simp
abbrev Z6q (x : Nod) : PV := .agg [I x.op, I x.width, .sl 1 (some false) (ints x.args), I x.value]
abbrev zNode : PV := .agg [I 0, I 0, .sl 1 (some true) [], I 0]
theorem Zfz (nodes : List Nod) (hl : nodes.length ≤ 1000) (hal : ∀ x ∈ nodes, x.args.length ≤ 1000) : ∀ (suf pre : List Nod) (x : Env × Sto), nodes = pre ++ suf → mask [0, 3, 4] [] x = some ([(0, .p (Z8 nodes)), (3, .ap (7 :: π)), (4, .p (I pre.length))], [(7 :: π, .row false Kf 4 (some false) (pre.map Z6q ++ List.replicate suf.length zNode))]) →
  kpO [3] [2] [] (bkO 0 (iter (round EE iter π [] [0, 3, 4] H5) x)) = some (.nm, [(3, .ap (7 :: π))], [(7 :: π, .row false Kf 4 (some false) (nodes.map Z6q))])
 | [], pre, x, h, hm => by
  rw [Z0 hm]
  have : nodes = pre := by simpa using h
  subst this
  simp [Z2s, Ps]
 | y :: suf, pre, x, h, hm => by
  rw [Z0 hm]
  have hci := fun π => Kw (π := π) (ints y.args) (by have := hal y (by rw [h]; simp); simp only [List.length_map, room]; omega)
  have hnext := Zfz nodes hl hal suf (pre ++ [y])
  simp [Z2s, Ps, Z7 h, Zt _ h, hci, Z4, evRO, List.replicate_succ, PV.setc]
  exact hnext _ (by simp [h]) (by simp [Zb (lt_nat h) (show nodes.length ≤ top63 by simp only [top63]; omega)])
theorem e_CopyNodes (nodes : List Nod) (hl : nodes.length ≤ 1000) (hal : ∀ x ∈ nodes, x.args.length ≤ 1000) :
  EE π Hi [.p (Z8 nodes)] [] = some (.ap (7 :: π), [(7 :: π, .row false Kf 4 (some false) (nodes.map Z6q))]) := by
 have hr : nodes.length ≤ room := by simp only [room]; omega
 simp [Zek, Z1, Z2a, hr]
 rw [Zfz nodes hl hal nodes [] _ rfl (by simp)]
 simp
theorem Fy (l : List Nod) : PV.fg.PV.fgL (l.map Z6q) = l.map Ks := by
 rw [← fgL_nodes l]
 induction l with
 | nil => rfl
 | cons x r ih => simp only [List.map_cons, PV.fg.PV.fgL, ih]; simp
theorem Z0i (n : Int) : EE π Mb [.p (I n)] [] = some (.p (.bool (Z6 n 1 16)), []) := by
 simp [e_rb_IsWidth, Z1, Z66, W6]
theorem e_Fits (n w : Int) (h : 0 ≤ w ∧ w ≤ 16) : EE π Z5f [.p (I n), .p (I w)] [] = some (.p (.bool (fitsB n w)), []) := by
 unfold fitsB
 have hm : min w.toNat 64 = w.toNat := by omega
 have hpw := fun π => Zhd (π := π) w h.1
 have hp : (2 : Int) ^ w.toNat = pw w := rfl
 have hp1 := pw_pos w
 have hp2 := pw_le h.2
 have hw : IntKind.i64.wrap (pw w) = pw w := w64 ⟨by omega, by omega⟩
 have hw2 : IntKind.i64.wrap (pw w - 1) = pw w - 1 := w64 ⟨by omega, by omega⟩
 rw [hm, hp, hw] at hpw
 generalize pw w = P at *
 simp [e_rb_Fits, Z1, Zdx, hpw, hw2, W6, h.1]
theorem e_ArgCount : ∀ k : Nat, k < 19 → EE π F7 [.p (I k)] [] = some (.p (I (argc k)), []) := by
 intro k hk
 match k, hk with
 | 0, _ => simp [Zi, Z1, Zd, argc]
 | 1, _ => simp [Zi, Z1, Zd, argc]
 | 2, _ => simp [Zi, Z1, Zd, argc]
 | 3, _ => simp [Zi, Z1, Zd, argc]
 | 4, _ => simp [Zi, Z1, Zd, argc]
 | 5, _ => simp [Zi, Z1, Zd, argc]
 | 6, _ => simp [Zi, Z1, Zd, argc]
 | 7, _ => simp [Zi, Z1, Zd, argc]
 | 8, _ => simp [Zi, Z1, Zd, argc]
 | 9, _ => simp [Zi, Z1, Zd, argc]
 | 10, _ => simp [Zi, Z1, Zd, argc]
 | 11, _ => simp [Zi, Z1, Zd, argc]
 | 12, _ => simp [Zi, Z1, Zd, argc]
 | 13, _ => simp [Zi, Z1, Zd, argc]
 | 14, _ => simp [Zi, Z1, Zd, argc]
 | 15, _ => simp [Zi, Z1, Zd, argc]
 | 16, _ => simp [Zi, Z1, Zd, argc]
 | 17, _ => simp [Zi, Z1, Zd, argc]
 | 18, _ => simp [Zi, Z1, Zd, argc]
 | k + 19, h => exact absurd h (by omega)
theorem wf_loop (nodes : List Nod) (hnl : nodes.length ≤ 100000) (x : Nod) (hal : x.args.length ≤ 1000) (hin : ∀ n ∈ x.args, 0 ≤ n ∧ n < nodes.length) :
  ∀ (suf pre : List Int) (y : Env × Sto), x.args = pre ++ suf →
  mask [0, 3, 5, 6] [] y = some ([(0, .p (Z8 nodes)), (3, .ref (3 :: π) 0), (5, .ap (1005 :: π)), (6, .p (I pre.length))], [rowI (1005 :: π) (flagE pre) (U6 nodes pre), (3 :: π, boxNd x)]) →
  kpO [3, 5] [4] [] (bkO 0 (iter (round EE iter π [] [0, 3, 5, 6] Kz) y)) = some (.nm, [(3, .ref (3 :: π) 0), (5, .ap (1005 :: π))], [rowI (1005 :: π) (flagE x.args) (U6 nodes x.args), (3 :: π, boxNd x)])
 | [], pre, y, h, hm => by
  rw [Z0 hm]
  have : x.args = pre := by simpa using h
  simp [Z2r, Pr, ← this]
 | z :: suf, pre, y, h, hm => by
  rw [Z0 hm]
  have hlen : pre.length < x.args.length := by rw [h]; simp
  obtain ⟨hz0, hz1⟩ := hin z (by rw [h]; simp)
  have hlt : z.toNat < nodes.length := by omega
  have hwid : widOf nodes z = nodes[z.toNat].width := by unfold widOf; simp [List.getD, hlt]
  have hws := Zb hlen (show x.args.length ≤ top63 by simp only [top63]; omega)
  have hroom : (U6 nodes pre).length + 1 ≤ room := by rw [List.length_map]; simp only [room]; omega
  have hnext := wf_loop nodes hnl x hal hin suf (pre ++ [z])
  rw [show (pre ++ [z]).length = pre.length + 1 by simp, Zc, show U6 nodes (pre ++ [z]) = U6 nodes pre ++ [widOf nodes z] by simp, hwid] at hnext
  generalize U6 nodes pre = R at *
  generalize U6 nodes x.args = RR at *
  simp [Z2r, Pr, Z7 h, Zt _ h, hz0, hz1, hlt, hroom]
  exact hnext _ (by simp [h]) (by simp [hws])
theorem e_widthsFit (nodes : List Nod) (hnl : nodes.length ≤ 100000) (x : Nod) (hal : x.args.length ≤ 1000) (hin : ∀ n ∈ x.args, 0 ≤ n ∧ n < nodes.length) (k : Nat) (hk : k < 17) (hop : x.op = (k + 2 : Nat)) (hac : x.args.length = argc (k + 2)) :
  EE π Hf [.p (Z8 nodes), .p (Ks x)] [] = some (.p (.bool (fitB (k + 2) x.width (U6 nodes x.args) x.value)), []) := by
 have hlp := wf_loop (π := π) nodes hnl x hal hin x.args []
 have h1 : ∀ ws : List Int, ws.length = 1 → ∃ a, ws = [a] := fun ws h => by match ws, h with | [a], _ => exact ⟨a, rfl⟩
 have h2 : ∀ ws : List Int, ws.length = 2 → ∃ a b, ws = [a, b] := fun ws h => by match ws, h with | [a, b], _ => exact ⟨a, b, rfl⟩
 have h3 : ∀ ws : List Int, ws.length = 3 → ∃ a b c, ws = [a, b, c] := fun ws h => by match ws, h with | [a, b, c], _ => exact ⟨a, b, c, rfl⟩
 have hwl : (U6 nodes x.args).length = argc (k + 2) := by rw [List.length_map]; exact hac
 simp [Zej, Z1, Z24, thaw, thaw1]
 rw [hlp _ rfl (by simp [flagE])]
 obtain ⟨op, wd, ar, v⟩ := x
 simp only at hop hac hwl ⊢
 clear hlp
 generalize U6 nodes ar = W at *
 match k, hk with
 | 0, _ => obtain ⟨a, rfl⟩ := h1 W hwl; by_cases e1 : a = wd <;> simp [hop, fitB, e1]
 | 1, _ => obtain ⟨a, b, rfl⟩ := h2 W hwl; by_cases e1 : a = wd <;> by_cases e2 : b = wd <;> simp [hop, fitB, e1, e2]
 | 2, _ => obtain ⟨a, b, rfl⟩ := h2 W hwl; by_cases e1 : a = wd <;> by_cases e2 : b = wd <;> simp [hop, fitB, e1, e2]
 | 3, _ => obtain ⟨a, b, rfl⟩ := h2 W hwl; by_cases e1 : a = wd <;> by_cases e2 : b = wd <;> simp [hop, fitB, e1, e2]
 | 4, _ => obtain ⟨a, b, rfl⟩ := h2 W hwl; by_cases e1 : a = wd <;> by_cases e2 : b = wd <;> simp [hop, fitB, e1, e2]
 | 5, _ => obtain ⟨a, b, rfl⟩ := h2 W hwl; by_cases e1 : a = wd <;> by_cases e2 : b = wd <;> simp [hop, fitB, e1, e2]
 | 6, _ => obtain ⟨a, b, rfl⟩ := h2 W hwl; by_cases e1 : a = wd <;> by_cases e2 : b = wd <;> simp [hop, fitB, e1, e2]
 | 7, _ => obtain ⟨a, b, rfl⟩ := h2 W hwl; by_cases e1 : a = b <;> by_cases e2 : wd = 1 <;> simp [hop, fitB, e1, e2]
 | 8, _ => obtain ⟨a, b, rfl⟩ := h2 W hwl; by_cases e1 : a = b <;> by_cases e2 : wd = 1 <;> simp [hop, fitB, e1, e2]
 | 9, _ => obtain ⟨a, b, rfl⟩ := h2 W hwl; by_cases e1 : a = b <;> by_cases e2 : wd = 1 <;> simp [hop, fitB, e1, e2]
 | 10, _ => obtain ⟨a, b, c, rfl⟩ := h3 W hwl; by_cases e1 : a = 1 <;> by_cases e2 : b = wd <;> by_cases e3 : c = wd <;> simp [hop, fitB, e1, e2, e3]
 | 11, _ => obtain ⟨a, b, rfl⟩ := h2 W hwl; simp [hop, fitB, wrapS]; try exact Iff.rfl
 | 12, _ => obtain ⟨a, rfl⟩ := h1 W hwl; simp [hop, fitB, wrapS]; try exact Iff.rfl
 | 13, _ => obtain ⟨a, rfl⟩ := h1 W hwl; simp [hop, fitB]
 | 14, _ => obtain ⟨a, rfl⟩ := h1 W hwl; simp [hop, fitB]
 | 15, _ => obtain ⟨a, b, rfl⟩ := h2 W hwl; simp [hop, fitB]
 | 16, _ => obtain ⟨a, b, rfl⟩ := h2 W hwl; simp [hop, fitB]
 | k + 17, h => exact absurd h (by omega)
theorem ne_loop (leaves : List Int) (nodes : List Nod) (i : Nat) (hi : i ≤ 100000) (x : Nod) (hal : x.args.length ≤ 1000) :
  ∀ (suf pre : List Int) (y : Env × Sto), x.args = pre ++ suf →
  mask [0, 1, 2, 7, 8] [] y = some ([(0, .p (Z2 leaves)), (1, .p (Z8 nodes)), (2, .p (I i)), (7, .ref (7 :: π) 0), (8, .p (I pre.length))], [(7 :: π, boxNd x)]) →
  kpO [0, 1, 7] [6] [] (bkO 0 (iter (round EE iter π [] [0, 1, 2, 7, 8] Z0q) y)) = (if Qi i suf = true then some (.nm, [(0, .p (Z2 leaves)), (1, .p (Z8 nodes)), (7, .ref (7 :: π) 0)], [(7 :: π, boxNd x)]) else some (.rt, [(6, .p (I 9))], []))
 | [], pre, y, h, hm => by
  rw [Z0 hm]
  have : x.args = pre := by simpa using h
  simp [Z01, Pd, ← this, Qi]
 | z :: suf, pre, y, h, hm => by
  rw [Z0 hm]
  have hlen : pre.length < x.args.length := by rw [h]; simp
  have hws := Zb hlen (show x.args.length ≤ top63 by simp only [top63]; omega)
  have hw : IntKind.i64.wrap ((i : Int) - 1) = (i : Int) - 1 := w64 ⟨by omega, by omega⟩
  have hnext := ne_loop leaves nodes i hi x hal suf (pre ++ [z])
  by_cases hz : Z6 z 0 ((i : Int) - 1) = true
  ·rw [show Qi i (z :: suf) = Qi i suf by simp [Qi, hz]]
   generalize Qi i suf = b at *
   simp [Z01, Pd, Z7 h, Zt _ h, hw, W6, hz]
   exact hnext _ (by simp [h]) (by simp [hws])
  ·rw [show Qi i (z :: suf) = false by simp [Qi, hz]]
   simp [Z01, Pd, Z7 h, Zt _ h, hw, W6, hz]
theorem e_nodeErr (leaves : List Int) (hl : leaves.length ≤ 1000) (nodes : List Nod) (hnl : nodes.length ≤ 100000) (i : Nat) (x : Nod) (hx : nodes[i]? = some x) (hal : x.args.length ≤ 1000) :
  EE π Z1k [.p (Z2 leaves), .p (Z8 nodes), .p (I i)] [] = some (.p (I (nodeE leaves nodes i x)), []) := by
 have hi := (List.getElem?_eq_some_iff.1 hx).1
 have hx2 := (List.getElem?_eq_some_iff.1 hx).2
 have hlp := ne_loop (π := π) leaves nodes i (by omega) x hal x.args []
 unfold nodeE
 by_cases h1 : Z6 x.op 0 18 = true
 ·have h1' := Y7.1 h1
  by_cases h2 : Z6 x.width 1 16 = true
  ·have h2' := Y7.1 h2
   have hk : x.op.toNat < 19 := by omega
   have hopn : x.op = (x.op.toNat : Int) := by omega
   have hac := fun π => e_ArgCount (π := π) x.op.toNat hk
   rw [← hopn] at hac
   by_cases h3 : x.args.length = argc x.op.toNat
   ·have h3' : (x.args.length : Int) = (argc x.op.toNat : Int) := by omega
    by_cases h4 : Qi i x.args = true
    ·rw [h4, if_pos rfl] at hlp
     have hin : ∀ n ∈ x.args, 0 ≤ n ∧ n < (nodes.length : Int) := fun n hn => by
      have := Y7.1 (List.all_eq_true.1 h4 n hn)
      omega
     rw [show ∀ c d : Int, Z9 [unlE (Z6 x.op 0 18) 15, unlE (Z6 x.width 1 16) 2, unlE (decide (x.args.length = argc x.op.toNat)) 10, unlE (Qi i x.args) 9, c, d] = if c = 0 then (if d = 0 then 0 else d) else c from fun c d => by simp [Z9, unlE, h1, h2, h3, h4]]
     unfold valE
     simp [G9, Z1, P5, hi, hx2, W6, Z0i, h1, h2, hac, h3', Z4, evRO]
     rw [hlp _ rfl (by simp)]
     by_cases o0 : x.op = 0
     ·have hfi := fun π => e_Fits (π := π) x.value x.width ⟨by omega, h2'.2⟩
      rw [o0] at h3
      generalize U6 nodes x.args = W at *
      have : fitB 0 x.width W x.value = true := rfl
      cases hf : fitsB x.value x.width <;> simp [o0, hfi, hf, this, unlE, Z4, evRO]
     ·by_cases o1 : x.op = 1
      ·generalize U6 nodes x.args = W at *
       have : fitB 1 x.width W x.value = true := rfl
       have hws : IntKind.i64.wrap ((leaves.length : Int) - 1) = (leaves.length : Int) - 1 := w64 ⟨by omega, by omega⟩
       by_cases hv : Z6 x.value 0 ((leaves.length : Int) - 1) = true
       ·have hv' := Y7.1 hv
        have hlt : x.value.toNat < leaves.length := by omega
        have hlt' : x.value < (leaves.length : Int) := by omega
        by_cases hw : leaves[x.value.toNat] = x.width <;> simp [o1, W6, hws, hv, hv'.1, hlt, hlt', hw, this, unlE, Z4, evRO]
       ·simp [o1, W6, hws, hv, this, unlE, Z4, evRO]
      ·have hwf := fun π => e_widthsFit (π := π) nodes hnl x hal hin (x.op.toNat - 2) (by omega) (by omega) (by rw [h3]; congr 1; omega)
       rw [show x.op.toNat - 2 + 2 = x.op.toNat by omega] at hwf
       generalize fitB x.op.toNat x.width (U6 nodes x.args) x.value = fb at *
       by_cases o14 : x.op = 14
       ·simp only [Ks, o14] at hwf
        cases hv : Z6 x.value 0 15 <;> cases fb <;> simp [o14, W6, hv, hwf, unlE, Z4, evRO]
       ·have hh : hasV x.op.toNat = false := by
         obtain ⟨k, hk2⟩ : ∃ k, x.op.toNat = k := ⟨_, rfl⟩
         rw [hk2]; unfold hasV; split <;> first | rfl | omega
        by_cases hv : x.value = 0
        ·simp only [Ks, hv] at hwf
         cases fb <;> simp [o0, o1, o14, hv, hh, hwf, unlE, Z4, evRO]
        ·cases fb <;> simp [o0, o1, o14, hv, hh, unlE, Z4, evRO]
    ·have h4 : Qi i x.args = false := by simpa using h4
     rw [h4, if_neg (by simp)] at hlp
     generalize valE leaves x (hasV x.op.toNat) = c at *
     generalize fitB x.op.toNat x.width (U6 nodes x.args) x.value = fb at *
     simp [G9, Z1, P5, hi, hx2, W6, Z0i, h1, h2, hac, h3', Z4, evRO]
     rw [hlp _ rfl (by simp)]
     simp [Z9, unlE, h1, h2, h3, h4]
   ·have h3' : ¬ (x.args.length : Int) = (argc x.op.toNat : Int) := by omega
    generalize valE leaves x (hasV x.op.toNat) = c at *
    generalize fitB x.op.toNat x.width (U6 nodes x.args) x.value = fb at *
    simp [G9, Z1, P5, hi, hx2, W6, Z0i, h1, h2, hac, h3, h3', Z4, evRO, Z9, unlE]
  ·have h2 : Z6 x.width 1 16 = false := by simpa using h2
   simp [G9, Z1, P5, hi, hx2, W6, Z0i, h1, h2, Z4, evRO, Z9, unlE]
 ·have h1 : Z6 x.op 0 18 = false := by simpa using h1
  simp [G9, Z1, P5, hi, hx2, W6, h1, Z4, evRO, Z9, unlE]
theorem nds_loop (leaves : List Int) (hl : leaves.length ≤ 1000) (nodes : List Nod) (hnl : nodes.length ≤ 100000) (hal : ∀ x ∈ nodes, x.args.length ≤ 1000) : ∀ (suf pre : List Nod) (x : Env × Sto), nodes = pre ++ suf → mask [0, 1, 6] [] x = some ([(0, .p (Z2 leaves)), (1, .p (Z8 nodes)), (6, .p (I pre.length))], []) →
  kpO [] [4, 5] [] (bkO 0 (iter (round EE iter π [] [0, 1, 6] Gs) x)) = (if (eachE (nodeE leaves nodes) pre.length suf).2 = 0 then some (.nm, [], []) else some (.rt, [(4, .p (I (eachE (nodeE leaves nodes) pre.length suf).1)), (5, .p (I (eachE (nodeE leaves nodes) pre.length suf).2))], []))
 | [], pre, x, h, hm => by
  rw [Z0 hm]
  subst h
  simp [Ge, Up, eachE]
 | y :: suf, pre, x, h, hm => by
  rw [Z0 hm]
  have hne := fun π => e_nodeErr (π := π) leaves hl nodes hnl pre.length y (by rw [h]; simp) (hal y (by rw [h]; simp))
  have hlt := Z7 h
  have hnext := nds_loop leaves hl nodes hnl hal suf (pre ++ [y])
  rw [show (pre ++ [y]).length = pre.length + 1 by simp] at hnext
  have he : eachE (nodeE leaves nodes) pre.length (y :: suf) = if nodeE leaves nodes pre.length y = 0 then eachE (nodeE leaves nodes) (pre.length + 1) suf else (pre.length, nodeE leaves nodes pre.length y) := rfl
  rw [he]
  generalize nodeE leaves nodes pre.length y = c at *
  generalize eachE (nodeE leaves nodes) (pre.length + 1) suf = q at *
  by_cases hc : c = 0
  ·simp [Ge, Up, Z7 h, hne, hc]
   exact hnext _ (by simp [h]) (by simp [Zb (lt_nat h) (show nodes.length ≤ top63 by simp only [top63]; omega)])
  ·simp [Ge, Up, Z7 h, hne, hc]
theorem e_NodesErrB (leaves : List Int) (hl : leaves.length ≤ 1000) (nodes : List Nod) (hal : ∀ x ∈ nodes, x.args.length ≤ 1000) :
  EE π F6 [.p (Z2 leaves), .p (Z8 nodes)] [] = some (.p (.tup [I (if 400 < nodes.length then (0, 8) else eachE (nodeE leaves nodes) 0 nodes).1, I (if 400 < nodes.length then (0, 8) else eachE (nodeE leaves nodes) 0 nodes).2]), []) := by
 by_cases h3 : 400 < nodes.length
 ·have h3' : (400 : Int) < nodes.length := by omega
  simp [Z9p, Z1, Fe, h3, h3', Z4, evRO]
 ·have h3' : ¬ (400 : Int) < nodes.length := by omega
  simp [Z9p, Z1, Fe, h3, h3', Z4, evRO]
  rw [nds_loop leaves hl nodes (by omega) hal nodes [] _ rfl (by simp)]
  by_cases hf : (eachE (nodeE leaves nodes) 0 nodes).2 = 0
  ·have h1 : (eachE (nodeE leaves nodes) 0 nodes).1 = 0 := Z5n _ 0 _ hf
   simp [hf, h1]
  ·simp [hf]
theorem Zdd {α : Type} {err : Nat → α → Int} : ∀ {l : List α} {i : Nat}, (eachE err i l).2 = 0 → ∀ k x, l[k]? = some x → err (i + k) x = 0
 | [], i, h, k, x, hk => by simp at hk
 | y :: r, i, h, k, x, hk => by
  simp only [eachE] at h
  split at h
  ·rename_i hy
   match k, hk with
   | 0, hk => simp at hk; subst hk; exact hy
   | k + 1, hk => rw [show i + (k + 1) = i + 1 + k by omega]; exact Zdd h k x (by simpa using hk)
  ·rename_i hy; exact absurd h hy
theorem Zbn {leaves : List Int} {nodes : List Nod} (h : (Xw leaves nodes).2 = 0) : ∀ i x, nodes[i]? = some x → nodeE leaves nodes i x = 0 := by
 unfold Xw at h
 split at h
 ·simp at h
 ·split at h
  ·rename_i h2; exact absurd h h2
  ·split at h
   ·simp at h
   ·intro i x hx
    have := Zdd h i x hx
    simpa using this
theorem nodeE_iff {leaves : List Int} {nodes : List Nod} {i : Nat} {x : Nod} (h : nodeE leaves nodes i x = 0) :
  Z6 x.op 0 18 = true ∧ Z6 x.width 1 16 = true ∧ x.args.length = argc x.op.toNat ∧ Qi i x.args = true ∧ valE leaves x (hasV x.op.toNat) = 0 ∧ fitB x.op.toNat x.width (U6 nodes x.args) x.value = true := by
 unfold nodeE at h
 simp only [Zn] at h
 obtain ⟨h1, h2, h3, h4, h5, h6, _⟩ := h
 exact ⟨(Hs (by decide)).1 h1, (Hs (by decide)).1 h2, by simpa using (Hs (by decide)).1 h3, (Hs (by decide)).1 h4, h5, (Hs (by decide)).1 h6⟩
theorem args_in {leaves : List Int} {nodes : List Nod} (h : (Xw leaves nodes).2 = 0) {i : Nat} {x : Nod} (hx : nodes[i]? = some x) : ∀ n ∈ x.args, 0 ≤ n ∧ n < (i : Int) := fun n hn => by
 have := Y7.1 (List.all_eq_true.1 (nodeE_iff (Zbn h i x hx)).2.2.2.1 n hn)
 omega
structure InvV (nodes : List Nod) (k : Nat) (vs : List Int) : Prop where
 len : vs.length = k
 ok : ∀ j, j < k → Okv (vs.getD j 0) (widOf nodes (j : Int))
structure LeafOk (leaves L : List Int) : Prop where
 len : L.length = leaves.length
 ok : ∀ j, j < leaves.length → Okv (L.getD j 0) (leaves.getD j 0)
@[simp] theorem idsL_p : ∀ l : List PV, AV.ids.AV.idsL (l.map AV.p) = []
 | [] => rfl
 | x :: r => by rw [List.map_cons]; simp only [AV.ids.AV.idsL, AV.ids, idsL_p r]; rfl
@[simp] theorem kill_p (i : Id) : (AV.kill i ∘ AV.p) = AV.p := rfl
end Go.Proofs.YteecfnfjlclhdaaGreat.V
