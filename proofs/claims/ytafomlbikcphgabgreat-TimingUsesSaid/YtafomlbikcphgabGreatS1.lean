/- Small functions of the base, of mapping and of timing. Loops that call a function of their caller's: each, IndexFunc. Names. Cells and libraries. Libraries, by mapping and by the reference. Netlists of cells, by mapping and by the reference. Models, times, and their errors. Loads. What holds of a va -/
import Derived.Test.YtafomlbikcphgabGreatT2

set_option linter.unusedSimpArgs false
set_option linter.unusedVariables false

/- Small functions of the base, of mapping and of timing. -/
namespace Go.Proofs.YtafomlbikcphgabGreat.V
open Go (IntKind BinOp UnOp)
variable {π : Id}

abbrev I (n : Int) : PV := .int .i64 n
abbrev ints (l : List Int) : List PV := l.map I
abbrev encInts (l : List Int) : PV := .sl 1 none (ints l)
abbrev ok64 (n : Int) : Prop := -9223372036854775808 ≤ n ∧ n ≤ 9223372036854775807
/-- The longest slice. -/
abbrev top63 : Nat := 9223372036854775807

theorem w64 {n : Int} (h : ok64 n) : IntKind.i64.wrap n = n := wrap64 h.1 h.2
theorem w_succ {n m : Nat} (h : n < m) (hm : m ≤ top63) : IntKind.i64.wrap ((n : Int) + 1) = (n : Int) + 1 := wrap64 (by omega) (by simp only [top63] at hm; omega)

def within (n lo hi : Int) : Bool := decide (lo ≤ n) && decide (n ≤ hi)

theorem e_Within (a b c : Int) : EE π n_ratchetbase_Within [.p (I a), .p (I b), .p (I c)] [] = some (.p (.bool (within a b c)), []) := by
  by_cases h : b ≤ a <;> simp [e_ratchetbase_Within, run_eq, c_ratchetbase_Within, within, h]
theorem e_withinT (a b c : Int) : EE π n_timing_within [.p (I a), .p (I b), .p (I c)] [] = some (.p (.bool (within a b c)), []) := by
  by_cases h : b ≤ a <;> simp [e_timing_within, run_eq, c_timing_within, within, h]
theorem e_withinM (a b c : Int) : EE π n_mapping_within [.p (I a), .p (I b), .p (I c)] [] = some (.p (.bool (within a b c)), []) := by
  by_cases h : b ≤ a <;> simp [e_mapping_within, run_eq, c_mapping_within, within, h]

def unlE (b : Bool) (e : Int) : Int := if b then 0 else e
theorem e_unlessT (a : Bool) (c : Int) : EE π n_timing_unless [.p (.bool a), .p (I c)] [] = some (.p (I (unlE a c)), []) := by
  cases a <;> simp [e_timing_unless, run_eq, c_timing_unless, unlE]
theorem e_unlessM (a : Bool) (c : Int) : EE π n_mapping_unless [.p (.bool a), .p (I c)] [] = some (.p (I (unlE a c)), []) := by
  cases a <;> simp [e_mapping_unless, run_eq, c_mapping_unless, unlE]

/-- The first error. -/
def firstE : List Int → Int
  | [] => 0
  | x :: l => if x = 0 then firstE l else x

theorem first_loopT (l : List Int) (hl : l.length ≤ top63) : ∀ (suf pre : List Int) (x : Env × Sto), l = pre ++ suf → mask [5, 6, 7] [] x = some ([(5, .p (encInts l)), (6, .p (I l.length)), (7, .p (I pre.length))], []) →
    kpO [] [2] [] (bkO 0 (iter (round EE iter π [] [5, 6, 7] c_timing_first_L0) x)) = (if firstE suf = 0 then some (.nm, [], []) else some (.rt, [(2, .p (I (firstE suf)))], []))
  | [], pre, x, h, hm => by
    rw [loop_eq hm]
    subst h
    simp [u_timing_first_L0, b_timing_first_L0, firstE]
  | y :: suf, pre, x, h, hm => by
    rw [loop_eq hm]
    by_cases hy : y = 0
    · simp [u_timing_first_L0, b_timing_first_L0, lt_mid h, get_mid _ h, hy, firstE]
      exact first_loopT l hl suf (pre ++ [y]) _ (by simp [h]) (by simp [w_succ (show pre.length < l.length by have := lt_mid h; omega) hl])
    · simp [u_timing_first_L0, b_timing_first_L0, lt_mid h, get_mid _ h, hy, firstE]
theorem e_firstT (l : List Int) (hl : l.length ≤ top63) : EE π n_timing_first [.p (encInts l)] [] = some (.p (I (firstE l)), []) := by
  simp [e_timing_first, run_eq, c_timing_first]
  rw [first_loopT l hl l [] _ rfl (by simp)]
  by_cases hf : firstE l = 0 <;> simp [hf]

theorem first_loopM (l : List Int) (hl : l.length ≤ top63) : ∀ (suf pre : List Int) (x : Env × Sto), l = pre ++ suf → mask [5, 6, 7] [] x = some ([(5, .p (encInts l)), (6, .p (I l.length)), (7, .p (I pre.length))], []) →
    kpO [] [2] [] (bkO 0 (iter (round EE iter π [] [5, 6, 7] c_mapping_first_L0) x)) = (if firstE suf = 0 then some (.nm, [], []) else some (.rt, [(2, .p (I (firstE suf)))], []))
  | [], pre, x, h, hm => by
    rw [loop_eq hm]
    subst h
    simp [u_mapping_first_L0, b_mapping_first_L0, firstE]
  | y :: suf, pre, x, h, hm => by
    rw [loop_eq hm]
    by_cases hy : y = 0
    · simp [u_mapping_first_L0, b_mapping_first_L0, lt_mid h, get_mid _ h, hy, firstE]
      exact first_loopM l hl suf (pre ++ [y]) _ (by simp [h]) (by simp [w_succ (show pre.length < l.length by have := lt_mid h; omega) hl])
    · simp [u_mapping_first_L0, b_mapping_first_L0, lt_mid h, get_mid _ h, hy, firstE]
theorem e_firstM (l : List Int) (hl : l.length ≤ top63) : EE π n_mapping_first [.p (encInts l)] [] = some (.p (I (firstE l)), []) := by
  simp [e_mapping_first, run_eq, c_mapping_first]
  rw [first_loopM l hl l [] _ rfl (by simp)]
  by_cases hf : firstE l = 0 <;> simp [hf]

theorem e_Bit (b : Bool) : EE π n_ratchetbase_Bit [.p (.bool b)] [] = some (.p (I (if b then 1 else 0)), []) := by
  cases b <;> simp [e_ratchetbase_Bit, run_eq, c_ratchetbase_Bit]

theorem e_Power (n : Int) (h : 0 ≤ n) : EE π n_ratchetbase_Power [.p (I n)] [] = some (.p (I (IntKind.i64.wrap (2 ^ (min n.toNat 64)))), []) := by
  have : ¬ n < 0 := by omega
  simp [e_ratchetbase_Power, run_eq, c_ratchetbase_Power, this, IntKind.bits]

theorem e_CopyInts (l : List PV) (h : l.length ≤ room) : EE π n_ratchetbase_CopyInts [.p (.sl 1 none l)] [] = some (.ap (3 :: π), [(3 :: π, .row false t_int 1 (some false) l)]) := by
  simp [e_ratchetbase_CopyInts, run_eq, c_ratchetbase_CopyInts, h]

theorem ints_loop (a b : List Int) (hab : a.length = b.length) (hl : a.length ≤ top63) : ∀ (sa sb pa pb : List Int) (x : Env × Sto), a = pa ++ sa → b = pb ++ sb → pa.length = pb.length → mask [0, 1, 5] [] x = some ([(0, .p (encInts a)), (1, .p (encInts b)), (5, .p (I pa.length))], []) →
    kpO [] [4] [] (bkO 0 (iter (round EE iter π [] [0, 1, 5] c_ratchetbase_Ints_L0) x)) = (if sa = sb then some (.nm, [], []) else some (.rt, [(4, .p (.bool false))], []))
  | [], sb, pa, pb, x, h, k, hp, hm => by
    rw [loop_eq hm]
    have : sb = [] := by
      have h1 := congrArg List.length h
      have h2 := congrArg List.length k
      simp at h1 h2
      cases sb with
      | nil => rfl
      | cons y r => simp at h2; omega
    subst this
    subst h
    simp [u_ratchetbase_Ints_L0, b_ratchetbase_Ints_L0]
  | y :: sa, [], pa, pb, x, h, k, hp, hm => by
    have h1 := congrArg List.length h
    have h2 := congrArg List.length k
    simp at h1 h2
    omega
  | y :: sa, z :: sb, pa, pb, x, h, k, hp, hm => by
    rw [loop_eq hm]
    have g2 : (ints b)[pa.length]? = some (I z) := by rw [hp]; exact get_mid _ k
    by_cases hy : y = z
    · subst hy
      simp [u_ratchetbase_Ints_L0, b_ratchetbase_Ints_L0, lt_mid h, get_mid _ h, g2]
      exact ints_loop a b hab hl sa sb (pa ++ [y]) (pb ++ [y]) _ (by simp [h]) (by simp [k]) (by simp [hp]) (by simp [w_succ (show pa.length < a.length by have := lt_mid h; omega) hl])
    · simp [u_ratchetbase_Ints_L0, b_ratchetbase_Ints_L0, lt_mid h, get_mid _ h, g2, hy]
theorem e_Ints (a b : List Int) (ha : a.length ≤ top63) : EE π n_ratchetbase_Ints [.p (encInts a), .p (encInts b)] [] = some (.p (.bool (decide (a = b))), []) := by
  by_cases hab : a.length = b.length
  · simp [e_ratchetbase_Ints, run_eq, c_ratchetbase_Ints, hab]
    rw [ints_loop a b hab ha a b [] [] _ rfl rfl rfl (by simp)]
    by_cases hf : a = b <;> simp [hf]
  · have : ¬ a = b := fun h => hab (by rw [h])
    have h2 : ¬ (a.length : Int) = b.length := by omega
    simp [e_ratchetbase_Ints, run_eq, c_ratchetbase_Ints, this, h2]

end Go.Proofs.YtafomlbikcphgabGreat.V

/- Loops that call a function of their caller's: each, IndexFunc. -/
namespace Go.Proofs.YtafomlbikcphgabGreat.V
open Go (IntKind BinOp UnOp)
variable {π : Id}

structure Cell where
  name : ByteArray
  pins : Int
  table : Int
  area : Int
  delay : Int
structure Placed where
  cell : Int
  sources : List Int
structure Net where
  leaves : Int
  placed : List Placed
  outs : List Int
structure Model where
  perLoad : Int
  setup : Int
  hold : Int
  fast : Int
  slow : Int

abbrev encCell (c : Cell) : PV := .agg [.str c.name, I c.pins, I c.table, I c.area, I c.delay]
abbrev encLib (l : List Cell) : PV := .sl 5 none (l.map encCell)
abbrev encPlaced (p : Placed) : PV := .agg [I p.cell, encInts p.sources]
abbrev encPlaceds (l : List Placed) : PV := .sl 2 none (l.map encPlaced)
abbrev encNet (n : Net) : PV := .agg [I n.leaves, encPlaceds n.placed, encInts n.outs]
abbrev encModel (m : Model) : PV := .agg [I m.perLoad, I m.setup, I m.hold, I m.fast, I m.slow]

@[simp] theorem fgL_lib (l : List Cell) : PV.fg.PV.fgL (l.map encCell) = l.map encCell := fgL_map _ _ (fun _ => rfl) l
@[simp] theorem fgL_placed (l : List Placed) : PV.fg.PV.fgL (l.map encPlaced) = l.map encPlaced := fgL_map _ _ (fun x => by simp) l

/-- The place of the first one that is so, or -1. -/
def idxOf {α : Type} (p : α → Bool) : Nat → List α → Int
  | _, [] => -1
  | i, x :: r => if p x then i else idxOf p (i + 1) r
theorem idxOf_ge {α : Type} (p : α → Bool) : ∀ (i : Nat) (l : List α), decide (0 ≤ idxOf p i l) = l.any p
  | _, [] => by simp [idxOf]
  | i, x :: r => by
    simp only [idxOf, List.any_cons]
    by_cases h : p x = true
    · simp [h]
    · simp only [h, if_false, Bool.false_eq_true]
      rw [idxOf_ge p (i + 1) r]; simp

theorem idx_loopI (l : List Int) (hl : l.length ≤ top63) {f : Nat} {caps : List PV} {p : Int → Bool} (hp : ∀ x ∈ l, EE (16 :: π) f (.p (I x) :: caps.map fun v => AV.p v.fg) [] = some (.p (.bool (p x)), [])) :
    ∀ (suf pre : List Int) (x : Env × Sto), l = pre ++ suf → mask [0, 1, 7, 8] [] x = some ([(0, .p (encInts l)), (1, .p (.fn f caps)), (7, .p (I l.length)), (8, .p (I pre.length))], []) →
    kpO [] [4] [] (bkO 0 (iter (round EE iter π [] [0, 1, 7, 8] c_slices_IndexFunc_int_int_L0) x)) = (if idxOf p pre.length suf = -1 then some (.nm, [], []) else some (.rt, [(4, .p (I (idxOf p pre.length suf)))], []))
  | [], pre, x, h, hm => by
    rw [loop_eq hm]
    subst h
    simp [u_slices_IndexFunc_int_int_L0, b_slices_IndexFunc_int_int_L0, idxOf]
  | y :: suf, pre, x, h, hm => by
    rw [loop_eq hm]
    have hy := hp y (by rw [h]; simp)
    by_cases hpy : p y = true
    · rw [hpy] at hy
      have : ¬ ((pre.length : Int) = -1) := by omega
      simp [u_slices_IndexFunc_int_int_L0, b_slices_IndexFunc_int_int_L0, lt_mid h, get_mid _ h, hy, hpy, idxOf, this]
    · have hpf : p y = false := by simpa using hpy
      rw [hpf] at hy
      simp [u_slices_IndexFunc_int_int_L0, b_slices_IndexFunc_int_int_L0, lt_mid h, get_mid _ h, hy, hpf, idxOf]
      rw [show pre.length + 1 = (pre ++ [y]).length by simp]
      exact idx_loopI l hl hp suf (pre ++ [y]) _ (by simp [h]) (by simp [w_succ (show pre.length < l.length by have := lt_mid h; omega) hl])
theorem e_IndexFuncI (l : List Int) (hl : l.length ≤ top63) {f : Nat} {caps : List PV} {p : Int → Bool} (hp : ∀ x ∈ l, EE (16 :: π) f (.p (I x) :: caps.map fun v => AV.p v.fg) [] = some (.p (.bool (p x)), [])) :
    EE π n_slices_IndexFunc_int_int [.p (encInts l), .p (.fn f caps)] [] = some (.p (I (idxOf p 0 l)), []) := by
  simp [e_slices_IndexFunc_int_int, run_eq, c_slices_IndexFunc_int_int]
  rw [idx_loopI l hl hp l [] _ rfl (by simp)]
  by_cases hf : idxOf p 0 l = -1 <;> simp [hf]
theorem fgfg : ∀ (x : PV), x.fg.fg = x.fg := by
  intro x
  have key : ∀ (n : Nat), (∀ x : PV, SizeOf.sizeOf x < n → x.fg.fg = x.fg) ∧ (∀ l : List PV, SizeOf.sizeOf l < n → PV.fg.PV.fgL (PV.fg.PV.fgL l) = PV.fg.PV.fgL l) := by
    intro n
    induction n with
    | zero => exact ⟨fun x h => by omega, fun l h => by omega⟩
    | succ n ih =>
      refine ⟨fun x h => ?_, fun l h => ?_⟩
      · cases x <;> simp only [PV.fg] <;> simp at h <;> rw [ih.2 _ (by omega)]
      · cases l with
        | nil => rfl
        | cons a r => simp only [PV.fg.PV.fgL]; simp at h; rw [ih.1 a (by omega), ih.2 r (by omega)]
  exact (key (SizeOf.sizeOf x + 1)).1 x (by omega)
@[simp] theorem fgfgL (l : List PV) : PV.fg.PV.fgL (PV.fg.PV.fgL l) = PV.fg.PV.fgL l := by
  induction l with
  | nil => rfl
  | cons a r ih => simp [fgfg, ih]
theorem map_fgL (l : List PV) : (PV.fg.PV.fgL l).map (fun v => AV.p v.fg) = l.map fun v => AV.p v.fg := by
  induction l with
  | nil => rfl
  | cons a r ih => simp [fgfg, ih]
theorem e_ContainsFuncI (l : List Int) (hl : l.length ≤ top63) {f : Nat} {caps : List PV} {p : Int → Bool} (hp : ∀ x ∈ l, EE (16 :: 7 :: π) f (.p (I x) :: caps.map fun v => AV.p v.fg) [] = some (.p (.bool (p x)), [])) :
    EE π n_slices_ContainsFunc_int_int [.p (encInts l), .p (.fn f caps)] [] = some (.p (.bool (l.any p)), []) := by
  have h := e_IndexFuncI (π := 7 :: π) l hl (f := f) (caps := PV.fg.PV.fgL caps) (p := p) (by rw [map_fgL]; exact hp)
  simp [e_slices_ContainsFunc_int_int, run_eq, c_slices_ContainsFunc_int_int, h, idxOf_ge]

theorem idx_loopC (l : List Cell) (hl : l.length ≤ top63) {f : Nat} {caps : List PV} {p : Cell → Bool} (hp : ∀ x ∈ l, EE (16 :: π) f (.p (encCell x) :: caps.map fun v => AV.p v.fg) [] = some (.p (.bool (p x)), [])) :
    ∀ (suf pre : List Cell) (x : Env × Sto), l = pre ++ suf → mask [0, 1, 7, 8] [] x = some ([(0, .p (encLib l)), (1, .p (.fn f caps)), (7, .p (I l.length)), (8, .p (I pre.length))], []) →
    kpO [] [4] [] (bkO 0 (iter (round EE iter π [] [0, 1, 7, 8] c_slices_IndexFunc_api_MapCell_api_MapCell_L0) x)) = (if idxOf p pre.length suf = -1 then some (.nm, [], []) else some (.rt, [(4, .p (I (idxOf p pre.length suf)))], []))
  | [], pre, x, h, hm => by
    rw [loop_eq hm]
    subst h
    simp [u_slices_IndexFunc_api_MapCell_api_MapCell_L0, b_slices_IndexFunc_api_MapCell_api_MapCell_L0, idxOf]
  | y :: suf, pre, x, h, hm => by
    rw [loop_eq hm]
    have hy := hp y (by rw [h]; simp)
    by_cases hpy : p y = true
    · rw [hpy] at hy
      have : ¬ ((pre.length : Int) = -1) := by omega
      simp [u_slices_IndexFunc_api_MapCell_api_MapCell_L0, b_slices_IndexFunc_api_MapCell_api_MapCell_L0, lt_mid h, get_mid _ h, hy, hpy, idxOf, this]
    · have hpf : p y = false := by simpa using hpy
      rw [hpf] at hy
      simp [u_slices_IndexFunc_api_MapCell_api_MapCell_L0, b_slices_IndexFunc_api_MapCell_api_MapCell_L0, lt_mid h, get_mid _ h, hy, hpf, idxOf]
      rw [show pre.length + 1 = (pre ++ [y]).length by simp]
      exact idx_loopC l hl hp suf (pre ++ [y]) _ (by simp [h]) (by simp [w_succ (show pre.length < l.length by have := lt_mid h; omega) hl])
theorem e_ContainsFuncC (l : List Cell) (hl : l.length ≤ top63) {f : Nat} {caps : List PV} {p : Cell → Bool} (hp : ∀ x ∈ l, EE (16 :: 7 :: π) f (.p (encCell x) :: caps.map fun v => AV.p v.fg) [] = some (.p (.bool (p x)), [])) :
    EE π n_slices_ContainsFunc_api_MapCell_api_MapCell [.p (encLib l), .p (.fn f caps)] [] = some (.p (.bool (l.any p)), []) := by
  have h : EE (7 :: π) n_slices_IndexFunc_api_MapCell_api_MapCell [.p (encLib l), .p (.fn f (PV.fg.PV.fgL caps))] [] = some (.p (I (idxOf p 0 l)), []) := by
    simp [e_slices_IndexFunc_api_MapCell_api_MapCell, run_eq, c_slices_IndexFunc_api_MapCell_api_MapCell]
    rw [idx_loopC l hl (caps := PV.fg.PV.fgL caps) (by rw [map_fgL]; exact hp) l [] _ rfl (by simp)]
    by_cases hf : idxOf p 0 l = -1 <;> simp [hf]
  simp [e_slices_ContainsFunc_api_MapCell_api_MapCell, run_eq, c_slices_ContainsFunc_api_MapCell_api_MapCell, h, idxOf_ge]

/-- The first error of items, with its place. -/
def eachE {α : Type} (err : Nat → α → Int) : Nat → List α → Int × Int
  | _, [] => (0, 0)
  | i, x :: r => if err i x = 0 then eachE err (i + 1) r else (i, err i x)

theorem eachE_0 {α : Type} (err : Nat → α → Int) : ∀ (i : Nat) (l : List α), (eachE err i l).2 = 0 → (eachE err i l).1 = 0
  | _, [], _ => rfl
  | i, x :: r, h => by
    simp only [eachE] at h ⊢
    split
    · rename_i hx; rw [if_pos hx] at h; exact eachE_0 err (i + 1) r h
    · rename_i hx; rw [if_neg hx] at h; exact absurd h hx

theorem each_loopP (l : List Placed) (hl : l.length ≤ top63) {f : Nat} {caps : List PV} {err : Nat → Placed → Int} (hp : ∀ (i : Nat) x, l[i]? = some x → EE (19 :: π) f (.p (I i) :: .p (encPlaced x) :: caps.map fun v => AV.p v.fg) [] = some (.p (I (err i x)), [])) :
    ∀ (suf pre : List Placed) (x : Env × Sto), l = pre ++ suf → mask [1, 9, 10, 11] [] x = some ([(1, .p (.fn f caps)), (9, .p (encPlaceds l)), (10, .p (I l.length)), (11, .p (I pre.length))], []) →
    kpO [] [4, 5] [] (bkO 0 (iter (round EE iter π [] [1, 9, 10, 11] c_mapping_each_api_MapPlaced_L0) x)) = (if (eachE err pre.length suf).2 = 0 then some (.nm, [], []) else some (.rt, [(4, .p (I (eachE err pre.length suf).1)), (5, .p (I (eachE err pre.length suf).2))], []))
  | [], pre, x, h, hm => by
    rw [loop_eq hm]
    subst h
    simp [u_mapping_each_api_MapPlaced_L0, b_mapping_each_api_MapPlaced_L0, eachE]
  | y :: suf, pre, x, h, hm => by
    rw [loop_eq hm]
    have hy := hp pre.length y (by rw [h]; simp)
    by_cases hpy : err pre.length y = 0
    · simp [u_mapping_each_api_MapPlaced_L0, b_mapping_each_api_MapPlaced_L0, lt_mid h, get_mid _ h, hy, hpy, eachE]
      rw [show pre.length + 1 = (pre ++ [y]).length by simp]
      exact each_loopP l hl hp suf (pre ++ [y]) _ (by simp [h]) (by simp [w_succ (show pre.length < l.length by have := lt_mid h; omega) hl])
    · simp [u_mapping_each_api_MapPlaced_L0, b_mapping_each_api_MapPlaced_L0, lt_mid h, get_mid _ h, hy, hpy, eachE]

theorem e_eachP (l : List Placed) (hl : l.length ≤ top63) {f : Nat} {caps : List PV} {err : Nat → Placed → Int} (hp : ∀ (i : Nat) x, l[i]? = some x → EE (19 :: π) f (.p (I i) :: .p (encPlaced x) :: caps.map fun v => AV.p v.fg) [] = some (.p (I (err i x)), [])) :
    EE π n_mapping_each_api_MapPlaced [.p (encPlaceds l), .p (.fn f caps)] [] = some (.p (.tup [I (eachE err 0 l).1, I (eachE err 0 l).2]), []) := by
  simp [e_mapping_each_api_MapPlaced, run_eq, c_mapping_each_api_MapPlaced]
  rw [each_loopP l hl hp l [] _ rfl (by simp)]
  by_cases hf : (eachE err 0 l).2 = 0
  · have h1 : (eachE err 0 l).1 = 0 := eachE_0 err 0 l hf
    simp [hf, h1]
  · simp [hf]

theorem each_loopC (l : List Cell) (hl : l.length ≤ top63) {f : Nat} {caps : List PV} {err : Nat → Cell → Int} (hp : ∀ (i : Nat) x, l[i]? = some x → EE (19 :: π) f (.p (I i) :: .p (encCell x) :: caps.map fun v => AV.p v.fg) [] = some (.p (I (err i x)), [])) :
    ∀ (suf pre : List Cell) (x : Env × Sto), l = pre ++ suf → mask [1, 9, 10, 11] [] x = some ([(1, .p (.fn f caps)), (9, .p (encLib l)), (10, .p (I l.length)), (11, .p (I pre.length))], []) →
    kpO [] [4, 5] [] (bkO 0 (iter (round EE iter π [] [1, 9, 10, 11] c_mapping_each_api_MapCell_L0) x)) = (if (eachE err pre.length suf).2 = 0 then some (.nm, [], []) else some (.rt, [(4, .p (I (eachE err pre.length suf).1)), (5, .p (I (eachE err pre.length suf).2))], []))
  | [], pre, x, h, hm => by
    rw [loop_eq hm]
    subst h
    simp [u_mapping_each_api_MapCell_L0, b_mapping_each_api_MapCell_L0, eachE]
  | y :: suf, pre, x, h, hm => by
    rw [loop_eq hm]
    have hy := hp pre.length y (by rw [h]; simp)
    by_cases hpy : err pre.length y = 0
    · simp [u_mapping_each_api_MapCell_L0, b_mapping_each_api_MapCell_L0, lt_mid h, get_mid _ h, hy, hpy, eachE]
      rw [show pre.length + 1 = (pre ++ [y]).length by simp]
      exact each_loopC l hl hp suf (pre ++ [y]) _ (by simp [h]) (by simp [w_succ (show pre.length < l.length by have := lt_mid h; omega) hl])
    · simp [u_mapping_each_api_MapCell_L0, b_mapping_each_api_MapCell_L0, lt_mid h, get_mid _ h, hy, hpy, eachE]

theorem e_eachC (l : List Cell) (hl : l.length ≤ top63) {f : Nat} {caps : List PV} {err : Nat → Cell → Int} (hp : ∀ (i : Nat) x, l[i]? = some x → EE (19 :: π) f (.p (I i) :: .p (encCell x) :: caps.map fun v => AV.p v.fg) [] = some (.p (I (err i x)), [])) :
    EE π n_mapping_each_api_MapCell [.p (encLib l), .p (.fn f caps)] [] = some (.p (.tup [I (eachE err 0 l).1, I (eachE err 0 l).2]), []) := by
  simp [e_mapping_each_api_MapCell, run_eq, c_mapping_each_api_MapCell]
  rw [each_loopC l hl hp l [] _ rfl (by simp)]
  by_cases hf : (eachE err 0 l).2 = 0
  · have h1 : (eachE err 0 l).1 = 0 := eachE_0 err 0 l hf
    simp [hf, h1]
  · simp [hf]

theorem each_loopM (l : List Int) (hl : l.length ≤ top63) {f : Nat} {caps : List PV} {err : Nat → Int → Int} (hp : ∀ (i : Nat) x, l[i]? = some x → EE (19 :: π) f (.p (I i) :: .p (I x) :: caps.map fun v => AV.p v.fg) [] = some (.p (I (err i x)), [])) :
    ∀ (suf pre : List Int) (x : Env × Sto), l = pre ++ suf → mask [1, 9, 10, 11] [] x = some ([(1, .p (.fn f caps)), (9, .p (encInts l)), (10, .p (I l.length)), (11, .p (I pre.length))], []) →
    kpO [] [4, 5] [] (bkO 0 (iter (round EE iter π [] [1, 9, 10, 11] c_mapping_each_int_L0) x)) = (if (eachE err pre.length suf).2 = 0 then some (.nm, [], []) else some (.rt, [(4, .p (I (eachE err pre.length suf).1)), (5, .p (I (eachE err pre.length suf).2))], []))
  | [], pre, x, h, hm => by
    rw [loop_eq hm]
    subst h
    simp [u_mapping_each_int_L0, b_mapping_each_int_L0, eachE]
  | y :: suf, pre, x, h, hm => by
    rw [loop_eq hm]
    have hy := hp pre.length y (by rw [h]; simp)
    by_cases hpy : err pre.length y = 0
    · simp [u_mapping_each_int_L0, b_mapping_each_int_L0, lt_mid h, get_mid _ h, hy, hpy, eachE]
      rw [show pre.length + 1 = (pre ++ [y]).length by simp]
      exact each_loopM l hl hp suf (pre ++ [y]) _ (by simp [h]) (by simp [w_succ (show pre.length < l.length by have := lt_mid h; omega) hl])
    · simp [u_mapping_each_int_L0, b_mapping_each_int_L0, lt_mid h, get_mid _ h, hy, hpy, eachE]

theorem e_eachM (l : List Int) (hl : l.length ≤ top63) {f : Nat} {caps : List PV} {err : Nat → Int → Int} (hp : ∀ (i : Nat) x, l[i]? = some x → EE (19 :: π) f (.p (I i) :: .p (I x) :: caps.map fun v => AV.p v.fg) [] = some (.p (I (err i x)), [])) :
    EE π n_mapping_each_int [.p (encInts l), .p (.fn f caps)] [] = some (.p (.tup [I (eachE err 0 l).1, I (eachE err 0 l).2]), []) := by
  simp [e_mapping_each_int, run_eq, c_mapping_each_int]
  rw [each_loopM l hl hp l [] _ rfl (by simp)]
  by_cases hf : (eachE err 0 l).2 = 0
  · have h1 : (eachE err 0 l).1 = 0 := eachE_0 err 0 l hf
    simp [hf, h1]
  · simp [hf]

theorem each_loopT (l : List Int) (hl : l.length ≤ top63) {f : Nat} {caps : List PV} {err : Nat → Int → Int} (hp : ∀ (i : Nat) x, l[i]? = some x → EE (19 :: π) f (.p (I i) :: .p (I x) :: caps.map fun v => AV.p v.fg) [] = some (.p (I (err i x)), [])) :
    ∀ (suf pre : List Int) (x : Env × Sto), l = pre ++ suf → mask [1, 9, 10, 11] [] x = some ([(1, .p (.fn f caps)), (9, .p (encInts l)), (10, .p (I l.length)), (11, .p (I pre.length))], []) →
    kpO [] [4, 5] [] (bkO 0 (iter (round EE iter π [] [1, 9, 10, 11] c_timing_each_int_L0) x)) = (if (eachE err pre.length suf).2 = 0 then some (.nm, [], []) else some (.rt, [(4, .p (I (eachE err pre.length suf).1)), (5, .p (I (eachE err pre.length suf).2))], []))
  | [], pre, x, h, hm => by
    rw [loop_eq hm]
    subst h
    simp [u_timing_each_int_L0, b_timing_each_int_L0, eachE]
  | y :: suf, pre, x, h, hm => by
    rw [loop_eq hm]
    have hy := hp pre.length y (by rw [h]; simp)
    by_cases hpy : err pre.length y = 0
    · simp [u_timing_each_int_L0, b_timing_each_int_L0, lt_mid h, get_mid _ h, hy, hpy, eachE]
      rw [show pre.length + 1 = (pre ++ [y]).length by simp]
      exact each_loopT l hl hp suf (pre ++ [y]) _ (by simp [h]) (by simp [w_succ (show pre.length < l.length by have := lt_mid h; omega) hl])
    · simp [u_timing_each_int_L0, b_timing_each_int_L0, lt_mid h, get_mid _ h, hy, hpy, eachE]

theorem e_eachT (l : List Int) (hl : l.length ≤ top63) {f : Nat} {caps : List PV} {err : Nat → Int → Int} (hp : ∀ (i : Nat) x, l[i]? = some x → EE (19 :: π) f (.p (I i) :: .p (I x) :: caps.map fun v => AV.p v.fg) [] = some (.p (I (err i x)), [])) :
    EE π n_timing_each_int [.p (encInts l), .p (.fn f caps)] [] = some (.p (.tup [I (eachE err 0 l).1, I (eachE err 0 l).2]), []) := by
  simp [e_timing_each_int, run_eq, c_timing_each_int]
  rw [each_loopT l hl hp l [] _ rfl (by simp)]
  by_cases hf : (eachE err 0 l).2 = 0
  · have h1 : (eachE err 0 l).1 = 0 := eachE_0 err 0 l hf
    simp [hf, h1]
  · simp [hf]

end Go.Proofs.YtafomlbikcphgabGreat.V

/- Names. -/
namespace Go.Proofs.YtafomlbikcphgabGreat.V
open Go (IntKind BinOp UnOp)
variable {π : Id}

def letterC (c : Int) : Bool := (decide (97 ≤ c) && decide (c ≤ 122)) || (decide (65 ≤ c) && decide (c ≤ 90))
def digitC (c : Int) : Bool := decide (48 ≤ c) && decide (c ≤ 57)
def goodC (i : Nat) (c : Int) : Bool := letterC c || (decide (i ≠ 0) && (decide (c = 95) || digitC c))
def goodL : Nat → List UInt8 → Bool
  | _, [] => true
  | i, b :: r => goodC i b.toNat && goodL (i + 1) r
def isNm (s : ByteArray) : Bool := goodL 0 s.data.toList && (decide (1 ≤ s.size) && decide (s.size ≤ 16))

/-- What the comparisons with a byte come to. -/
structure Cmp (c : Int) (p : List UInt8) where
  a1 : Bool
  h1 : (97 ≤ c) = (a1 = true)
  a2 : Bool
  h2 : (c ≤ 122) = (a2 = true)
  a3 : Bool
  h3 : (65 ≤ c) = (a3 = true)
  a4 : Bool
  h4 : (c ≤ 90) = (a4 = true)
  a5 : Bool
  h5 : (c = 95) = (a5 = true)
  a6 : Bool
  h6 : (c < 48) = (a6 = true)
  a7 : Bool
  h7 : (57 < c) = (a7 = true)
  a8 : Bool
  h8 : (p = []) = (a8 = true)
  k6 : (48 ≤ c) = (a6 = false)
  k7 : (c ≤ 57) = (a7 = false)

theorem cmp_cases (c : Int) (p : List UInt8) : ∃ q : Cmp c p, (q.a1, q.a2, q.a3, q.a4, q.a5, q.a6, q.a7) ∈
    [(false, true, false, true, false, true, false), (false, true, false, true, false, false, false), (false, true, false, true, false, false, true), (false, true, true, true, false, false, true), (false, true, true, false, false, false, true), (false, true, true, false, true, false, true), (true, true, true, false, false, false, true), (true, false, true, false, false, false, true)] := by
  have mk : ∀ (a1 a2 a3 a4 a5 a6 a7 : Bool), ((97 ≤ c) ↔ a1 = true) → ((c ≤ 122) ↔ a2 = true) → ((65 ≤ c) ↔ a3 = true) → ((c ≤ 90) ↔ a4 = true) → ((c = 95) ↔ a5 = true) → ((c < 48) ↔ a6 = true) → ((57 < c) ↔ a7 = true) → ∃ q : Cmp c p, (q.a1, q.a2, q.a3, q.a4, q.a5, q.a6, q.a7) = (a1, a2, a3, a4, a5, a6, a7) := fun a1 a2 a3 a4 a5 a6 a7 h1 h2 h3 h4 h5 h6 h7 =>
    ⟨⟨a1, propext h1, a2, propext h2, a3, propext h3, a4, propext h4, a5, propext h5, a6, propext h6, a7, propext h7, decide (p = []), by simp, by
      rw [eq_iff_iff]; cases a6 <;> simp at h6 ⊢ <;> omega, by rw [eq_iff_iff]; cases a7 <;> simp at h7 ⊢ <;> omega⟩, rfl⟩
  rcases (by omega : c < 48 ∨ (48 ≤ c ∧ c ≤ 57) ∨ (58 ≤ c ∧ c ≤ 64) ∨ (65 ≤ c ∧ c ≤ 90) ∨ (91 ≤ c ∧ c ≤ 94 ∨ c = 96) ∨ c = 95 ∨ (97 ≤ c ∧ c ≤ 122) ∨ 122 < c) with h | h | h | h | h | h | h | h
  · obtain ⟨q, hq⟩ := mk false true false true false true false (by simp; omega) (by simp; omega) (by simp; omega) (by simp; omega) (by simp; omega) (by simp; omega) (by simp; omega); exact ⟨q, by rw [hq]; simp⟩
  · obtain ⟨q, hq⟩ := mk false true false true false false false (by simp; omega) (by simp; omega) (by simp; omega) (by simp; omega) (by simp; omega) (by simp; omega) (by simp; omega); exact ⟨q, by rw [hq]; simp⟩
  · obtain ⟨q, hq⟩ := mk false true false true false false true (by simp; omega) (by simp; omega) (by simp; omega) (by simp; omega) (by simp; omega) (by simp; omega) (by simp; omega); exact ⟨q, by rw [hq]; simp⟩
  · obtain ⟨q, hq⟩ := mk false true true true false false true (by simp; omega) (by simp; omega) (by simp; omega) (by simp; omega) (by simp; omega) (by simp; omega) (by simp; omega); exact ⟨q, by rw [hq]; simp⟩
  · obtain ⟨q, hq⟩ := mk false true true false false false true (by simp; omega) (by simp; omega) (by simp; omega) (by simp; omega) (by simp; omega) (by simp; omega) (by simp; omega); exact ⟨q, by rw [hq]; simp⟩
  · obtain ⟨q, hq⟩ := mk false true true false true false true (by simp; omega) (by simp; omega) (by simp; omega) (by simp; omega) (by simp; omega) (by simp; omega) (by simp; omega); exact ⟨q, by rw [hq]; simp⟩
  · obtain ⟨q, hq⟩ := mk true true true false false false true (by simp; omega) (by simp; omega) (by simp; omega) (by simp; omega) (by simp; omega) (by simp; omega) (by simp; omega); exact ⟨q, by rw [hq]; simp⟩
  · obtain ⟨q, hq⟩ := mk true false true false false false true (by simp; omega) (by simp; omega) (by simp; omega) (by simp; omega) (by simp; omega) (by simp; omega) (by simp; omega); exact ⟨q, by rw [hq]; simp⟩

theorem get_data (s : ByteArray) {pre suf : List UInt8} {b : UInt8} (h : s.data.toList = pre ++ b :: suf) : s[pre.length]? = some b := by
  have h1 : s.data.toList[pre.length]? = some b := by rw [h]; simp
  have h2 : s.data[pre.length]? = some b := by rw [← Array.getElem?_toList]; exact h1
  have hlt : pre.length < s.size := (Array.getElem?_eq_some_iff.1 h2).1
  show (if h : pre.length < s.size then some (s.get pre.length h) else none) = some b
  rw [dif_pos hlt]
  exact congrArg some (Array.getElem?_eq_some_iff.1 h2).2
theorem size_data (s : ByteArray) : s.data.toList.length = s.size := rfl

abbrev bytesOf (s : ByteArray) : List PV := s.data.toList.map fun b => PV.int .u8 b.toNat

set_option maxHeartbeats 4000000 in
theorem nameM_loop (s : ByteArray) (hl : s.size ≤ top63) : ∀ (suf pre : List UInt8) (x : Env × Sto), s.data.toList = pre ++ suf → mask [0, 7, 8, 9] [] x = some ([(0, .p (.str s)), (7, .p (.sl 1 (some false) (bytesOf s))), (8, .p (I s.size)), (9, .p (I pre.length))], []) →
    kpO [0] [2] [] (bkO 0 (iter (round EE iter π [] [0, 7, 8, 9] c_mapping_isName_L0) x)) = (if goodL pre.length suf then some (.nm, [(0, .p (.str s))], []) else some (.rt, [(2, .p (.bool false))], []))
  | [], pre, x, h, hm => by
    rw [loop_eq hm]
    have : (pre.length : Int) = s.size := by rw [← size_data, h]; simp
    simp [u_mapping_isName_L0, b_mapping_isName_L0, goodL, this]
  | y :: suf, pre, x, h, hm => by
    rw [loop_eq hm]
    have hlt : pre.length < s.size := by rw [← size_data, h]; simp
    have hlt' : (pre.length : Int) < s.size := by omega
    have hget : (bytesOf s)[pre.length]? = some (PV.int .u8 y.toNat) := get_mid _ h
    have next := nameM_loop s hl suf (pre ++ [y])
    rw [show (pre ++ [y]).length = pre.length + 1 by simp] at next
    obtain ⟨q, hq⟩ := cmp_cases (y.toNat : Int) pre
    obtain ⟨a1, h1, a2, h2, a3, h3, a4, h4, a5, h5, a6, h6, a7, h7, a8, h8, k6, k7⟩ := q
    simp only [List.mem_cons, Prod.mk.injEq, List.not_mem_nil, or_false] at hq
    have hgood : goodC pre.length y.toNat = ((a1 && a2) || (a3 && a4) || (!a8 && (a5 || (!a6 && !a7)))) := by
      have h8' : (pre.length = 0) = (a8 = true) := by rw [← h8]; simp
      have e6 : decide (a6 = false) = !a6 := by cases a6 <;> rfl
      have e7 : decide (a7 = false) = !a7 := by cases a7 <;> rfl
      have e8 : decide (¬ (a8 = true)) = !a8 := by cases a8 <;> rfl
      simp only [goodC, letterC, digitC, h1, h2, h3, h4, h5, k6, k7, ne_eq, h8', Bool.decide_eq_true, e6, e7, e8]
    rw [goodL, hgood]
    rcases hq with ⟨rfl, rfl, rfl, rfl, rfl, rfl, rfl⟩ | ⟨rfl, rfl, rfl, rfl, rfl, rfl, rfl⟩ | ⟨rfl, rfl, rfl, rfl, rfl, rfl, rfl⟩ | ⟨rfl, rfl, rfl, rfl, rfl, rfl, rfl⟩ | ⟨rfl, rfl, rfl, rfl, rfl, rfl, rfl⟩ | ⟨rfl, rfl, rfl, rfl, rfl, rfl, rfl⟩ | ⟨rfl, rfl, rfl, rfl, rfl, rfl, rfl⟩ | ⟨rfl, rfl, rfl, rfl, rfl, rfl, rfl⟩ <;> cases a8 <;>
      first
      | (simp [u_mapping_isName_L0, b_mapping_isName_L0, hlt', hget, h1, h2, h3, h4, h5, h6, h7, h8]; done)
      | (simp [u_mapping_isName_L0, b_mapping_isName_L0, hlt', hget, h1, h2, h3, h4, h5, h6, h7, h8]
         exact next _ (by simp [h]) (by simp [w_succ hlt hl]))

set_option maxHeartbeats 4000000 in
theorem nameB_loop (s : ByteArray) (hl : s.size ≤ top63) : ∀ (suf pre : List UInt8) (x : Env × Sto), s.data.toList = pre ++ suf → mask [0, 3] [] x = some ([(0, .p (.str s)), (3, .p (I pre.length))], []) →
    kpO [] [2] [] (bkO 0 (iter (round EE iter π [] [0, 3] c_ratchetbase_IsName_L0) x)) = (if goodL pre.length suf then some (.nm, [], []) else some (.rt, [(2, .p (.bool false))], []))
  | [], pre, x, h, hm => by
    rw [loop_eq hm]
    have : (pre.length : Int) = s.size := by rw [← size_data, h]; simp
    simp [u_ratchetbase_IsName_L0, b_ratchetbase_IsName_L0, goodL, this]
  | y :: suf, pre, x, h, hm => by
    rw [loop_eq hm]
    have hlt : pre.length < s.size := by rw [← size_data, h]; simp
    have hlt' : (pre.length : Int) < s.size := by omega
    have hget := get_data s h
    have next := nameB_loop s hl suf (pre ++ [y])
    rw [show (pre ++ [y]).length = pre.length + 1 by simp] at next
    obtain ⟨q, hq⟩ := cmp_cases (y.toNat : Int) pre
    obtain ⟨a1, h1, a2, h2, a3, h3, a4, h4, a5, h5, a6, h6, a7, h7, a8, h8, k6, k7⟩ := q
    simp only [List.mem_cons, Prod.mk.injEq, List.not_mem_nil, or_false] at hq
    have hgood : goodC pre.length y.toNat = ((a1 && a2) || (a3 && a4) || (!a8 && (a5 || (!a6 && !a7)))) := by
      have h8' : (pre.length = 0) = (a8 = true) := by rw [← h8]; simp
      have e6 : decide (a6 = false) = !a6 := by cases a6 <;> rfl
      have e7 : decide (a7 = false) = !a7 := by cases a7 <;> rfl
      have e8 : decide (¬ (a8 = true)) = !a8 := by cases a8 <;> rfl
      simp only [goodC, letterC, digitC, h1, h2, h3, h4, h5, k6, k7, ne_eq, h8', Bool.decide_eq_true, e6, e7, e8]
    rw [goodL, hgood]
    rcases hq with ⟨rfl, rfl, rfl, rfl, rfl, rfl, rfl⟩ | ⟨rfl, rfl, rfl, rfl, rfl, rfl, rfl⟩ | ⟨rfl, rfl, rfl, rfl, rfl, rfl, rfl⟩ | ⟨rfl, rfl, rfl, rfl, rfl, rfl, rfl⟩ | ⟨rfl, rfl, rfl, rfl, rfl, rfl, rfl⟩ | ⟨rfl, rfl, rfl, rfl, rfl, rfl, rfl⟩ | ⟨rfl, rfl, rfl, rfl, rfl, rfl, rfl⟩ | ⟨rfl, rfl, rfl, rfl, rfl, rfl, rfl⟩ <;> cases a8 <;>
      first
      | (simp [u_ratchetbase_IsName_L0, b_ratchetbase_IsName_L0, hlt', hget, h1, h2, h3, h4, h5, h6, h7, h8]; done)
      | (simp [u_ratchetbase_IsName_L0, b_ratchetbase_IsName_L0, hlt', hget, h1, h2, h3, h4, h5, h6, h7, h8]
         exact next _ (by simp [h]) (by simp [w_succ hlt hl]))

theorem e_isNameM (s : ByteArray) (hl : s.size ≤ top63) : EE π n_mapping_isName [.p (.str s)] [] = some (.p (.bool (isNm s)), []) := by
  have h1 : s.size ≤ 9223372036854775807 := hl
  simp [e_mapping_isName, run_eq, c_mapping_isName, h1]
  rw [nameM_loop s hl s.data.toList [] _ rfl (by simp [show s.data.size = s.size from rfl])]
  by_cases hf : goodL 0 s.data.toList = true
  · have hw : within (s.size : Int) 1 16 = (decide (1 ≤ s.size) && decide (s.size ≤ 16)) := by
      unfold within
      rw [decide_eq_decide.2 (show (1 : Int) ≤ s.size ↔ 1 ≤ s.size by omega), decide_eq_decide.2 (show (s.size : Int) ≤ 16 ↔ s.size ≤ 16 by omega)]
    simp [hf, e_withinM, isNm, hw]
  · simp [hf, isNm]

theorem e_IsName (s : ByteArray) (hl : s.size ≤ top63) : EE π n_ratchetbase_IsName [.p (.str s)] [] = some (.p (.bool (isNm s)), []) := by
  by_cases h1 : (s.size : Int) < 1
  · have : ¬ 1 ≤ s.size := by omega
    simp [e_ratchetbase_IsName, run_eq, c_ratchetbase_IsName, h1, isNm, this]
  · by_cases h2 : (16 : Int) < s.size
    · have : ¬ s.size ≤ 16 := by omega
      simp [e_ratchetbase_IsName, run_eq, c_ratchetbase_IsName, h1, h2, isNm, this]
    · have h3 : 1 ≤ s.size := by omega
      have h4 : s.size ≤ 16 := by omega
      simp [e_ratchetbase_IsName, run_eq, c_ratchetbase_IsName, h1, h2, isNm, h3, h4]
      rw [nameB_loop s hl s.data.toList [] _ rfl (by simp)]
      by_cases hf : goodL 0 s.data.toList = true <;> simp [hf]

end Go.Proofs.YtafomlbikcphgabGreat.V

/- Cells and libraries. -/
namespace Go.Proofs.YtafomlbikcphgabGreat.V
open Go (IntKind BinOp UnOp)
variable {π : Id}

def sameNm (a b : ByteArray) : Bool := a.toList == b.toList
/-- The greatest table of so many pins. -/
def topTable (p : Int) : Int := if p = 1 then 3 else if p = 2 then 15 else 255
def cellOk (c : Cell) : Bool := within c.pins 1 3 && within c.table 0 (topTable c.pins) && within c.area 1 1000 && within c.delay 1 1000
def cellE (l : List Cell) (i : Nat) (c : Cell) : Int := firstE [unlE (isNm c.name) 4, unlE (!(l.take i).any fun o => sameNm o.name c.name) 5, unlE (cellOk c) 2]

theorem e_cellErr1 (n : Int) : EE π n_mapping_cellErr_1 [.p (I n)] [] = some (.p (.bool (within n 1 1000)), []) := by
  simp [e_mapping_cellErr_1, run_eq, c_mapping_cellErr_1, e_withinM]
theorem e_cellErr2 (o c : Cell) : EE π n_mapping_cellErr_2 [.p (encCell o), .p (.ptr [.str c.name, I c.pins, I c.table, I c.area, I c.delay])] [] = some (.p (.bool (sameNm o.name c.name)), []) := by
  simp [e_mapping_cellErr_2, run_eq, c_mapping_cellErr_2, sameNm]

@[simp] theorem fgL_take (l : List PV) (n : Nat) : PV.fg.PV.fgL (l.take n) = (PV.fg.PV.fgL l).take n := by
  induction l generalizing n with
  | nil => simp
  | cons a r ih => cases n with
    | zero => simp
    | succ n => simp [ih]

theorem e_first3M (x y z : Int) : EE π n_mapping_first [.p (.sl 1 none [I x, I y, I z])] [] = some (.p (I (firstE [x, y, z])), []) := e_firstM [x, y, z] (by simp [top63])

theorem e_cellErr (l : List Cell) (hl : l.length ≤ top63) (hn : ∀ c ∈ l, c.name.size ≤ top63) (i : Nat) (c : Cell) (hi : l[i]? = some c) : EE π n_mapping_cellErr [.p (encLib l), .p (I i)] [] = some (.p (I (cellE l i c)), []) := by
  obtain ⟨hlt, rfl⟩ := List.getElem?_eq_some_iff.1 hi
  have hsz := hn l[i] (List.getElem_mem hlt)
  have hcf := e_ContainsFuncC (π := 17 :: π) (l.take i) (by simp; omega) (f := n_mapping_cellErr_2) (caps := [.ptr [.str l[i].name, I l[i].pins, I l[i].table, I l[i].area, I l[i].delay]]) (p := fun o => sameNm o.name l[i].name) (fun x _ => by simpa using e_cellErr2 x l[i])
  rw [show encLib (l.take i) = .sl 5 none ((l.map encCell).take i) by simp] at hcf
  have hle : i ≤ l.length := Nat.le_of_lt hlt
  unfold cellE
  generalize ((l.take i).any fun o => sameNm o.name l[i].name) = b2 at hcf
  generalize hc : l[i] = c at hcf hsz
  have hge : (l.map encCell)[i]? = some (encCell c) := by rw [List.getElem?_map, List.getElem?_eq_getElem hlt, hc]; rfl
  by_cases h1 : within c.pins 1 3 = true
  · have hp : c.pins = 1 ∨ c.pins = 2 ∨ c.pins = 3 := by simp [within] at h1; omega
    have ht : ∃ t, t = topTable c.pins ∧ IntKind.i64.wrap (IntKind.i64.wrap (1 * 2 ^ (min (IntKind.u64.wrap (1 * 2 ^ (min c.pins.toNat 64))).toNat 64)) - 1) = t ∧ ¬ c.pins < 0 ∧ ¬ IntKind.u64.wrap (1 * 2 ^ (min c.pins.toNat 64)) < 0 := by
      rcases hp with h | h | h <;> rw [h] <;> exact ⟨_, rfl, by decide, by decide, by decide⟩
    obtain ⟨t, h2, h3, h4, h5⟩ := ht
    simp only [Int.one_mul] at h3 h5
    by_cases h6 : within c.table 0 t = true
    · by_cases h7 : within c.area 1 1000 = true
      · have hok : cellOk c = within c.delay 1 1000 := by simp [cellOk, h1, ← h2, h6, h7]
        rw [hok]
        simp [e_mapping_cellErr, run_eq, c_mapping_cellErr, hge, hcf, hle, e_withinM, h1, IntKind.bits, h3, h4, h5, h6, h7, e_cellErr1, e_isNameM, hsz, e_unlessM, e_first3M]
      · have hok : cellOk c = false := by simp [cellOk, h7]
        rw [hok]
        simp [e_mapping_cellErr, run_eq, c_mapping_cellErr, hge, hcf, hle, e_withinM, h1, IntKind.bits, h3, h4, h5, h6, h7, e_cellErr1, e_isNameM, hsz, e_unlessM, e_first3M]
    · have hok : cellOk c = false := by simp [cellOk, ← h2, h6]
      rw [hok]
      simp [e_mapping_cellErr, run_eq, c_mapping_cellErr, hge, hcf, hle, e_withinM, h1, IntKind.bits, h3, h4, h5, h6, e_cellErr1, e_isNameM, hsz, e_unlessM, e_first3M]
  · have hok : cellOk c = false := by simp [cellOk, h1]
    rw [hok]
    simp [e_mapping_cellErr, run_eq, c_mapping_cellErr, hge, hcf, hle, e_withinM, h1, e_cellErr1, e_isNameM, hsz, e_unlessM, e_first3M]

end Go.Proofs.YtafomlbikcphgabGreat.V

/- Libraries, by mapping and by the reference. -/
namespace Go.Proofs.YtafomlbikcphgabGreat.V
open Go (IntKind BinOp UnOp)
variable {π : Id}

/-- The index of an invalid cell, and the error of a library. -/
def libE (l : List Cell) : Int × Int := if l.length = 0 then (0, 10) else if 16 < l.length then (0, 8) else eachE (cellE l) 0 l
abbrev namesOk (l : List Cell) : Prop := ∀ c ∈ l, c.name.size ≤ top63

theorem e_first2M (x y : Int) : EE π n_mapping_first [.p (.sl 1 none [I x, I y])] [] = some (.p (I (firstE [x, y])), []) := e_firstM [x, y] (by simp [top63])

theorem e_CheckLibrary1 (l : List Cell) (hl : l.length ≤ top63) (hn : namesOk l) (i : Nat) (c : Cell) (hi : l[i]? = some c) :
    EE π n_mapping_CheckLibrary_1 [.p (I i), .p (encCell c), .p (.ptr [encLib l])] [] = some (.p (I (cellE l i c)), []) := by
  simp [e_mapping_CheckLibrary_1, run_eq, c_mapping_CheckLibrary_1, e_cellErr l hl hn i c hi]

theorem e_CheckLibraryM (l : List Cell) (hl : l.length ≤ top63) (hn : namesOk l) : EE π n_mapping_CheckLibrary [.p (encLib l)] [] = some (.p (.tup [I (libE l).1, I (libE l).2]), []) := by
  by_cases h0 : l = []
  · subst h0
    simp [e_mapping_CheckLibrary, run_eq, c_mapping_CheckLibrary, e_unlessM, e_first2M, libE, firstE, unlE]
  · have hp : (0 : Int) < l.length := by cases l with | nil => exact absurd rfl h0 | cons a r => simp
    have hq : 0 < l.length := by omega
    by_cases h1 : l.length ≤ 16
    · have h2 : (l.length : Int) ≤ 16 := by omega
      have h3 : ¬ 16 < l.length := by omega
      have := e_eachC (π := 20 :: π) l hl (f := n_mapping_CheckLibrary_1) (caps := [.ptr [encLib l]]) (err := cellE l) (fun i x hx => by simpa using e_CheckLibrary1 l hl hn i x hx)
      simp [e_mapping_CheckLibrary, run_eq, c_mapping_CheckLibrary, e_unlessM, e_first2M, libE, firstE, unlE, hp, hq, h2, h3, this, h0]
    · have h2 : ¬ (l.length : Int) ≤ 16 := by omega
      have h3 : 16 < l.length := by omega
      simp [e_mapping_CheckLibrary, run_eq, c_mapping_CheckLibrary, e_unlessM, e_first2M, libE, firstE, unlE, hp, hq, h2, h3, h0]

abbrev boxC (c : Cell) : Blk := .box false [.p (.str c.name), .p (I c.pins), .p (I c.table), .p (I c.area), .p (I c.delay)]

theorem lib_loop1 (l : List Cell) (hl : l.length ≤ top63) (i : Nat) (hi : i ≤ l.length) (c : Cell) : ∀ (suf pre : List Cell) (x : Env × Sto), l.take i = pre ++ suf →
    mask [0, 4, 5, 6] [] x = some ([(0, .p (encLib l)), (4, .p (I i)), (5, .ref (5 :: π) 0), (6, .p (I pre.length))], [(5 :: π, boxC c)]) →
    kpO [0, 4, 5] [2, 3] [] (bkO 2 (iter (round EE iter π [] [0, 4, 5, 6] c_ratchetref27_CheckLibrary_L1) x)) = (bif suf.any (fun o => sameNm o.name c.name) then some (.rt, [(2, .p (I i)), (3, .p (I 5))], []) else some (.nm, [(0, .p (encLib l)), (4, .p (I i)), (5, .ref (5 :: π) 0)], [(5 :: π, boxC c)]))
  | [], pre, x, h, hm => by
    rw [loop_eq hm]
    have hlen := congrArg List.length h
    simp at hlen
    have : pre.length = i := by omega
    simp [u_ratchetref27_CheckLibrary_L1, b_ratchetref27_CheckLibrary_L1, this]
  | y :: suf, pre, x, h, hm => by
    rw [loop_eq hm]
    have hlen := congrArg List.length h
    simp at hlen
    have h1 : (pre.length : Int) < i := by omega
    have h2 : pre.length < l.length := by omega
    have hy : l[pre.length]? = some y := by
      have : (l.take i)[pre.length]? = some y := by rw [h]; simp
      rw [List.getElem?_take, if_pos (by omega)] at this
      exact this
    have hg : (l.map encCell)[pre.length]? = some (encCell y) := by rw [List.getElem?_map, hy]; rfl
    cases hs : sameNm y.name c.name with
    | true =>
      have hs' : (y.name.toList == c.name.toList) = true := hs
      simp [u_ratchetref27_CheckLibrary_L1, b_ratchetref27_CheckLibrary_L1, h1, hg, hs, hs']
    | false =>
      have hs' : (y.name.toList == c.name.toList) = false := hs
      simp [u_ratchetref27_CheckLibrary_L1, b_ratchetref27_CheckLibrary_L1, h1, hg, hs, hs']
      exact lib_loop1 l hl i hi c suf (pre ++ [y]) _ (by simp [h]) (by simp [w_succ h2 hl])

theorem cellE_name {l : List Cell} {i : Nat} {c : Cell} (h : isNm c.name = false) : cellE l i c = 4 := by simp [cellE, firstE, unlE, h]
theorem cellE_known {l : List Cell} {i : Nat} {c : Cell} (h : isNm c.name = true) (h2 : ((l.take i).any fun o => sameNm o.name c.name) = true) : cellE l i c = 5 := by
  unfold cellE; rw [h, h2]; simp [firstE, unlE]
theorem cellE_range {l : List Cell} {i : Nat} {c : Cell} (h : isNm c.name = true) (h2 : ((l.take i).any fun o => sameNm o.name c.name) = false) : cellE l i c = unlE (cellOk c) 2 := by
  unfold cellE; rw [h, h2]; simp [firstE, unlE]
theorem unlE_0 (b : Bool) : unlE b 2 = 0 ↔ b = true := by cases b <;> simp [unlE]

theorem lib_loop0 (l : List Cell) (hl : l.length ≤ top63) (hn : namesOk l) : ∀ (suf pre : List Cell) (x : Env × Sto), l = pre ++ suf → mask [0, 4] [] x = some ([(0, .p (encLib l)), (4, .p (I pre.length))], []) →
    kpO [] [2, 3] [] (bkO 0 (iter (round EE iter π [] [0, 4] c_ratchetref27_CheckLibrary_L0) x)) = (if (eachE (cellE l) pre.length suf).2 = 0 then some (.nm, [], []) else some (.rt, [(2, .p (I (eachE (cellE l) pre.length suf).1)), (3, .p (I (eachE (cellE l) pre.length suf).2))], []))
  | [], pre, x, h, hm => by
    rw [loop_eq hm]
    subst h
    simp [u_ratchetref27_CheckLibrary_L0, b_ratchetref27_CheckLibrary_L0, eachE]
  | y :: suf, pre, x, h, hm => by
    rw [loop_eq hm]
    have hlt : pre.length < l.length := by rw [h]; simp
    have hsz := hn y (by rw [h]; simp)
    have hnext := lib_loop0 l hl hn suf (pre ++ [y])
    rw [show (pre ++ [y]).length = pre.length + 1 by simp] at hnext
    have hloop := fun x hx => lib_loop1 (π := π) l hl pre.length (Nat.le_of_lt hlt) y (l.take pre.length) [] x rfl hx
    by_cases h1 : isNm y.name = true
    · cases h2 : ((l.take pre.length).any fun o => sameNm o.name y.name) with
      | true =>
        have he := cellE_known h1 h2
        simp [u_ratchetref27_CheckLibrary_L0, b_ratchetref27_CheckLibrary_L0, lt_mid h, get_mid _ h, e_IsName, hsz, h1, eachE, he]
        rw [hloop _ (by simp)]
        rw [h2]
        simp
      | false =>
        have he := cellE_range h1 h2
        by_cases h3 : within y.pins 1 3 = true
        · have hp : y.pins = 1 ∨ y.pins = 2 ∨ y.pins = 3 := by simp [within] at h3; omega
          have ht : ∃ t p, t = topTable y.pins ∧ p = IntKind.i64.wrap (2 ^ (min y.pins.toNat 64)) ∧ 0 ≤ y.pins ∧ 0 ≤ p ∧ IntKind.i64.wrap (IntKind.i64.wrap (2 ^ (min p.toNat 64)) - 1) = t := by
            rcases hp with h | h | h <;> rw [h] <;> exact ⟨_, _, rfl, rfl, by decide, by decide, by decide⟩
          obtain ⟨t, p, t1, t2, t3, t4, t5⟩ := ht
          have hpow := e_Power (π := 51 :: π) y.pins t3
          rw [← t2] at hpow
          have hpow2 := e_Power (π := 52 :: π) p t4
          by_cases h4 : within y.table 0 t = true
          · by_cases h5 : within y.area 1 1000 = true
            · have hok : cellOk y = within y.delay 1 1000 := by simp [cellOk, h3, ← t1, h4, h5]
              rw [hok] at he
              cases h6 : within y.delay 1 1000 with
              | true =>
                rw [h6] at he
                simp [u_ratchetref27_CheckLibrary_L0, b_ratchetref27_CheckLibrary_L0, lt_mid h, get_mid _ h, e_IsName, hsz, h1, eachE, he, unlE]
                rw [hloop _ (by simp), h2]
                simp [e_Within, h3, hpow, hpow2, t5, h4, h5, h6]
                exact hnext _ (by simp [h]) (by simp [w_succ hlt hl])
              | false =>
                rw [h6] at he
                simp [u_ratchetref27_CheckLibrary_L0, b_ratchetref27_CheckLibrary_L0, lt_mid h, get_mid _ h, e_IsName, hsz, h1, eachE, he, unlE]
                rw [hloop _ (by simp), h2]
                simp [e_Within, h3, hpow, hpow2, t5, h4, h5, h6]
            · have hok : cellOk y = false := by simp [cellOk, h5]
              rw [hok] at he
              simp [u_ratchetref27_CheckLibrary_L0, b_ratchetref27_CheckLibrary_L0, lt_mid h, get_mid _ h, e_IsName, hsz, h1, eachE, he, unlE]
              rw [hloop _ (by simp), h2]
              simp [e_Within, h3, hpow, hpow2, t5, h4, h5]
          · have hok : cellOk y = false := by simp [cellOk, ← t1, h4]
            rw [hok] at he
            simp [u_ratchetref27_CheckLibrary_L0, b_ratchetref27_CheckLibrary_L0, lt_mid h, get_mid _ h, e_IsName, hsz, h1, eachE, he, unlE]
            rw [hloop _ (by simp), h2]
            simp [e_Within, h3, hpow, hpow2, t5, h4]
        · have hok : cellOk y = false := by simp [cellOk, h3]
          rw [hok] at he
          simp [u_ratchetref27_CheckLibrary_L0, b_ratchetref27_CheckLibrary_L0, lt_mid h, get_mid _ h, e_IsName, hsz, h1, eachE, he, unlE]
          rw [hloop _ (by simp), h2]
          simp [e_Within, h3]
    · have h1' : isNm y.name = false := by simpa using h1
      have he := cellE_name (l := l) (i := pre.length) h1'
      simp [u_ratchetref27_CheckLibrary_L0, b_ratchetref27_CheckLibrary_L0, lt_mid h, get_mid _ h, e_IsName, hsz, h1', eachE, he]

theorem e_CheckLibraryR (l : List Cell) (hl : l.length ≤ top63) (hn : namesOk l) : EE π n_ratchetref27_CheckLibrary [.p (encLib l)] [] = some (.p (.tup [I (libE l).1, I (libE l).2]), []) := by
  by_cases h0 : l = []
  · subst h0
    simp [e_ratchetref27_CheckLibrary, run_eq, c_ratchetref27_CheckLibrary, libE]
  · have hp : ¬ (l.length : Int) = 0 := by cases l with | nil => exact absurd rfl h0 | cons a r => simp; omega
    have hq : ¬ l.length = 0 := by omega
    by_cases h1 : 16 < l.length
    · have h2 : (16 : Int) < l.length := by omega
      simp [e_ratchetref27_CheckLibrary, run_eq, c_ratchetref27_CheckLibrary, libE, h0, h1, h2]
    · have h2 : ¬ (16 : Int) < l.length := by omega
      simp [e_ratchetref27_CheckLibrary, run_eq, c_ratchetref27_CheckLibrary, libE, h0, h1, h2]
      rw [lib_loop0 l hl hn l [] _ rfl (by simp)]
      by_cases hf : (eachE (cellE l) 0 l).2 = 0
      · have h3 := eachE_0 (cellE l) 0 l hf
        simp [hf, h3]
      · simp [hf]

theorem e_LibraryErr (l : List Cell) (hl : l.length ≤ top63) (hn : namesOk l) : EE π n_ratchetref27_LibraryErr [.p (encLib l)] [] = some (.p (I (libE l).2), []) := by
  simp [e_ratchetref27_LibraryErr, run_eq, c_ratchetref27_LibraryErr, e_CheckLibraryR l hl hn]

end Go.Proofs.YtafomlbikcphgabGreat.V

/- Netlists of cells, by mapping and by the reference. -/
namespace Go.Proofs.YtafomlbikcphgabGreat.V
open Go (IntKind BinOp UnOp)
variable {π : Id}

/-- A source of the cell of this number, or of an output, is in order. -/
def srcOk (lv : Int) (count : Nat) (s : Int) : Bool := within s 0 (1 + lv + count)
def pinsAt (l : List Cell) (i : Int) : Int := match l[i.toNat]? with | some c => c.pins | none => 0
def placedE (l : List Cell) (lv : Int) (i : Nat) (p : Placed) : Int :=
  if within p.cell 0 (l.length - 1) then firstE [unlE (decide ((p.sources.length : Int) = pinsAt l p.cell)) 10, unlE (p.sources.all (srcOk lv i)) 9] else 6
def outE (lv : Int) (count _i : Nat) (s : Int) : Int := unlE (srcOk lv count s) 9
/-- The index of an invalid cell or output, and the error of a netlist; the library is valid. -/
def netE (l : List Cell) (n : Net) : Int × Int :=
  if within n.leaves 0 40 then
    if n.placed.length ≤ 400 ∧ n.outs.length ≤ 64 then
      if (eachE (placedE l n.leaves) 0 n.placed).2 = 0 then eachE (outE n.leaves n.placed.length) 0 n.outs else eachE (placedE l n.leaves) 0 n.placed
    else (0, 8)
  else (0, 2)
/-- Of both. -/
def bothE (l : List Cell) (n : Net) : Int × Int := if (libE l).2 = 0 then netE l n else (0, (libE l).2)

abbrev netCells (n : Net) : List PV := [I n.leaves, encPlaceds n.placed, encInts n.outs]

theorem e_CN11 (n : Net) (s : Int) (count : Nat) (hc : count ≤ 400) (hv : within n.leaves 0 40 = true) :
    EE π n_mapping_CheckNet_1_1 [.p (I s), .p (.ptr (netCells n)), .p (.ptr [I count])] [] = some (.p (.bool (!srcOk n.leaves count s)), []) := by
  simp [within] at hv
  have h1 : IntKind.i64.wrap (1 + n.leaves) = 1 + n.leaves := w64 ⟨by omega, by omega⟩
  have h2 : IntKind.i64.wrap (1 + n.leaves + count) = 1 + n.leaves + count := w64 ⟨by omega, by omega⟩
  simp [e_mapping_CheckNet_1_1, run_eq, c_mapping_CheckNet_1_1, h1, h2, e_withinM, srcOk, netCells]

theorem any_not {α : Type} (p : α → Bool) (l : List α) : (l.any fun x => !p x) = !l.all p := by
  induction l with
  | nil => rfl
  | cons a r ih => simp only [List.any_cons, List.all_cons, ih]; cases p a <;> rfl

theorem e_CN1 (n : Net) (l : List Int) (hl : l.length ≤ top63) (count : Nat) (hc : count ≤ 400) (hv : within n.leaves 0 40 = true) :
    EE π n_mapping_CheckNet_1 [.p (I count), .p (encInts l), .p (.ptr (netCells n))] [] = some (.p (I (unlE (l.all (srcOk n.leaves count)) 9)), []) := by
  have := e_ContainsFuncI (π := 9 :: π) l hl (f := n_mapping_CheckNet_1_1) (caps := [.ptr (netCells n), .ptr [I count]]) (p := fun s => !srcOk n.leaves count s) (fun x _ => by simpa using e_CN11 (π := 16 :: 7 :: 9 :: π) n x count hc hv)
  rw [any_not] at this
  simp [netCells] at this
  simp [e_mapping_CheckNet_1, run_eq, c_mapping_CheckNet_1, netCells, this, e_unlessM]

theorem e_CN2 (l : List Cell) (n : Net) (hl : l.length ≤ top63) (hv : within n.leaves 0 40 = true) (i : Nat) (hi : i ≤ 400) (p : Placed) (hp : p.sources.length ≤ top63) :
    EE π n_mapping_CheckNet_2 [.p (I i), .p (encPlaced p), .p (.ptr [encLib l]), .p (.ptr [.fn n_mapping_CheckNet_1 [.ptr (netCells n)]])] [] = some (.p (I (placedE l n.leaves i p)), []) := by
  have hw : IntKind.i64.wrap ((l.length : Int) - 1) = l.length - 1 := w64 ⟨by omega, by simp only [top63] at hl; omega⟩
  by_cases h1 : within p.cell 0 (l.length - 1) = true
  · have h2 : 0 ≤ p.cell ∧ p.cell.toNat < l.length := by simp [within] at h1; omega
    obtain ⟨c, hc⟩ : ∃ c, l[p.cell.toNat]? = some c := ⟨_, List.getElem?_eq_getElem h2.2⟩
    have hg : (l.map encCell)[p.cell.toNat]? = some (encCell c) := by rw [List.getElem?_map, hc]; rfl
    have := e_CN1 (π := 29 :: π) n p.sources hp i hi hv
    simp [netCells] at this
    simp [e_mapping_CheckNet_2, run_eq, c_mapping_CheckNet_2, netCells, hw, e_withinM, h1, hg, h2.1, e_unlessM, this, e_first2M, placedE, pinsAt, hc]
  · simp [e_mapping_CheckNet_2, run_eq, c_mapping_CheckNet_2, netCells, hw, e_withinM, h1, placedE]

theorem e_CN3 (n : Net) (hn : n.placed.length ≤ 400) (hv : within n.leaves 0 40 = true) (i s : Int) :
    EE π n_mapping_CheckNet_3 [.p (I i), .p (I s), .p (.ptr [.fn n_mapping_CheckNet_1 [.ptr (netCells n)]]), .p (.ptr (netCells n))] [] = some (.p (I (unlE (srcOk n.leaves n.placed.length s) 9)), []) := by
  have := e_CN1 (π := 13 :: π) n [s] (by simp [top63]) n.placed.length hn hv
  rw [show encInts [s] = .sl 1 none [I s] from rfl] at this
  simp [netCells] at this
  simp [e_mapping_CheckNet_3, run_eq, c_mapping_CheckNet_3, netCells, this]

theorem e_CheckNetM (l : List Cell) (n : Net) (hl : l.length ≤ top63) (hn : namesOk l) (hp : n.placed.length ≤ top63) (ho : n.outs.length ≤ top63) (hs : ∀ p ∈ n.placed, p.sources.length ≤ top63) :
    EE π n_mapping_CheckNet [.p (encLib l), .p (encNet n)] [] = some (.p (.tup [I (bothE l n).1, I (bothE l n).2]), []) := by
  have hlib := e_CheckLibraryM (π := 14 :: π) l hl hn
  by_cases h0 : (libE l).2 = 0
  · by_cases h1 : within n.leaves 0 40 = true
    · by_cases h2 : n.placed.length ≤ 400
      · have h2' : ¬ (400 : Int) < n.placed.length := by omega
        by_cases h3 : n.outs.length ≤ 64
        · have h3' : ¬ (64 : Int) < n.outs.length := by omega
          have e1 := e_eachP (π := 45 :: π) n.placed hp (f := n_mapping_CheckNet_2) (caps := [.ptr [encLib l], .ptr [.fn n_mapping_CheckNet_1 [.ptr (netCells n)]]]) (err := placedE l n.leaves) (fun i x hx => by
            have := e_CN2 (π := 19 :: 45 :: π) l n hl h1 i (by have := (List.getElem?_eq_some_iff.1 hx).1; omega) x (hs x (List.mem_of_getElem? hx))
            simpa [netCells] using this)
          have e2 := e_eachM (π := 55 :: π) n.outs ho (f := n_mapping_CheckNet_3) (caps := [.ptr [.fn n_mapping_CheckNet_1 [.ptr (netCells n)]], .ptr (netCells n)]) (err := outE n.leaves n.placed.length) (fun i x hx => by
            have := e_CN3 (π := 19 :: 55 :: π) n h2 h1 i x
            simpa [netCells, outE] using this)
          simp [netCells] at e1 e2
          by_cases h4 : (eachE (placedE l n.leaves) 0 n.placed).2 = 0
          · simp [e_mapping_CheckNet, run_eq, c_mapping_CheckNet, hlib, h0, e_withinM, h1, e_unlessM, e_first3M, h2', h3', firstE, unlE, e1, e2, bothE, netE, h2, h3, h4]
          · simp [e_mapping_CheckNet, run_eq, c_mapping_CheckNet, hlib, h0, e_withinM, h1, e_unlessM, e_first3M, h2', h3', firstE, unlE, e1, e2, bothE, netE, h2, h3, h4]
        · have h3' : (64 : Int) < n.outs.length := by omega
          simp [e_mapping_CheckNet, run_eq, c_mapping_CheckNet, hlib, h0, e_withinM, h1, e_unlessM, e_first3M, h2', h3', firstE, unlE, bothE, netE, h2, h3]
      · have h2' : (400 : Int) < n.placed.length := by omega
        simp [e_mapping_CheckNet, run_eq, c_mapping_CheckNet, hlib, h0, e_withinM, h1, e_unlessM, e_first3M, h2', firstE, unlE, bothE, netE, h2]
    · by_cases h2 : (400 : Int) < n.placed.length <;> by_cases h3 : (64 : Int) < n.outs.length <;>
        simp [e_mapping_CheckNet, run_eq, c_mapping_CheckNet, hlib, h0, e_withinM, h1, e_unlessM, e_first3M, h2, h3, firstE, unlE, bothE, netE]
  · by_cases h2 : (400 : Int) < n.placed.length <;> by_cases h3 : (64 : Int) < n.outs.length <;>
        simp [e_mapping_CheckNet, run_eq, c_mapping_CheckNet, hlib, h0, e_withinM, e_unlessM, e_first3M, h2, h3, firstE, bothE]

/-! The reference. -/
abbrev boxN (n : Net) : Blk := .box false [.p (I n.leaves), .p (encPlaceds n.placed), .p (encInts n.outs)]
abbrev boxP (p : Placed) : Blk := .box false [.p (I p.cell), .p (encInts p.sources)]

theorem srcs_loop (l : List Cell) (n : Net) (hv : within n.leaves 0 40 = true) (i : Nat) (hi : i ≤ 400) (p : Placed) (hp : p.sources.length ≤ top63) : ∀ (suf pre : List Int) (x : Env × Sto), p.sources = pre ++ suf →
    mask [0, 3, 6, 7, 8] [] x = some ([(0, .p (encLib l)), (3, .ref (3 :: π) 0), (6, .p (I i)), (7, .ref (7 :: π) 0), (8, .p (I pre.length))], [(7 :: π, boxP p), (3 :: π, boxN n)]) →
    kpO [0, 3, 6] [4, 5] [] (bkO 2 (iter (round EE iter π [] [0, 3, 6, 7, 8] c_ratchetref27_CheckNet_L1) x)) = (bif suf.all (srcOk n.leaves i) then some (.nm, [(0, .p (encLib l)), (3, .ref (3 :: π) 0), (6, .p (I i))], [(3 :: π, boxN n)]) else some (.rt, [(4, .p (I i)), (5, .p (I 9))], []))
  | [], pre, x, h, hm => by
    rw [loop_eq hm]
    have : pre.length = p.sources.length := by rw [h]; simp
    simp [u_ratchetref27_CheckNet_L1, b_ratchetref27_CheckNet_L1, this]
  | y :: suf, pre, x, h, hm => by
    rw [loop_eq hm]
    simp [within] at hv
    have h1 : IntKind.i64.wrap (1 + n.leaves) = 1 + n.leaves := w64 ⟨by omega, by omega⟩
    have h2 : IntKind.i64.wrap (1 + n.leaves + i) = 1 + n.leaves + i := w64 ⟨by omega, by omega⟩
    cases hs : srcOk n.leaves i y with
    | true =>
      have hs' : within y 0 (1 + n.leaves + i) = true := hs
      simp [u_ratchetref27_CheckNet_L1, b_ratchetref27_CheckNet_L1, lt_mid h, get_mid _ h, h1, h2, e_Within, hs', hs]
      exact srcs_loop l n (by simp [within]; omega) i hi p hp suf (pre ++ [y]) _ (by simp [h]) (by simp [w_succ (show pre.length < p.sources.length by have := lt_mid h; omega) hp])
    | false =>
      have hs' : within y 0 (1 + n.leaves + i) = false := hs
      simp [u_ratchetref27_CheckNet_L1, b_ratchetref27_CheckNet_L1, lt_mid h, get_mid _ h, h1, h2, e_Within, hs', hs]

theorem placed_loop (l : List Cell) (hl : l.length ≤ top63) (n : Net) (hv : within n.leaves 0 40 = true) (hp : n.placed.length ≤ 400) (hs : ∀ p ∈ n.placed, p.sources.length ≤ top63) : ∀ (suf pre : List Placed) (x : Env × Sto), n.placed = pre ++ suf →
    mask [0, 3, 6] [] x = some ([(0, .p (encLib l)), (3, .ref (3 :: π) 0), (6, .p (I pre.length))], [(3 :: π, boxN n)]) →
    kpO [3] [4, 5] [] (bkO 0 (iter (round EE iter π [] [0, 3, 6] c_ratchetref27_CheckNet_L0) x)) = (if (eachE (placedE l n.leaves) pre.length suf).2 = 0 then some (.nm, [(3, .ref (3 :: π) 0)], [(3 :: π, boxN n)]) else some (.rt, [(4, .p (I (eachE (placedE l n.leaves) pre.length suf).1)), (5, .p (I (eachE (placedE l n.leaves) pre.length suf).2))], []))
  | [], pre, x, h, hm => by
    rw [loop_eq hm]
    have : pre.length = n.placed.length := by rw [h]; simp
    simp [u_ratchetref27_CheckNet_L0, b_ratchetref27_CheckNet_L0, this, eachE]
  | y :: suf, pre, x, h, hm => by
    rw [loop_eq hm]
    have hlt : pre.length < n.placed.length := by rw [h]; simp
    have hy := hs y (by rw [h]; simp)
    have hnext := placed_loop l hl n hv hp hs suf (pre ++ [y])
    rw [show (pre ++ [y]).length = pre.length + 1 by simp] at hnext
    have hw : IntKind.i64.wrap ((l.length : Int) - 1) = l.length - 1 := w64 ⟨by omega, by simp only [top63] at hl; omega⟩
    by_cases h1 : within y.cell 0 (l.length - 1) = true
    · have h2 : 0 ≤ y.cell ∧ y.cell.toNat < l.length := by simp [within] at h1; omega
      obtain ⟨c, hc⟩ : ∃ c, l[y.cell.toNat]? = some c := ⟨_, List.getElem?_eq_getElem h2.2⟩
      have hg : (l.map encCell)[y.cell.toNat]? = some (encCell c) := by rw [List.getElem?_map, hc]; rfl
      by_cases h3 : (y.sources.length : Int) = c.pins
      · have hloop := fun x hx => srcs_loop (π := π) l n hv pre.length (by omega) y hy y.sources [] x rfl hx
        cases h4 : y.sources.all (srcOk n.leaves pre.length) with
        | true =>
          have he : placedE l n.leaves pre.length y = 0 := by unfold placedE; rw [h4]; simp [h1, pinsAt, hc, h3, firstE, unlE]
          simp [u_ratchetref27_CheckNet_L0, b_ratchetref27_CheckNet_L0, lt_mid h, get_mid _ h, hw, e_Within, h1, h2.1, hg, h3, eachE, he]
          rw [hloop _ (by simp), h4]
          simp
          exact hnext _ (by simp [h]) (by simp [w_succ hlt (by simp [top63]; omega)])
        | false =>
          have he : placedE l n.leaves pre.length y = 9 := by unfold placedE; rw [h4]; simp [h1, pinsAt, hc, h3, firstE, unlE]
          simp [u_ratchetref27_CheckNet_L0, b_ratchetref27_CheckNet_L0, lt_mid h, get_mid _ h, hw, e_Within, h1, h2.1, hg, h3, eachE, he]
          rw [hloop _ (by simp), h4]
          simp
      · have he : placedE l n.leaves pre.length y = 10 := by unfold placedE; simp [h1, pinsAt, hc, h3, firstE, unlE]
        simp [u_ratchetref27_CheckNet_L0, b_ratchetref27_CheckNet_L0, lt_mid h, get_mid _ h, hw, e_Within, h1, h2.1, hg, h3, eachE, he]
    · have he : placedE l n.leaves pre.length y = 6 := by unfold placedE; simp [h1]
      simp [u_ratchetref27_CheckNet_L0, b_ratchetref27_CheckNet_L0, lt_mid h, get_mid _ h, hw, e_Within, h1, eachE, he]

theorem outs_loop (n : Net) (hv : within n.leaves 0 40 = true) (hp : n.placed.length ≤ 400) (ho : n.outs.length ≤ top63) : ∀ (suf pre : List Int) (x : Env × Sto), n.outs = pre ++ suf →
    mask [3, 9] [] x = some ([(3, .ref (3 :: π) 0), (9, .p (I pre.length))], [(3 :: π, boxN n)]) →
    kpO [] [4, 5] [] (bkO 4 (iter (round EE iter π [] [3, 9] c_ratchetref27_CheckNet_L2) x)) = (if (eachE (outE n.leaves n.placed.length) pre.length suf).2 = 0 then some (.nm, [], []) else some (.rt, [(4, .p (I (eachE (outE n.leaves n.placed.length) pre.length suf).1)), (5, .p (I (eachE (outE n.leaves n.placed.length) pre.length suf).2))], []))
  | [], pre, x, h, hm => by
    rw [loop_eq hm]
    have : pre.length = n.outs.length := by rw [h]; simp
    simp [u_ratchetref27_CheckNet_L2, b_ratchetref27_CheckNet_L2, this, eachE]
  | y :: suf, pre, x, h, hm => by
    rw [loop_eq hm]
    have hlt : pre.length < n.outs.length := by rw [h]; simp
    have hnext := outs_loop n hv hp ho suf (pre ++ [y])
    rw [show (pre ++ [y]).length = pre.length + 1 by simp] at hnext
    simp [within] at hv
    have h1 : IntKind.i64.wrap (1 + n.leaves) = 1 + n.leaves := w64 ⟨by omega, by omega⟩
    have h2 : IntKind.i64.wrap (1 + n.leaves + n.placed.length) = 1 + n.leaves + n.placed.length := w64 ⟨by omega, by omega⟩
    cases hs : srcOk n.leaves n.placed.length y with
    | true =>
      have hs' : within y 0 (1 + n.leaves + n.placed.length) = true := hs
      have he : outE n.leaves n.placed.length pre.length y = 0 := by simp [outE, hs, unlE]
      simp [u_ratchetref27_CheckNet_L2, b_ratchetref27_CheckNet_L2, lt_mid h, get_mid _ h, h1, h2, e_Within, hs', eachE, he]
      exact hnext _ (by simp [h]) (by simp [w_succ hlt ho])
    | false =>
      have hs' : within y 0 (1 + n.leaves + n.placed.length) = false := hs
      have he : outE n.leaves n.placed.length pre.length y = 9 := by simp [outE, hs, unlE]
      simp [u_ratchetref27_CheckNet_L2, b_ratchetref27_CheckNet_L2, lt_mid h, get_mid _ h, h1, h2, e_Within, hs', eachE, he]

theorem e_CheckNetR (l : List Cell) (n : Net) (hl : l.length ≤ top63) (ho : n.outs.length ≤ top63) (hs : ∀ p ∈ n.placed, p.sources.length ≤ top63) :
    EE π n_ratchetref27_CheckNet [.p (encLib l), .p (encNet n)] [] = some (.p (.tup [I (netE l n).1, I (netE l n).2]), []) := by
  by_cases h1 : within n.leaves 0 40 = true
  · by_cases h2 : n.placed.length ≤ 400
    · have h2' : ¬ (400 : Int) < n.placed.length := by omega
      by_cases h3 : n.outs.length ≤ 64
      · have h3' : ¬ (64 : Int) < n.outs.length := by omega
        have e1 := fun x hx => placed_loop (π := π) l hl n h1 h2 hs n.placed [] x rfl hx
        have e2 := fun x hx => outs_loop (π := π) n h1 h2 ho n.outs [] x rfl hx
        by_cases h4 : (eachE (placedE l n.leaves) 0 n.placed).2 = 0
        · simp [e_ratchetref27_CheckNet, run_eq, c_ratchetref27_CheckNet, e_Within, h1, h2', h3', netE, h2, h3, h4]
          rw [e1 _ (by simp)]
          simp [h4]
          rw [e2 _ (by simp)]
          by_cases h5 : (eachE (outE n.leaves n.placed.length) 0 n.outs).2 = 0
          · have h6 := eachE_0 _ 0 _ h5
            simp [h5, h6]
          · simp [h5]
        · simp [e_ratchetref27_CheckNet, run_eq, c_ratchetref27_CheckNet, e_Within, h1, h2', h3', netE, h2, h3, h4]
          rw [e1 _ (by simp)]
          simp [h4]
      · have h3' : (64 : Int) < n.outs.length := by omega
        simp [e_ratchetref27_CheckNet, run_eq, c_ratchetref27_CheckNet, e_Within, h1, h2', h3', netE, h2, h3]
    · have h2' : (400 : Int) < n.placed.length := by omega
      simp [e_ratchetref27_CheckNet, run_eq, c_ratchetref27_CheckNet, e_Within, h1, h2', netE, h2]
  · simp [e_ratchetref27_CheckNet, run_eq, c_ratchetref27_CheckNet, e_Within, h1, netE]

theorem e_NetErr27 (l : List Cell) (n : Net) (hl : l.length ≤ top63) (hn : namesOk l) (ho : n.outs.length ≤ top63) (hs : ∀ p ∈ n.placed, p.sources.length ≤ top63) :
    EE π n_ratchetref27_NetErr [.p (encLib l), .p (encNet n)] [] = some (.p (I (bothE l n).2), []) := by
  by_cases h : (libE l).2 = 0
  · simp [e_ratchetref27_NetErr, run_eq, c_ratchetref27_NetErr, e_LibraryErr l hl hn, h, e_CheckNetR l n hl ho hs, bothE]
  · simp [e_ratchetref27_NetErr, run_eq, c_ratchetref27_NetErr, e_LibraryErr l hl hn, h, bothE]

end Go.Proofs.YtafomlbikcphgabGreat.V

/- Models, times, and their errors. -/
namespace Go.Proofs.YtafomlbikcphgabGreat.V
open Go (IntKind BinOp UnOp)
variable {π : Id}

abbrev netOk (l : List Cell) (n : Net) : Prop := l.length ≤ top63 ∧ namesOk l ∧ n.placed.length ≤ top63 ∧ n.outs.length ≤ top63 ∧ ∀ p ∈ n.placed, p.sources.length ≤ top63

def modelOk (m : Model) : Bool := within m.perLoad 0 100 && within m.setup 0 1000000 && within m.hold 0 1000000 && within m.fast 1 1000 && within m.slow 1 1000
def modelE (m : Model) : Int := firstE [unlE (modelOk m) 2, unlE (decide (m.fast ≤ m.slow)) 9]

theorem e_first2T (x y : Int) : EE π n_timing_first [.p (.sl 1 none [I x, I y])] [] = some (.p (I (firstE [x, y])), []) := e_firstT [x, y] (by simp [top63])
theorem e_first3T (x y z : Int) : EE π n_timing_first [.p (.sl 1 none [I x, I y, I z])] [] = some (.p (I (firstE [x, y, z])), []) := e_firstT [x, y, z] (by simp [top63])

theorem e_CM1 (n : Int) : EE π n_timing_CheckModel_1 [.p (I n)] [] = some (.p (.bool (within n 0 1000000)), []) := by
  simp [e_timing_CheckModel_1, run_eq, c_timing_CheckModel_1, e_withinT]
theorem e_CM2 (n : Int) : EE π n_timing_CheckModel_2 [.p (I n)] [] = some (.p (.bool (within n 1 1000)), []) := by
  simp [e_timing_CheckModel_2, run_eq, c_timing_CheckModel_2, e_withinT]

theorem e_CheckModel (m : Model) : EE π n_timing_CheckModel [.p (encModel m)] [] = some (.p (I (modelE m)), []) := by
  unfold modelE modelOk
  cases h1 : within m.perLoad 0 100 <;> cases h2 : within m.setup 0 1000000 <;> cases h3 : within m.hold 0 1000000 <;> cases h4 : within m.fast 1 1000 <;> cases h5 : within m.slow 1 1000 <;>
    simp [e_timing_CheckModel, run_eq, c_timing_CheckModel, e_withinT, e_CM1, e_CM2, e_unlessT, e_first2T, h1, h2, h3, h4, h5]

theorem e_ModelErr (m : Model) : EE π n_ratchetref28_ModelErr [.p (encModel m)] [] = some (.p (I (modelE m)), []) := by
  unfold modelE modelOk
  by_cases h6 : m.fast ≤ m.slow
  · have h7 : ¬ m.slow < m.fast := by omega
    cases h1 : within m.perLoad 0 100 <;> cases h2 : within m.setup 0 1000000 <;> cases h3 : within m.hold 0 1000000 <;> cases h4 : within m.fast 1 1000 <;> cases h5 : within m.slow 1 1000 <;>
      simp [e_ratchetref28_ModelErr, run_eq, c_ratchetref28_ModelErr, e_Within, h1, h2, h3, h4, h5, h6, h7, firstE, unlE]
  · have h7 : m.slow < m.fast := by omega
    cases h1 : within m.perLoad 0 100 <;> cases h2 : within m.setup 0 1000000 <;> cases h3 : within m.hold 0 1000000 <;> cases h4 : within m.fast 1 1000 <;> cases h5 : within m.slow 1 1000 <;>
      simp [e_ratchetref28_ModelErr, run_eq, c_ratchetref28_ModelErr, e_Within, h1, h2, h3, h4, h5, h6, h7, firstE, unlE]

def netE28 (l : List Cell) (n : Net) : Int := firstE [(bothE l n).2, unlE (decide (n.placed.length ≤ 60)) 8]
def allE (l : List Cell) (n : Net) (m : Model) : Int := firstE [netE28 l n, modelE m]

theorem e_NetErr28 (l : List Cell) (n : Net) (h : netOk l n) : EE π n_ratchetref28_NetErr [.p (encLib l), .p (encNet n)] [] = some (.p (I (netE28 l n)), []) := by
  obtain ⟨h1, h2, h3, h4, h5⟩ := h
  unfold netE28
  by_cases hb : (bothE l n).2 = 0
  · by_cases hp : n.placed.length ≤ 60
    · have hp' : ¬ (60 : Int) < n.placed.length := by omega
      simp [e_ratchetref28_NetErr, run_eq, c_ratchetref28_NetErr, e_NetErr27 l n h1 h2 h4 h5, hb, hp, hp', firstE, unlE]
    · have hp' : (60 : Int) < n.placed.length := by omega
      simp [e_ratchetref28_NetErr, run_eq, c_ratchetref28_NetErr, e_NetErr27 l n h1 h2 h4 h5, hb, hp, hp', firstE, unlE]
  · simp [e_ratchetref28_NetErr, run_eq, c_ratchetref28_NetErr, e_NetErr27 l n h1 h2 h4 h5, hb, firstE]

theorem e_AllErr (l : List Cell) (n : Net) (m : Model) (h : netOk l n) : EE π n_ratchetref28_AllErr [.p (encLib l), .p (encNet n), .p (encModel m)] [] = some (.p (I (allE l n m)), []) := by
  unfold allE
  by_cases hb : netE28 l n = 0
  · simp [e_ratchetref28_AllErr, run_eq, c_ratchetref28_AllErr, e_NetErr28 l n h, hb, e_ModelErr, firstE]
  · simp [e_ratchetref28_AllErr, run_eq, c_ratchetref28_AllErr, e_NetErr28 l n h, hb, firstE]

/-! Times. -/
abbrev isTime (n : Int) : Bool := within n 0 1000000
def timesE (l : List Int) (count : Int) : Int := firstE [unlE (decide ((l.length : Int) = count)) 10, unlE (l.all isTime) 2]

theorem times_loop (l : List Int) (hl : l.length ≤ top63) : ∀ (suf pre : List Int) (x : Env × Sto), l = pre ++ suf → mask [1, 5] [] x = some ([(1, .p (encInts l)), (5, .p (I pre.length))], []) →
    kpO [] [4] [] (bkO 0 (iter (round EE iter π [] [1, 5] c_ratchetref28_TimesErr_L0) x)) = (bif suf.all isTime then some (.nm, [], []) else some (.rt, [(4, .p (I 2))], []))
  | [], pre, x, h, hm => by
    rw [loop_eq hm]
    subst h
    simp [u_ratchetref28_TimesErr_L0, b_ratchetref28_TimesErr_L0]
  | y :: suf, pre, x, h, hm => by
    rw [loop_eq hm]
    cases hs : isTime y with
    | true =>
      have hs' : within y 0 1000000 = true := hs
      simp [u_ratchetref28_TimesErr_L0, b_ratchetref28_TimesErr_L0, lt_mid h, get_mid _ h, e_Within, hs']
      exact times_loop l hl suf (pre ++ [y]) _ (by simp [h]) (by simp [w_succ (show pre.length < l.length by have := lt_mid h; omega) hl])
    | false =>
      have hs' : within y 0 1000000 = false := hs
      simp [u_ratchetref28_TimesErr_L0, b_ratchetref28_TimesErr_L0, lt_mid h, get_mid _ h, e_Within, hs']

theorem e_TimesErr (l : List Int) (hl : l.length ≤ top63) (count : Int) : EE π n_ratchetref28_TimesErr [.p (I count), .p (encInts l)] [] = some (.p (I (timesE l count)), []) := by
  unfold timesE
  by_cases h1 : (l.length : Int) = count
  · simp [e_ratchetref28_TimesErr, run_eq, c_ratchetref28_TimesErr, h1]
    rw [times_loop l hl l [] _ rfl (by simp)]
    cases hf : l.all isTime <;> simp [firstE, unlE]
  · simp [e_ratchetref28_TimesErr, run_eq, c_ratchetref28_TimesErr, h1, firstE, unlE]

theorem e_timesErr1 (n : Int) : EE π n_timing_timesErr_1 [.p (I n)] [] = some (.p (.bool (!isTime n)), []) := by
  simp [e_timing_timesErr_1, run_eq, c_timing_timesErr_1, e_withinT]
theorem e_timesErr (l : List Int) (hl : l.length ≤ top63) (count : Int) : EE π n_timing_timesErr [.p (encInts l), .p (I count)] [] = some (.p (I (timesE l count)), []) := by
  have := e_ContainsFuncI (π := 7 :: π) l hl (f := n_timing_timesErr_1) (caps := []) (p := fun x => !isTime x) (fun x _ => by simpa using e_timesErr1 x)
  rw [any_not] at this
  simp [e_timing_timesErr, run_eq, c_timing_timesErr, this, e_unlessT, e_first2T, timesE]

theorem e_open (l : List Cell) (n : Net) (h : netOk l n) : EE π n_timing_open [.p (encLib l), .p (encNet n)] [] = some (.p (.tup [.agg [I n.leaves, encPlaceds n.placed, encInts n.outs, encLib l], I (netE28 l n)]), []) := by
  obtain ⟨h1, h2, h3, h4, h5⟩ := h
  have e : decide ((n.placed.length : Int) ≤ 60) = decide (n.placed.length ≤ 60) := decide_eq_decide.2 (by omega)
  simp [e_timing_open, run_eq, c_timing_open, e_CheckNetM l n h1 h2 h3 h4 h5, e_unlessT, e_first2T, netE28, e]

theorem e_pointOf (s : Int) : EE π n_timing_pointOf [.p (I s)] [] = some (.p (I (IntKind.i64.wrap (s - 2))), []) := by
  simp [e_timing_pointOf, run_eq, c_timing_pointOf]
theorem e_points (n : Net) (l : List Cell) : EE π n_timing_net_points [.p (.agg [I n.leaves, encPlaceds n.placed, encInts n.outs, encLib l])] [] = some (.p (I (IntKind.i64.wrap (n.leaves + n.placed.length))), []) := by
  simp [e_timing_net_points, run_eq, c_timing_net_points]
theorem e_cell (n : Net) (l : List Cell) (i : Int) : EE π n_timing_net_cell [.p (.agg [I n.leaves, encPlaceds n.placed, encInts n.outs, encLib l]), .p (I i)] [] = some (.p (I (IntKind.i64.wrap (n.leaves + i))), []) := by
  simp [e_timing_net_cell, run_eq, c_timing_net_cell]
theorem e_Points (n : Net) : EE π n_ratchetref28_Points [.p (encNet n)] [] = some (.p (I (IntKind.i64.wrap (n.leaves + n.placed.length))), []) := by
  simp [e_ratchetref28_Points, run_eq, c_ratchetref28_Points]
/-- The earlier one of two required times; never: -1000000000. -/
def earlier (a b : Int) : Int := if a = -1000000000 then b else if b = -1000000000 then a else min a b

end Go.Proofs.YtafomlbikcphgabGreat.V

/- Loads. -/
namespace Go.Proofs.YtafomlbikcphgabGreat.V
open Go (IntKind BinOp UnOp)
variable {π ρ : Id}

/-- How many of some sources are a point. -/
def tally (done : List Int) (p : Nat) : Nat := (done.filter fun s => s == (p : Int) + 2).length
theorem tally_le (done : List Int) (p : Nat) : tally done p ≤ done.length := List.length_filter_le _ _
theorem tally_append (a b : List Int) (p : Nat) : tally (a ++ b) p = tally a p + tally b p := by simp [tally]
theorem tally_one (s : Int) (p : Nat) : tally [s] p = if s = (p : Int) + 2 then 1 else 0 := by
  unfold tally
  by_cases h : s = (p : Int) + 2 <;> simp [h]

abbrev loadsL (m : Nat) (done : List Int) : List Int := (List.range m).map fun p => (tally done p : Int)

theorem set_range {f g : Nat → Int} {m j : Nat} {v : Int} (hv : g j = v) (hne : ∀ p, p ≠ j → g p = f p) : ((List.range m).map f).set j v = (List.range m).map g := by
  apply List.ext_getElem?
  intro i
  rw [List.getElem?_set]
  simp only [List.getElem?_map, List.length_map, List.length_range]
  by_cases hi : j = i
  · subst hi
    by_cases hm : j < m
    · simp [hm, hv]
    · simp [hm]
  · rw [if_neg hi]
    by_cases hm : i < m
    · simp [hm, hne i (fun h => hi h.symm)]
    · simp [hm]

theorem loads_bump (m : Nat) (done : List Int) (s : Int) (h : 2 ≤ s) : (loadsL m done).set (s - 2).toNat ((tally done (s - 2).toNat : Int) + 1) = loadsL m (done ++ [s]) := by
  have hs : s = ((s - 2).toNat : Int) + 2 := by omega
  refine set_range ?_ fun p hp => ?_
  · rw [tally_append, tally_one, if_pos hs]; simp
  · rw [tally_append, tally_one, if_neg (by omega)]; simp

theorem loads_same (m : Nat) (done : List Int) (s : Int) (h : s < 2) : loadsL m (done ++ [s]) = loadsL m done := by
  apply List.map_congr_left
  intro p _
  rw [tally_append, tally_one, if_neg (by omega)]; simp

theorem ints_set (l : List Int) (i : Nat) (x : Int) : (ints l).set i (I x) = ints (l.set i x) := by
  unfold ints; rw [List.map_set]

theorem e_count (m : Nat) (done : List Int) (hd : done.length ≤ 1000000) (s : Int) (h0 : 0 ≤ s) (h1 : s < m + 2) (hm : m ≤ 1000000) (nl : Option Bool) :
    EE π n_timing_openModel_1 [.p (I s), .ref (10 :: ρ) 0] [(10 :: ρ, .box false [.ap (38 :: ρ)]), (38 :: ρ, .row false t_int 1 nl (ints (loadsL m done)))] =
      some (.p (.tup []), [(10 :: ρ, .box false [.ap (38 :: ρ)]), (38 :: ρ, .row false t_int 1 nl (ints (loadsL m (done ++ [s]))))]) := by
  have hw : IntKind.i64.wrap (s - 2) = s - 2 := w64 ⟨by omega, by omega⟩
  by_cases h : 2 ≤ s
  · have hge : 0 ≤ s - 2 := by omega
    have hlt : (s - 2).toNat < m := by omega
    have hg : (ints (loadsL m done))[(s - 2).toNat]? = some (I (tally done (s - 2).toNat)) := by simp [hlt]
    have hc := tally_le done (s - 2).toNat
    have hw2 : IntKind.i64.wrap ((tally done (s - 2).toNat : Int) + 1) = (tally done (s - 2).toNat : Int) + 1 := w64 ⟨by omega, by omega⟩
    have hb := loads_bump m done s h
    have hset : (ints (loadsL m done)).set (s - 2).toNat (I ((tally done (s - 2).toNat : Int) + 1)) = ints (loadsL m (done ++ [s])) := by rw [ints_set, hb]
    have hlL : (s - 2).toNat < (loadsL m done).length := by simp [hlt]
    generalize loadsL m done = L at hg hset hlL
    generalize loadsL m (done ++ [s]) = L' at hset
    generalize tally done (s - 2).toNat = c at hg hset hw2
    have hLc : L[(s - 2).toNat] = (c : Int) := by simpa [List.getElem?_eq_getElem hlL] using hg
    simp [e_timing_openModel_1, run_eq, c_timing_openModel_1, e_pointOf, hw, h, hLc, hw2, PV.setc, hlL]
    exact hset
  · have hge : ¬ 0 ≤ s - 2 := by omega
    rw [loads_same m done s (by omega)]
    generalize loadsL m done = L
    simp [e_timing_openModel_1, run_eq, c_timing_openModel_1, e_pointOf, hw, h]

/-! The loops of openModel. -/
abbrev stL (ρ : Id) (n : Net) (l : List Cell) (m : Model) (nl : Option Bool) (L : List Int) : Sto :=
  [(10 :: ρ, .box false [.ap (38 :: ρ)]), (38 :: ρ, .row false t_int 1 nl (ints L)), (8 :: ρ, .box false [.p (I n.leaves), .p (encPlaceds n.placed), .p (encInts n.outs), .p (encLib l)]),
    (6 :: ρ, .box false [.p (I 0), .p (.sl 2 (some true) []), .p (.sl 1 (some true) []), .p (.sl 5 (some true) []), .p (I 0), .p (I 0), .p (I 0), .p (I 0), .p (I 0), .p (.sl 1 (some true) [])]),
    (5 :: ρ, .box false [.p (I m.perLoad), .p (I m.setup), .p (I m.hold), .p (I m.fast), .p (I m.slow)]), (4 :: ρ, boxN n)]
abbrev envL (ρ : Id) (l : List Cell) (r : Env) : Env := [(0, .p (encLib l)), (4, .ref (4 :: ρ) 0), (5, .ref (5 :: ρ) 0), (6, .ref (6 :: ρ) 0), (8, .ref (8 :: ρ) 0), (10, .ref (10 :: ρ) 0)] ++ r
abbrev cntF (ρ : Id) : AV := .fn n_timing_openModel_1 [.ref (10 :: ρ) 0]

theorem load_loop1 (l : List Cell) (n : Net) (m : Model) (np : Nat) (hnp : np ≤ 1000000) (nl : Option Bool) (src : List Int) (hsrc : src.length ≤ top63) (hin : ∀ s ∈ src, 0 ≤ s ∧ s < np + 2) (i : Int) (done0 : List Int) (hd : done0.length + src.length ≤ 1000000) : ∀ (suf pre : List Int) (x : Env × Sto), src = pre ++ suf →
    mask [0, 4, 5, 6, 8, 10, 11, 41, 42, 43, 48, 49, 50] [] x = some (envL π l [(11, cntF π), (41, .p (encPlaceds n.placed)), (42, .p (I n.placed.length)), (43, .p (I i)), (48, .p (encInts src)), (49, .p (I src.length)), (50, .p (I pre.length))], stL π n l m nl (loadsL np (done0 ++ pre))) →
    kpO [0, 4, 5, 6, 8, 10, 11, 41, 42, 43] [6, 7] [] (bkO 2 (iter (round EE iter π [] [0, 4, 5, 6, 8, 10, 11, 41, 42, 43, 48, 49, 50] c_timing_openModel_L1) x)) = some (.nm, envL π l [(11, cntF π), (41, .p (encPlaceds n.placed)), (42, .p (I n.placed.length)), (43, .p (I i))], stL π n l m nl (loadsL np (done0 ++ src)))
  | [], pre, x, h, hm => by
    rw [loop_eq hm]
    have : src = pre := by simpa using h
    subst this
    generalize loadsL np (done0 ++ src) = L
    simp [u_timing_openModel_L1, b_timing_openModel_L1]
  | y :: suf, pre, x, h, hm => by
    rw [loop_eq hm]
    have hy := hin y (by rw [h]; simp)
    have hlen : pre.length < src.length := by rw [h]; simp
    have hc := e_count (π := 56 :: π) (ρ := π) np (done0 ++ pre) (by simp; omega) y hy.1 hy.2 hnp nl
    have hnext := load_loop1 l n m np hnp nl src hsrc hin i done0 hd suf (pre ++ [y])
    rw [show (pre ++ [y]).length = pre.length + 1 by simp, ← List.append_assoc] at hnext
    generalize loadsL np (done0 ++ pre) = L at hc
    generalize loadsL np (done0 ++ pre ++ [y]) = L' at hc hnext
    simp [u_timing_openModel_L1, b_timing_openModel_L1, lt_mid h, get_mid _ h, hc]
    exact hnext _ (by simp [h]) (by simp [w_succ hlen hsrc])

end Go.Proofs.YtafomlbikcphgabGreat.V

/- What holds of a valid circuit. -/
namespace Go.Proofs.YtafomlbikcphgabGreat.V
open Go (IntKind BinOp UnOp)

theorem within_iff {a b c : Int} : within a b c = true ↔ b ≤ a ∧ a ≤ c := by simp [within]
theorem eachE_ok {α : Type} (err : Nat → α → Int) : ∀ (i : Nat) (l : List α), (eachE err i l).2 = 0 → ∀ (k : Nat) x, l[k]? = some x → err (i + k) x = 0
  | _, [], _, k, x, hk => by simp at hk
  | i, y :: r, h, k, x, hk => by
    simp only [eachE] at h
    split at h
    · rename_i hy
      cases k with
      | zero => simp at hk; subst hk; exact hy
      | succ k =>
        have := eachE_ok err (i + 1) r h k x (by simpa using hk)
        rwa [show i + (k + 1) = i + 1 + k by omega]
    · rename_i hy; exact absurd h hy
theorem firstE_cons {x : Int} {l : List Int} : firstE (x :: l) = 0 ↔ x = 0 ∧ firstE l = 0 := by
  simp only [firstE]
  by_cases h : x = 0 <;> simp [h]
theorem unlE_z {b : Bool} {e : Int} (he : e ≠ 0) : unlE b e = 0 ↔ b = true := by cases b <;> simp [unlE, he]

structure Valid (l : List Cell) (n : Net) (m : Model) : Prop where
  lv0 : 0 ≤ n.leaves
  lv1 : n.leaves ≤ 40
  np : n.placed.length ≤ 60
  no : n.outs.length ≤ 64
  src : ∀ (i : Nat) p, n.placed[i]? = some p → ∀ s ∈ p.sources, 0 ≤ s ∧ s ≤ 1 + n.leaves + i
  cell : ∀ p ∈ n.placed, 0 ≤ p.cell ∧ ∃ c, l[p.cell.toNat]? = some c ∧ 1 ≤ c.delay ∧ c.delay ≤ 1000 ∧ p.sources.length ≤ 3
  out : ∀ s ∈ n.outs, 0 ≤ s ∧ s ≤ 1 + n.leaves + n.placed.length
  per0 : 0 ≤ m.perLoad
  per1 : m.perLoad ≤ 100

theorem lib_cells {l : List Cell} (h : (libE l).2 = 0) (i : Nat) (c : Cell) (hi : l[i]? = some c) : cellOk c = true := by
  unfold libE at h
  split at h
  · simp at h
  · split at h
    · simp at h
    · have := eachE_ok _ 0 l h i c hi
      simp only [Nat.zero_add, cellE, firstE_cons, unlE_z (show (2 : Int) ≠ 0 by decide)] at this
      exact this.2.2.1

theorem valid_net {l : List Cell} {n : Net} (h : netE28 l n = 0) : (0 ≤ n.leaves ∧ n.leaves ≤ 40) ∧ n.placed.length ≤ 60 ∧ n.outs.length ≤ 64 ∧
    (∀ (i : Nat) p, n.placed[i]? = some p → ∀ s ∈ p.sources, 0 ≤ s ∧ s ≤ 1 + n.leaves + i) ∧
    (∀ p ∈ n.placed, 0 ≤ p.cell ∧ ∃ c, l[p.cell.toNat]? = some c ∧ 1 ≤ c.delay ∧ c.delay ≤ 1000 ∧ p.sources.length ≤ 3) ∧
    (∀ s ∈ n.outs, 0 ≤ s ∧ s ≤ 1 + n.leaves + n.placed.length) := by
  unfold netE28 at h
  rw [firstE_cons, firstE_cons, unlE_z (by decide)] at h
  obtain ⟨hb, hp60, _⟩ := h
  unfold bothE at hb
  split at hb
  · rename_i hlib
    unfold netE at hb
    split at hb
    · rename_i hlv
      split at hb
      · rename_i hsz
        split at hb
        · rename_i hpl
          refine ⟨within_iff.1 hlv, by simpa using hp60, hsz.2, ?_, ?_, ?_⟩
          · intro i p hi s hs
            have := eachE_ok _ 0 _ hpl i p hi
            simp only [Nat.zero_add, placedE] at this
            split at this
            · rw [firstE_cons, firstE_cons, unlE_z (by decide), unlE_z (by decide), List.all_eq_true] at this
              have h3 := this.2.1 s hs
              exact within_iff.1 h3
            · simp at this
          · intro p hp
            obtain ⟨i, hi⟩ := List.getElem?_of_mem hp
            have := eachE_ok _ 0 _ hpl i p hi
            simp only [Nat.zero_add, placedE] at this
            split at this
            · rename_i hc
              rw [firstE_cons, firstE_cons, unlE_z (by decide), unlE_z (by decide)] at this
              have hc := within_iff.1 hc
              refine ⟨hc.1, ?_⟩
              have hlt : p.cell.toNat < l.length := by omega
              refine ⟨l[p.cell.toNat], List.getElem?_eq_getElem hlt, ?_⟩
              have hcell := lib_cells hlib _ _ (List.getElem?_eq_getElem hlt)
              simp only [cellOk, Bool.and_eq_true, within_iff] at hcell
              have hpin : (p.sources.length : Int) = l[p.cell.toNat].pins := by
                have := this.1
                simpa [pinsAt, List.getElem?_eq_getElem hlt] using this
              refine ⟨hcell.2.1, hcell.2.2, ?_⟩
              have := hcell.1.1.1.2
              omega
            · simp at this
          · intro s hs
            obtain ⟨i, hi⟩ := List.getElem?_of_mem hs
            have := eachE_ok _ 0 _ hb i s hi
            simp only [outE, unlE_z (show (9 : Int) ≠ 0 by decide)] at this
            exact within_iff.1 this
        · rename_i hpl; exact absurd hb hpl
      · simp at hb
    · simp at hb
  · rename_i hlib; exact absurd hb hlib

theorem valid_of {l : List Cell} {n : Net} {m : Model} (h : allE l n m = 0) : Valid l n m := by
  unfold allE at h
  rw [firstE_cons, firstE_cons] at h
  obtain ⟨hn, hm, _⟩ := h
  obtain ⟨h1, h2, h3, h4, h5, h6⟩ := valid_net hn
  unfold modelE at hm
  rw [firstE_cons, unlE_z (by decide)] at hm
  have h7 := hm.1
  simp only [modelOk, Bool.and_eq_true, within_iff] at h7
  exact ⟨h1.1, h1.2, h2, h3, h4, h5, h6, h7.1.1.1.1.1, h7.1.1.1.1.2⟩

/-- All sources of cells. -/
abbrev srcsP (l : List Placed) : List Int := l.flatMap (·.sources)
theorem srcsP_len : ∀ (l : List Placed), (∀ p ∈ l, p.sources.length ≤ 3) → (srcsP l).length ≤ 3 * l.length
  | [], _ => by simp
  | p :: r, h => by
    have h1 := h p (by simp)
    have h2 := srcsP_len r fun q hq => h q (by simp [hq])
    simp only [srcsP, List.flatMap_cons, List.length_append, List.length_cons] at h2 ⊢
    omega
theorem Valid.srcs_len {l : List Cell} {n : Net} {m : Model} (h : Valid l n m) : (srcsP n.placed).length ≤ 180 := by
  have := srcsP_len n.placed fun p hp => by obtain ⟨_, c, _, _, _, h⟩ := h.cell p hp; exact h
  have := h.np
  omega
theorem Valid.srcs_in {l : List Cell} {n : Net} {m : Model} (h : Valid l n m) : ∀ s ∈ srcsP n.placed, 0 ≤ s ∧ s < n.leaves + n.placed.length + 2 := by
  intro s hs
  simp only [srcsP, List.mem_flatMap] at hs
  obtain ⟨p, hp, hs⟩ := hs
  obtain ⟨i, hi⟩ := List.getElem?_of_mem hp
  have := h.src i p hi s hs
  have hlt : i < n.placed.length := by rw [List.getElem?_eq_some_iff] at hi; exact hi.1
  omega

/-- All that a circuit's points are used for. -/
abbrev usesN (n : Net) : List Int := srcsP n.placed ++ n.outs
def cellDelay (l : List Cell) (p : Placed) : Int := match l[p.cell.toNat]? with | some c => c.delay | none => 0
/-- The delay of a cell. -/
def delayN (l : List Cell) (n : Net) (m : Model) (i : Nat) (p : Placed) : Int := cellDelay l p + m.perLoad * (tally (usesN n) (n.leaves.toNat + i) : Int)
def delaysN (l : List Cell) (n : Net) (m : Model) : List Int := n.placed.mapIdx (delayN l n m)
theorem Valid.uses_len {l : List Cell} {n : Net} {m : Model} (h : Valid l n m) : (usesN n).length ≤ 244 := by
  have := h.srcs_len; have := h.no; simp only [usesN, List.length_append]; omega
theorem Valid.delay_in {l : List Cell} {n : Net} {m : Model} (h : Valid l n m) {i : Nat} {p : Placed} (hp : p ∈ n.placed) : (1 ≤ cellDelay l p ∧ cellDelay l p ≤ 1000) ∧
    (0 ≤ m.perLoad * (tally (usesN n) (n.leaves.toNat + i) : Int) ∧ m.perLoad * (tally (usesN n) (n.leaves.toNat + i) : Int) ≤ 24400) ∧ 1 ≤ delayN l n m i p ∧ delayN l n m i p ≤ 25400 := by
  obtain ⟨_, c, hc, h1, h2, _⟩ := h.cell p hp
  have e : cellDelay l p = c.delay := by simp [cellDelay, hc]
  have t := tally_le (usesN n) (n.leaves.toNat + i)
  have u := h.uses_len
  have a := h.per0
  have b := h.per1
  have hm0 : 0 ≤ m.perLoad * (tally (usesN n) (n.leaves.toNat + i) : Int) := Int.mul_nonneg a (by omega)
  have hm1 : m.perLoad * (tally (usesN n) (n.leaves.toNat + i) : Int) ≤ 100 * 244 := Int.mul_le_mul b (by omega) (by omega) (by omega)
  unfold delayN
  rw [e]
  omega

end Go.Proofs.YtafomlbikcphgabGreat.V

/- Loads of all points, and the delays of all cells. -/
namespace Go.Proofs.YtafomlbikcphgabGreat.V
open Go (IntKind BinOp UnOp)
variable {π ρ : Id}

theorem load_loop0 (l : List Cell) (n : Net) (m : Model) (np : Nat) (hnp : np ≤ 1000000) (nl : Option Bool) (hpl : n.placed.length ≤ 1000000) (hsrc : ∀ p ∈ n.placed, p.sources.length ≤ 3) (hin : ∀ s ∈ srcsP n.placed, 0 ≤ s ∧ s < np + 2) (hd : (srcsP n.placed).length ≤ 1000000) : ∀ (suf pre : List Placed) (x : Env × Sto), n.placed = pre ++ suf →
    mask [0, 4, 5, 6, 8, 10, 11, 41, 42, 43] [] x = some (envL π l [(11, cntF π), (41, .p (encPlaceds n.placed)), (42, .p (I n.placed.length)), (43, .p (I pre.length))], stL π n l m nl (loadsL np (srcsP pre))) →
    kpO [0, 4, 5, 6, 8, 10, 11] [6, 7] [] (bkO 0 (iter (round EE iter π [] [0, 4, 5, 6, 8, 10, 11, 41, 42, 43] c_timing_openModel_L0) x)) = some (.nm, envL π l [(11, cntF π)], stL π n l m nl (loadsL np (srcsP n.placed)))
  | [], pre, x, h, hm => by
    rw [loop_eq hm]
    have : n.placed = pre := by simpa using h
    rw [← this]
    generalize loadsL np (srcsP n.placed) = L
    simp [u_timing_openModel_L0, b_timing_openModel_L0]
  | y :: suf, pre, x, h, hm => by
    rw [loop_eq hm]
    have hy := hsrc y (by rw [h]; simp)
    have hlen : pre.length < n.placed.length := by rw [h]; simp
    have hsum : (srcsP n.placed).length = (srcsP pre).length + (y.sources.length + (srcsP suf).length) := by rw [h]; simp [srcsP]
    have hc := load_loop1 (π := π) l n m np hnp nl y.sources (by simp only [top63]; omega) (fun s hs => hin s (by rw [h]; simp only [srcsP, List.mem_flatMap]; exact ⟨y, by simp, hs⟩)) pre.length (srcsP pre) (by omega) y.sources []
    have hnext := load_loop0 l n m np hnp nl hpl hsrc hin hd suf (pre ++ [y])
    rw [show (pre ++ [y]).length = pre.length + 1 by simp, show srcsP (pre ++ [y]) = srcsP pre ++ y.sources by simp [srcsP]] at hnext
    rw [List.append_nil] at hc
    generalize loadsL np (srcsP pre) = L at hc
    generalize loadsL np (srcsP pre ++ y.sources) = L' at hc hnext
    simp [u_timing_openModel_L0, b_timing_openModel_L0, lt_mid h, get_mid _ h]
    rw [hc _ rfl (by simp)]
    simp
    exact hnext _ (by simp [h]) (by simp [w_succ hlen (show n.placed.length ≤ top63 by simp only [top63]; omega)])

theorem load_loop2 (l : List Cell) (n : Net) (m : Model) (np : Nat) (hnp : np ≤ 1000000) (nl : Option Bool) (hin : ∀ s ∈ n.outs, 0 ≤ s ∧ s < np + 2) (done0 : List Int) (hd : done0.length + n.outs.length ≤ 1000000) : ∀ (suf pre : List Int) (x : Env × Sto), n.outs = pre ++ suf →
    mask [0, 4, 5, 6, 8, 10, 11, 60, 61, 62] [] x = some (envL π l [(11, cntF π), (60, .p (encInts n.outs)), (61, .p (I n.outs.length)), (62, .p (I pre.length))], stL π n l m nl (loadsL np (done0 ++ pre))) →
    kpO [0, 4, 5, 6, 8, 10] [6, 7] [] (bkO 4 (iter (round EE iter π [] [0, 4, 5, 6, 8, 10, 11, 60, 61, 62] c_timing_openModel_L2) x)) = some (.nm, envL π l [], stL π n l m nl (loadsL np (done0 ++ n.outs)))
  | [], pre, x, h, hm => by
    rw [loop_eq hm]
    have : n.outs = pre := by simpa using h
    rw [← this]
    generalize loadsL np (done0 ++ n.outs) = L
    simp [u_timing_openModel_L2, b_timing_openModel_L2]
  | y :: suf, pre, x, h, hm => by
    rw [loop_eq hm]
    have hy := hin y (by rw [h]; simp)
    have hlen : pre.length < n.outs.length := by rw [h]; simp
    have hc := e_count (π := 68 :: π) (ρ := π) np (done0 ++ pre) (by simp; omega) y hy.1 hy.2 hnp nl
    have hnext := load_loop2 l n m np hnp nl hin done0 hd suf (pre ++ [y])
    rw [show (pre ++ [y]).length = pre.length + 1 by simp, ← List.append_assoc] at hnext
    generalize loadsL np (done0 ++ pre) = L at hc
    generalize loadsL np (done0 ++ pre ++ [y]) = L' at hc hnext
    simp [u_timing_openModel_L2, b_timing_openModel_L2, lt_mid h, get_mid _ h, hc]
    exact hnext _ (by simp [h]) (by simp [w_succ hlen (show n.outs.length ≤ top63 by simp only [top63]; omega)])

end Go.Proofs.YtafomlbikcphgabGreat.V

/- The delays of all cells. -/
namespace Go.Proofs.YtafomlbikcphgabGreat.V
open Go (IntKind BinOp UnOp)
variable {π ρ : Id}

abbrev rowD (π : Id) (nl : Option Bool) (D : List Int) : Id × Blk := (1000018 :: π, .row false t_int 1 nl (ints D))
abbrev stD (π : Id) (n : Net) (l : List Cell) (m : Model) (nl : Option Bool) (L : List Int) (nd : Option Bool) (D : List Int) : Sto :=
  [rowD π nd D, (18 :: π, .box false [.p (I n.leaves), .p (encPlaceds n.placed), .p (encInts n.outs), .p (encLib l), .p (I m.perLoad), .p (I m.setup), .p (I m.hold), .p (I m.fast), .p (I m.slow), .ap (1000018 :: π)]),
    (10 :: π, .box false [.ap (38 :: π)]), (38 :: π, .row false t_int 1 nl (ints L)), (8 :: π, .box false [.p (I n.leaves), .p (encPlaceds n.placed), .p (encInts n.outs), .p (encLib l)]),
    (6 :: π, .box false [.p (I 0), .p (.sl 2 (some true) []), .p (.sl 1 (some true) []), .p (.sl 5 (some true) []), .p (I 0), .p (I 0), .p (I 0), .p (I 0), .p (I 0), .p (.sl 1 (some true) [])]),
    (5 :: π, .box false [.p (I m.perLoad), .p (I m.setup), .p (I m.hold), .p (I m.fast), .p (I m.slow)])]

abbrev flagE {α : Type} (l : List α) : Option Bool := some l.isEmpty

theorem delays_step (l : List Cell) (n : Net) (m : Model) (pre : List Placed) (y : Placed) : (pre ++ [y]).mapIdx (delayN l n m) = pre.mapIdx (delayN l n m) ++ [delayN l n m pre.length y] := by
  rw [List.mapIdx_concat]

theorem delay_loop (l : List Cell) (n : Net) (m : Model) (hv : Valid l n m) (nl : Option Bool) : ∀ (suf pre : List Placed) (x : Env × Sto), n.placed = pre ++ suf →
    mask [0, 5, 6, 8, 10, 18, 74, 75, 76] [] x = some ([(0, .p (encLib l)), (5, .ref (5 :: π) 0), (6, .ref (6 :: π) 0), (8, .ref (8 :: π) 0), (10, .ref (10 :: π) 0), (18, .ref (18 :: π) 0), (74, .p (encPlaceds n.placed)), (75, .p (I n.placed.length)), (76, .p (I pre.length))],
      stD π n l m nl (loadsL (n.leaves.toNat + n.placed.length) (usesN n)) (flagE pre) (pre.mapIdx (delayN l n m))) →
    kpO [6, 18] [6, 7] [] (bkO 6 (iter (round EE iter π [] [0, 5, 6, 8, 10, 18, 74, 75, 76] c_timing_openModel_L3) x)) = some (.nm, [(6, .ref (6 :: π) 0), (18, .ref (18 :: π) 0)],
      [rowD π (flagE n.placed) (delaysN l n m), (18 :: π, .box false [.p (I n.leaves), .p (encPlaceds n.placed), .p (encInts n.outs), .p (encLib l), .p (I m.perLoad), .p (I m.setup), .p (I m.hold), .p (I m.fast), .p (I m.slow), .ap (1000018 :: π)]),
       (6 :: π, .box false [.p (I 0), .p (.sl 2 (some true) []), .p (.sl 1 (some true) []), .p (.sl 5 (some true) []), .p (I 0), .p (I 0), .p (I 0), .p (I 0), .p (I 0), .p (.sl 1 (some true) [])])])
  | [], pre, x, h, hm => by
    rw [loop_eq hm]
    have : n.placed = pre := by simpa using h
    unfold delaysN
    rw [this]
    generalize loadsL _ (usesN n) = L
    generalize pre.mapIdx (delayN l n m) = D
    simp [u_timing_openModel_L3, b_timing_openModel_L3, this]
  | y :: suf, pre, x, h, hm => by
    rw [loop_eq hm]
    have hmem : y ∈ n.placed := by rw [h]; simp
    have hlen : pre.length < n.placed.length := by rw [h]; simp
    obtain ⟨hc0, c, hc, _, _, _⟩ := hv.cell y hmem
    have hdel : cellDelay l y = c.delay := by simp [cellDelay, hc]
    have hdi := hv.delay_in (i := pre.length) hmem
    rw [hdel] at hdi
    have hlv := hv.lv0
    have hlv1 := hv.lv1
    have hnp := hv.np
    have hcl : y.cell.toNat < l.length := by rw [List.getElem?_eq_some_iff] at hc; exact hc.1
    have hcv : (l.map encCell)[y.cell.toNat]? = some (encCell c) := by simp [hc]
    have hw1 : IntKind.i64.wrap (n.leaves + pre.length) = n.leaves + pre.length := w64 ⟨by omega, by omega⟩
    have hL : (ints (loadsL (n.leaves.toNat + n.placed.length) (usesN n)))[(n.leaves + (pre.length : Int)).toNat]? = some (I (tally (usesN n) (n.leaves.toNat + pre.length))) := by
      rw [show (n.leaves + (pre.length : Int)).toNat = n.leaves.toNat + pre.length by omega]
      simp [hlen]
    have hw2 := w64 (n := m.perLoad * (tally (usesN n) (n.leaves.toNat + pre.length) : Int)) ⟨by omega, by omega⟩
    have hw3 := w64 (n := delayN l n m pre.length y) ⟨by omega, by omega⟩
    have hdn : delayN l n m pre.length y = c.delay + m.perLoad * (tally (usesN n) (n.leaves.toNat + pre.length) : Int) := by rw [delayN, hdel]
    rw [hdn] at hw3
    have hnn : 0 ≤ n.leaves + (pre.length : Int) := by omega
    have hce : l[y.cell.toNat] = c := by simpa [List.getElem?_eq_getElem hcl] using hc
    have hLl : n.leaves + (pre.length : Int) < ((loadsL (n.leaves.toNat + n.placed.length) (usesN n)).length : Int) := by simp; omega
    have hlL : (n.leaves + (pre.length : Int)).toNat < (loadsL (n.leaves.toNat + n.placed.length) (usesN n)).length := by simp; omega
    have hnext := delay_loop l n m hv nl suf (pre ++ [y])
    rw [show (pre ++ [y]).length = pre.length + 1 by simp, delays_step, hdn] at hnext
    have hDl : (pre.mapIdx (delayN l n m)).length = pre.length := by simp
    have hroom : (pre.mapIdx (delayN l n m)).length + 1 ≤ room := by rw [hDl]; simp only [room]; omega
    generalize loadsL _ (usesN n) = L at hL hnext hLl hlL
    have hLc : L[(n.leaves + (pre.length : Int)).toNat] = (tally (usesN n) (n.leaves.toNat + pre.length) : Int) := by simpa [List.getElem?_eq_getElem hlL] using hL
    generalize tally (usesN n) (n.leaves.toNat + pre.length) = tl at hLc hw2 hw3 hnext
    generalize pre.mapIdx (delayN l n m) = D at hnext hroom
    have hcell := fun π => e_cell (π := π) n l pre.length
    simp [u_timing_openModel_L3, b_timing_openModel_L3, lt_mid h, get_mid _ h, hc0, hcell, hw1, hnn, hw2, hw3, hcl, hce, hroom, hLl, hlL, hLc]
    exact hnext _ (by simp [h]) (by simp [w_succ hlen (show n.placed.length ≤ top63 by simp only [top63]; omega)])

end Go.Proofs.YtafomlbikcphgabGreat.V

/- Opened models. -/
namespace Go.Proofs.YtafomlbikcphgabGreat.V
open Go (IntKind BinOp UnOp)
variable {π ρ : Id}

abbrev zeroT : List PV := [I 0, .sl 2 (some true) [], .sl 1 (some true) [], .sl 5 (some true) [], I 0, I 0, I 0, I 0, I 0, .sl 1 (some true) []]
theorem repl_loads (k : Nat) : List.replicate k (PV.int IntKind.i64 0) = ints (loadsL k []) := by
  apply List.ext_getElem?
  intro i
  simp [tally, List.getElem?_replicate]
  by_cases h : i < k <;> simp [h]
theorem e_openModel_err (l : List Cell) (n : Net) (m : Model) (h : netOk l n) (he : allE l n m ≠ 0) :
    EE π n_timing_openModel [.p (encLib l), .p (encNet n), .p (encModel m)] [] = some (.p (.tup [.agg zeroT, I (allE l n m)]), []) := by
  have e : allE l n m = firstE [netE28 l n, modelE m] := rfl
  rw [e] at he ⊢
  simp [e_timing_openModel, run_eq, c_timing_openModel, e_open l n h, e_CheckModel, e_first2T, he]

theorem e_openModel_ok (l : List Cell) (n : Net) (m : Model) (h : netOk l n) (he : allE l n m = 0) :
    EE π n_timing_openModel [.p (encLib l), .p (encNet n), .p (encModel m)] [] = some (.tup [.agg [.p (I n.leaves), .p (encPlaceds n.placed), .p (encInts n.outs), .p (encLib l), .p (I m.perLoad), .p (I m.setup), .p (I m.hold), .p (I m.fast), .p (I m.slow), .ap (1000018 :: π)], .p (I 0)],
      [rowD π (flagE n.placed) (delaysN l n m)]) := by
  have e : firstE [netE28 l n, modelE m] = 0 := he
  have hv := valid_of he
  have hlv := hv.lv0
  have hlv1 := hv.lv1
  have hnp := hv.np
  have hw : IntKind.i64.wrap (n.leaves + n.placed.length) = n.leaves + n.placed.length := w64 ⟨by omega, by omega⟩
  have hpts := fun π => e_points (π := π) n l
  rw [hw] at hpts
  have hnn : 0 ≤ n.leaves + (n.placed.length : Int) := by omega
  have htn : (n.leaves + (n.placed.length : Int)).toNat = n.leaves.toNat + n.placed.length := by omega
  have hroom : n.leaves.toNat + n.placed.length ≤ room := by simp only [room]; omega
  have hin1 := hv.srcs_in
  have hsl := hv.srcs_len
  have hno := hv.no
  have hin : ∀ s ∈ srcsP n.placed, 0 ≤ s ∧ s < ((n.leaves.toNat + n.placed.length : Nat) : Int) + 2 := fun s hs => by have := hin1 s hs; omega
  have hin2 : ∀ s ∈ n.outs, 0 ≤ s ∧ s < ((n.leaves.toNat + n.placed.length : Nat) : Int) + 2 := fun s hs => by have := hv.out s hs; omega
  have h0 := load_loop0 (π := π) l n m (n.leaves.toNat + n.placed.length) (by omega) (some false) (by omega) (fun p hp => by obtain ⟨_, c, _, _, _, h⟩ := hv.cell p hp; exact h) hin (by omega) n.placed []
  have h2 := load_loop2 (π := π) l n m (n.leaves.toNat + n.placed.length) (by omega) (some false) hin2 (srcsP n.placed) (by omega) n.outs []
  have h3 := delay_loop (π := π) l n m hv (some false) n.placed []
  rw [List.append_nil] at h2
  rw [show srcsP [] = [] from rfl] at h0
  generalize hk : n.leaves.toNat + n.placed.length = k at *
  have hrep := repl_loads k
  generalize loadsL k [] = L0 at *
  generalize loadsL k (srcsP n.placed) = L1 at *
  generalize loadsL k (usesN n) = L2 at *
  generalize delaysN l n m = D at *
  simp [e_timing_openModel, run_eq, c_timing_openModel, e_open l n h, e_CheckModel, e_first2T, e, hpts, hnn, htn, hroom, hrep]
  rw [h0 _ rfl (by simp)]
  simp
  rw [h2 _ rfl (by simp)]
  simp [thaw, thaw1]
  rw [h3 _ rfl (by simp)]
  simp

end Go.Proofs.YtafomlbikcphgabGreat.V

/- Opened times, and the delays. -/
namespace Go.Proofs.YtafomlbikcphgabGreat.V
open Go (IntKind BinOp UnOp)
variable {π ρ : Id}

abbrev rowI (i : Id) (nl : Option Bool) (D : List Int) : Id × Blk := (i, .row false t_int 1 nl (ints D))
abbrev aggT (l : List Cell) (n : Net) (m : Model) (i : Id) : List AV := [.p (I n.leaves), .p (encPlaceds n.placed), .p (encInts n.outs), .p (encLib l), .p (I m.perLoad), .p (I m.setup), .p (I m.hold), .p (I m.fast), .p (I m.slow), .ap i]

theorem e_openTimes_err (l : List Cell) (n : Net) (m : Model) (h : netOk l n) (he : allE l n m ≠ 0) (ats : List Int) (ha : ats.length ≤ top63) :
    EE π n_timing_openTimes [.p (encLib l), .p (encNet n), .p (encModel m), .p (encInts ats)] [] = some (.p (.tup [.agg zeroT, I (allE l n m)]), []) := by
  have e : firstE [allE l n m, timesE ats n.leaves] = allE l n m := by simp [firstE, he]
  simp [e_timing_openTimes, run_eq, c_timing_openTimes, e_openModel_err l n m h he, e_timesErr ats ha, e_first2T, e, freeze]

theorem e_openTimes_ok (l : List Cell) (n : Net) (m : Model) (h : netOk l n) (he : allE l n m = 0) (ats : List Int) (ha : ats.length ≤ top63) :
    EE π n_timing_openTimes [.p (encLib l), .p (encNet n), .p (encModel m), .p (encInts ats)] [] = some (.tup [.agg (aggT l n m (1000018 :: 16 :: π)), .p (I (timesE ats n.leaves))], [rowI (1000018 :: 16 :: π) (flagE n.placed) (delaysN l n m)]) := by
  have e : firstE [0, timesE ats n.leaves] = timesE ats n.leaves := by by_cases hz : timesE ats n.leaves = 0 <;> simp [firstE, hz]
  generalize hD : delaysN l n m = D
  have ho := fun π => e_openModel_ok (π := π) l n m h he
  rw [hD] at ho
  simp [e_timing_openTimes, run_eq, c_timing_openTimes, ho, e_timesErr ats ha, e_first2T, e, freeze]


end Go.Proofs.YtafomlbikcphgabGreat.V
