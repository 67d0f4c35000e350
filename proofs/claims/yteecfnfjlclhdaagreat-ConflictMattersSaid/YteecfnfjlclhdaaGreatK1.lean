/- The values, the small language and the evaluator of this claim's proofs: a second, deterministic meaning of Go functions, on values in place of memory.
Nothing here mentions the model's machine; YteecfnfjlclhdaaGreatVS proves that the machine does what this evaluator says. VB The small language's te -/
import GoSem.Core.View
import Derived.Maps.Keyed
import Derived.Below
import Derived.OrdersIn
import Derived.RangeFuncRecord
import Derived.RangeFuncIn
import Derived.Orders
import Derived.Laws.AppendOwn
import Derived.Laws.MakeOwn
import Derived.Laws.OwnMore
import Derived.DeepKeys5
import Derived.MapKept
import Derived.Carry
import Derived.Laws.StructEq
import Derived.ChangeKeysEq

set_option linter.unusedSimpArgs false
set_option linter.unusedVariables false

/- The values, the small language and the evaluator of this claim's proofs: a second, deterministic meaning of Go functions, on values in place of memory.
Nothing here mentions the model's machine; YteecfnfjlclhdaaGreatVS proves that the machine does what this evaluator says. -/
namespace Go.Proofs.YteecfnfjlclhdaaGreat.V
open Go (IntKind BinOp UnOp)
inductive PV where
 | bool (b : Bool)
 | int (k : IntKind) (n : Int)
 | str (s : ByteArray)
 | nilf
 | fn (f : Nat) (caps : List PV)
 | sl (sz : Nat) (nl : Option Bool) (l : List PV)
 | agg (cs : List PV)
 | tup (vs : List PV)
 | ptr (cs : List PV)
 | nilp
 | und
 deriving Inhabited
section
open Go (Value Lit maxLen)
def cellOf : PV → Option Value
 | .int k n => if (Lit.int k n).wf = true then some (.int k n) else none
 | .bool b => some (.bool b)
 | .str b => if b.size ≤ maxLen then some (.string b) else none
 | _ => none
def keyV : PV → Option Value
 | .agg cs => (cs.mapM cellOf).map fun l => .agg l.toArray
 | c => cellOf c
def Y1 : List Value → List Value → Bool
 | [], [] => true
 | .int k _ :: r, .int q n :: s => decide (k = q) && (Lit.int q n).wf && Y1 r s
 | .bool _ :: r, .bool _ :: s => Y1 r s
 | .string _ :: r, .string b :: s => decide (b.size ≤ maxLen) && Y1 r s
 | _, _ => false
def sameB : List Value → List Value → Bool
 | [], [] => true
 | .int _ n :: r, .int _ m :: s => decide (n = m) && sameB r s
 | .bool a :: r, .bool b :: s => (a == b) && sameB r s
 | .string a :: r, .string b :: s => decide (a = b) && sameB r s
 | _, _ => false
def Z1a : Value → Bool
 | .agg _ => true
 | _ => false
def Gj : Value → List Value
 | .agg cs => cs.toList
 | v => [v]
def likeV (a b : Value) : Bool := (Z1a a == Z1a b) && Y1 (Gj a) (Gj b)
def sameV (a b : Value) : Bool := sameB (Gj a) (Gj b)
def lookE (u : Value) : Nat → List (PV × PV) → Option (Option (Nat × PV))
 | _, [] => some none
 | i, (k, v) :: r => match keyV k with
  | some q => if sameV q u = true then some (some (i, v)) else lookE u (i + 1) r
  | none => none
def Z18 (z : Value) (l : List (PV × PV)) : Bool := l.all fun x => match keyV x.1 with | some q => likeV z q | none => false
def putE (k v : PV) (l : List (PV × PV)) : Option (Nat × PV) → List (PV × PV)
 | none => l ++ [(k, v)]
 | some (i, _) => l.set i (k, v)
end
abbrev Id := List Nat
inductive AV where
 | p (v : PV)
 | top
 | wh (g : Bool) (v : AV)
 | ref (id : Id) (off : Nat)
 | er (id : Id) (sz i off : Nat)
 | ap (id : Id)
 | agg (cs : List AV)
 | tup (vs : List AV)
 | fn (f : Nat) (caps : List AV)
 | yld (id : Id)
 | part (id : Id) (sz lo hi : Nat)
 | clip (sz : Nat) (nl : Option Bool) (l : List PV)
 | mth (f : Nat) (l : List PV)
 | mp (id : Id)
 | bpt (id : Id) (off n : Nat)
 deriving Inhabited
inductive Opd where
 | t (i : Nat)
 | c (v : PV)
 deriving Inhabited
inductive IOp where
 | mv (x : Opd)
 | pick (c a b : Opd)
 | bin (op : BinOp) (x y : Opd)
 | beq (neg : Bool) (x y : Opd)
 | aeq (neg : Bool) (n : Nat) (x y : Opd)
 | isnil (sl neg : Bool) (x : Opd)
 | un (op : UnOp) (x : Opd)
 | conv (k : IntKind) (x : Opd)
 | len (str : Bool) (x : Opd)
 | mm (mx : Bool) (x y : Opd)
 | ext (x : Opd) (i : Nat)
 | fld (x : Opd) (off sz : Nat) (ag : Bool)
 | fa (x : Opd) (off : Nat)
 | ia (x i : Opd) (sz : Nat)
 | iaa (x i : Opd) (n sz : Nat)
 | idx (x i : Opd)
 | ld (x : Opd) (sz : Nat) (ag : Bool)
 | st (x v : Opd) (sz : Nat)
 | alloc (zero : List PV)
 | box (x : Opd) (sz : Nat)
 | build (zero : List PV) (parts : List (Nat × Nat × Opd))
 | bsl (T sz : Nat) (ag : Bool) (zero : List PV) (n : Nat) (parts : List (Nat × Opd))
 | bsp (T sz : Nat) (ag : Bool) (zero : List PV) (n : Nat) (parts : List (Nat × Opd))
 | mks (T sz : Nat) (ag : Bool) (zero : List PV) (n cap : Opd)
 | mkf (f : Nat) (caps : List Opd)
 | mkm (f : Nat) (x : Opd)
 | nck (x : Opd)
 | slc (str : Bool) (x : Opd) (lo hi : Option Opd) (sz : Nat)
 | app (x y : Opd) (T sz : Nat)
 | apx (x y : Opd) (T sz : Nat) (anc : List Nat)
 | apn (x y : Opd) (T sz : Nat)
 | callV (rd : Bool) (f : Opd) (args : List Opd)
 | callS (f : Opd) (args : List Opd)
 | callB (f : Opd) (args : List Opd)
 | s2b (x : Opd)
 | prt (x : Opd) (lo hi : Option Opd) (sz : Nat)
 | slf (x : Opd) (lo : Option Opd) (hi mx : Opd) (sz : Nat)
 | cpy (x y : Opd) (sz : Nat)
 | clr (x : Opd) (T sz : Nat) (ag : Bool) (zero : List PV)
 | shf (x lo : Opd) (sz : Nat)
 | mkp
 | lkp (m k : Opd) (z zero : PV) (ok : Bool)
 | mpu (m k v : Opd) (z : PV)
 | slb (x : Opd) (n : Nat)
 | cpb (x y : Opd)
 | mkc (f g : Nat) (x : Opd)
 | mvl (x : Opd)
 | xag (x i : Opd) (n : Nat)
 | alt (n : Nat)
 | bad
 deriving Inhabited
def IOp.opds : IOp → List Opd
 | .mv x | .isnil _ _ x | .un _ x | .conv _ x | .len _ x | .s2b x | .ext x _ | .fld x _ _ _ | .fa x _ | .ld x _ _ | .box x _ | .mkm _ x | .nck x => [x]
 | .pick c a b => [c, a, b]
 | .bin _ x y | .beq _ x y | .aeq _ _ x y | .mm _ x y | .ia x y _ | .iaa x y _ _ | .idx x y | .st x y _ | .mks _ _ _ _ x y | .app x y _ _ | .apx x y _ _ _ | .apn x y _ _ => [x, y]
 | .alloc _ | .bad | .mkp | .alt _ => []
 | .xag x i _ => [x, i]
 | .lkp m k _ _ _ => [m, k]
 | .mpu m k v _ => [m, k, v]
 | .slb x _ => [x]
 | .mvl x => [x]
 | .mkc f _ x => [.c (.fn f []), x]
 | .cpb x y => [x, y]
 | .build _ ps => ps.map (·.2.2)
 | .bsl _ _ _ _ _ ps => ps.map (·.2)
 | .bsp _ _ _ _ _ ps => ps.map (·.2)
 | .mkf _ l => l
 | .slc _ x lo hi _ => x :: (lo.toList ++ hi.toList)
 | .prt x lo hi _ => x :: (lo.toList ++ hi.toList)
 | .slf x lo hi mx _ => x :: mx :: hi :: lo.toList
 | .cpy x y _ => [x, y]
 | .clr x _ _ _ _ => [x]
 | .shf x lo _ => [x, lo]
 | .callV _ f l | .callS f l | .callB f l => f :: l
structure Ins where
 d : Option Nat
 g : Option (Nat × Bool)
 op : IOp
 deriving Inhabited
def Ins.uses (i : Ins) : List Nat := (i.op.opds.filterMap fun | .t t => some t | .c _ => none) ++ (match i.g with | some (t, _) => [t] | none => [])
inductive IR where
 | sk
 | sq (a b : IR)
 | cd (c : Opd) (a b : IR)
 | bk (id : Nat) (a : IR)
 | lp (thaw : List (Nat × (Nat ⊕ (Nat × Nat)))) (live : List Nat) (a : IR)
 | op (split : Nat) (l : List Ins) (keep : Option (List Nat))
 | ex (id : Nat)
 | rt
 | kp (k kr : List Nat) (a : IR)
 | fz (ts : List Nat) (a : IR)
 | fe (ts : List Nat) (a : IR)
 | fk (ts : List Nat) (a : IR)
 | tw (th : List (Nat × (Nat ⊕ (Nat × Nat)))) (a : IR)
 | rf (g : Opd) (nt site : Nat) (live ps : List Nat) (assign body : IR)
 | bad
 deriving Inhabited
inductive RV where
 | t (i : Nat)
 | c (i : Nat) (sz : Nat) (ag : Bool)
 deriving Inhabited
structure FnIR where
 nt : Nat
 body : IR
 res : List RV
inductive Ex where
 | nm
 | ex (id : Nat)
 | rt
 deriving DecidableEq, Inhabited
inductive FSt where
 | ready
 | busy
 | done (x : Ex)
 deriving DecidableEq, Inhabited
inductive Blk where
 | box (lent : Bool) (cs : List AV)
 | row (lent : Bool) (T sz : Nat) (nl : Option Bool) (l : List PV)
 | frm (π : Id) (nt : Nat) (e : List (Nat × AV)) (ps : List Nat) (assign body : IR) (st : FSt)
 | mpb (l : List (PV × PV))
 deriving Inhabited
abbrev Sto := List (Id × Blk)
abbrev Env := List (Nat × AV)
def PV.cells : PV → List PV
 | .agg cs => cs
 | v => [v]
def PV.cell1 : PV → Bool
 | .agg _ | .tup _ | .und => false
 | _ => true
def AV.cell1 : AV → Bool
 | .p v => v.cell1
 | .ref .. | .er .. | .ap _ | .fn .. | .yld _ | .mp _ => true
 | _ => false
def AV.allP : List AV → Option (List PV)
 | [] => some []
 | .p v :: r => match AV.allP r with | some l => some (v :: l) | none => none
 | _ :: _ => none
def AV.mkAgg (cs : List AV) : AV := match AV.allP cs with | some l => .p (.agg l) | none => .agg cs
def AV.mkFn (f : Nat) (cs : List AV) : AV := match AV.allP cs with | some l => .p (.fn f l) | none => .fn f cs
def AV.mkTup (cs : List AV) : AV := match AV.allP cs with | some l => .p (.tup l) | none => .tup cs
def AV.cells : AV → List AV
 | .p v => v.cells.map .p
 | .agg cs => cs
 | v => [v]
def AV.un (g : Bool) : AV → AV
 | .wh c v => bif (!g || c) then v else .top
 | v => v
def AV.keeps : AV → Bool
 | .top => true
 | _ => false
def AV.getP : AV → Option PV
 | .p v => some v
 | _ => none
def AV.ids : AV → List Id
 | .wh _ v => v.ids
 | .ref i _ => [i]
 | .er i _ _ _ => [i]
 | .ap i => [i]
 | .yld i => [i]
 | .mp i => [i]
 | .part i _ _ _ => [i]
 | .bpt i _ _ => [i]
 | .agg cs => AV.idsL cs
 | .tup cs => AV.idsL cs
 | .fn _ cs => AV.idsL cs
 | _ => []
 where AV.idsL : List AV → List Id
 | [] => []
 | v :: r => v.ids ++ AV.idsL r
def Blk.ids : Blk → List Id
 | .box _ cs => AV.ids.AV.idsL cs
 | .row .. => []
 | .frm _ _ e _ _ _ _ => AV.ids.AV.idsL (e.map (·.2))
 | .mpb _ => []
def PV.fg : PV → PV
 | .sl sz _ l => .sl sz none (PV.fgL l)
 | .agg cs => .agg (PV.fgL cs)
 | .tup cs => .tup (PV.fgL cs)
 | .fn f cs => .fn f (PV.fgL cs)
 | .ptr cs => .ptr (PV.fgL cs)
 | v => v
 where PV.fgL : List PV → List PV
 | [] => []
 | v :: r => v.fg :: PV.fgL r
def PV.scal : PV → Bool
 | .bool _ | .int .. | .str _ | .nilf | .nilp | .und => true
 | .agg cs => PV.scalL cs
 | .tup cs => PV.scalL cs
 | _ => false
 where PV.scalL : List PV → Bool
 | [] => true
 | v :: r => v.scal && PV.scalL r
def AV.scal : AV → Bool
 | .p v => v.scal
 | _ => false
def toPV (s : Sto) : Nat → AV → Option PV
 | 0, _ => none
 | n + 1, v =>
  match v with
  | .p v => some v
  | .ref id off => match s.lookup id with
   | some (.box _ cs) => ((cs.drop off).mapM (toPV s n)).map .ptr
   | _ => none
  | .ap id => match s.lookup id with
   | some (.row _ _ sz nl l) => some (.sl sz nl l)
   | _ => none
  | .er id sz i off => match s.lookup id with
   | some (.row _ _ sz' _ l) => if sz' = sz then (l[i]?).map fun e => .ptr (e.cells.drop off) else none
   | _ => none
  | .agg cs => (cs.mapM (toPV s n)).map .agg
  | .tup cs => (cs.mapM (toPV s n)).map .tup
  | .fn f cs => (cs.mapM (toPV s n)).map (.fn f)
  | .clip sz nl l => some (.sl sz nl l)
  | _ => none
def reach (s : Sto) : Nat → AV → List Id
 | 0, _ => []
 | n + 1, v =>
  match v with
  | .ref id _ => match s.lookup id with
   | some (.box _ cs) => id :: cs.flatMap (reach s n)
   | _ => []
  | .ap id => [id]
  | .er id _ _ _ => [id]
  | .agg cs => cs.flatMap (reach s n)
  | .tup cs => cs.flatMap (reach s n)
  | .fn _ cs => cs.flatMap (reach s n)
  | _ => []
def Blk.lend : Blk → Blk
 | .box _ cs => .box true cs
 | .row _ T sz nl l => .row true T sz nl l
 | b => b
def Sto.lend (s : Sto) (ids : List Id) : Sto := s.map fun x => if ids.contains x.1 then (x.1, x.2.lend) else x
def Sto.put (s : Sto) (id : Id) (b : Blk) : Sto := s.map fun x => if x.1 == id then (x.1, b) else x
def Sto.has (s : Sto) (id : Id) : Bool := (s.lookup id).isSome
def AV.kill (id : Id) (v : AV) : AV := if v.ids.contains id then .top else v
def Blk.kill (id : Id) : Blk → Blk
 | .box lent cs => .box lent (cs.map (AV.kill id))
 | .frm π nt e ps a b st => .frm π nt (e.map fun x => (x.1, x.2.kill id)) ps a b st
 | b => b
def Sto.kill (s : Sto) (id : Id) : Sto := s.map fun x => (x.1, x.2.kill id)
def Env.kill (e : Env) (id : Id) : Env := e.map fun x => (x.1, x.2.kill id)
def ibits (op : BinOp) (k : IntKind) (x y : Int) : Option Int :=
 match op with
 | .and => some (k.wrap ((BitVec.ofInt k.bits x &&& BitVec.ofInt k.bits y).toNat))
 | .or => some (k.wrap ((BitVec.ofInt k.bits x ||| BitVec.ofInt k.bits y).toNat))
 | .xor => some (k.wrap ((BitVec.ofInt k.bits x ^^^ BitVec.ofInt k.bits y).toNat))
 | .andNot => some (k.wrap ((BitVec.ofInt k.bits x &&& ~~~ BitVec.ofInt k.bits y).toNat))
 | _ => none
def bytesLess : List UInt8 → List UInt8 → Bool
 | _, [] => false
 | [], _ :: _ => true
 | a :: x, b :: y => a < b || (a == b && bytesLess x y)
def binPV (op : BinOp) : PV → PV → Option PV
 | .int k a, .int k' b =>
  match op with
  | .shl => if b < 0 then none else some (.int k (k.wrap (a * 2 ^ (min b.toNat k.bits))))
  | .shr => if b < 0 then none else some (.int k (a.fdiv (2 ^ (min b.toNat k.bits))))
  | .add => if k = k' then some (.int k (k.wrap (a + b))) else none
  | .sub => if k = k' then some (.int k (k.wrap (a - b))) else none
  | .mul => if k = k' then some (.int k (k.wrap (a * b))) else none
  | .quo => if k = k' then (if b = 0 then none else some (.int k (k.wrap (a.tdiv b)))) else none
  | .rem => if k = k' then (if b = 0 then none else some (.int k (a.tmod b))) else none
  | .eql => if k = k' then some (.bool (a == b)) else none
  | .neq => if k = k' then some (.bool (a != b)) else none
  | .lss => if k = k' then some (.bool (decide (a < b))) else none
  | .leq => if k = k' then some (.bool (decide (a ≤ b))) else none
  | .gtr => if k = k' then some (.bool (decide (a > b))) else none
  | .geq => if k = k' then some (.bool (decide (a ≥ b))) else none
  | op => if k = k' then (ibits op k a b).map (.int k) else none
 | .str a, .str b =>
  match op with
  | .eql => some (.bool (a.toList == b.toList))
  | .neq => some (.bool (!(a.toList == b.toList)))
  | .add => if ((a.size + b.size : Nat) : Int) ≤ 9223372036854775807 then some (.str (a ++ b)) else none
  | .lss => some (.bool (bytesLess a.toList b.toList))
  | .leq => some (.bool (bytesLess a.toList b.toList || a.toList == b.toList))
  | .gtr => some (.bool (!(bytesLess a.toList b.toList || a.toList == b.toList)))
  | .geq => some (.bool (!bytesLess a.toList b.toList))
  | _ => none
 | _, _ => none
def unPV (op : UnOp) : PV → Option PV
 | .bool b => match op with | .not => some (.bool (!b)) | _ => none
 | .int k n => match op with
  | .neg => some (.int k (k.wrap (0 - n)))
  | .xor => (ibits .xor k (if k.signed then -1 else k.max) n).map (.int k)
  | _ => none
 | _ => none
def pickAV (c : Bool) : AV → AV → AV
 | .p (.bool x), .p (.bool y) => .p (.bool (bif c then x else y))
 | .p (.int k x), .p (.int k' y) => if k = k' then .p (.int k (bif c then x else y)) else bif c then .p (.int k x) else .p (.int k' y)
 | a, b => bif c then a else b
def room : Nat := 4294967296
def seg {α : Type} (lo hi : Nat) (l : List α) : List α := (l.drop lo).take (hi - lo)
def nat? : Option PV → Option Nat
 | some (.int _ n) => if 0 ≤ n then some n.toNat else none
 | _ => none
def Zr {α : Type} (cs : List α) (off : Nat) (vs : List α) : List α := cs.take off ++ vs ++ cs.drop (off + vs.length)
def Zdh : List AV → List (Nat × Nat × Option AV) → Option (List AV)
 | cs, [] => some cs
 | cs, (off, sz, some v) :: r => if v.cells.length = sz ∧ off + sz ≤ cs.length ∧ v.cells.all AV.cell1 then Zdh (Zr cs off v.cells) r else none
 | _, (_, _, none) :: _ => none
def Z6w (sz : Nat) : List PV → List (Nat × Option AV) → Option (List PV)
 | l, [] => some l
 | l, (i, some (.p v)) :: r => if i < l.length ∧ v.cells.length = sz ∧ v.cells.all PV.cell1 then Z6w sz (l.set i v) r else none
 | _, _ :: _ => none
def Nd (ag : Bool) (cs : List PV) : PV := bif ag then .agg cs else cs.headD .und
def Z2 : Nat := 1099511627776
abbrev Call := Id → Nat → List AV → Sto → Option (AV × Sto)
def depth : Nat := 12
def Z4 (s : Sto) (v : AV) : Option (PV × Sto) :=
 match v with
 | .p v => some (v, s)
 | v => (toPV s depth v).map fun x => (x, s.lend (reach s depth v))
def rowOf (s : Sto) (sz : Nat) : AV → Option (List PV)
 | .p (.sl sz' _ l) => if sz' = sz then some l else none
 | .ap id => match s.lookup id with
  | some (.row _ _ sz' _ l) => if sz' = sz then some l else none
  | _ => none
 | _ => none
def PV.clean : PV → Bool
 | .sl _ _ [] => true
 | v => v.scal
def AV.clean : AV → Bool
 | .p v => v.clean
 | .ref _ _ => true
 | .ap _ => true
 | .yld _ => true
 | .mp _ => true
 | .agg cs => AV.cleanL cs
 | _ => false
 where AV.cleanL : List AV → Bool
 | [] => true
 | v :: r => v.clean && AV.cleanL r
def Blk.clean : Blk → Bool
 | .box _ cs => cs.all AV.clean
 | .row _ _ _ _ l => l.all fun e => e.cells.all PV.clean
 | .frm _ _ e _ _ _ _ => e.all fun x => x.2.clean
 | .mpb l => l.all fun x => x.1.clean && x.2.clean
def evA (E : Call) (π : Id) (e : Env) (s : Sto) (g : Bool) (d : Nat) : IOp → Option (AV × Sto)
 | .mv x => (x' x).map (·, [])
 | .pick c a b => match x' c with
  | some (.p (.bool c)) => match raw a, raw b with
   | some a, some b => some (pickAV c (a.un (g && c)) (b.un (g && !c)), [])
   | _, _ => none
  | _ => none
 | .bin op x y => match pv x, pv y with
  | some a, some b => (binPV op a b).map (.p ·, [])
  | _, _ => none
 | .beq neg x y => match pv x, pv y with
  | some (.bool a), some (.bool b) => some (.p (.bool ((a == b) != neg)), [])
  | _, _ => none
 | .aeq neg n x y => none
 | .isnil sl neg x => match x' x with
  | some (.p (.sl _ (some b) _)) => if sl then some (.p (.bool (b != neg)), []) else none
  | some (.p (.sl _ none (_ :: _))) => if sl then some (.p (.bool neg), []) else none
  | some (.ap id) => match s.lookup id with
   | some (.row _ _ _ (some nl) _) => if sl then some (.p (.bool (nl != neg)), []) else none
   | some (.row _ _ _ none (_ :: _)) => if sl then some (.p (.bool neg), []) else none
   | _ => none
  | some (.p .nilf) => if sl then none else some (.p (.bool (!neg)), [])
  | some (.p (.fn _ _)) => if sl then none else some (.p (.bool neg), [])
  | some (.fn _ _) => if sl then none else some (.p (.bool neg), [])
  | _ => none
 | .un op x => match pv x with
  | some a => (unPV op a).map (.p ·, [])
  | _ => none
 | .conv k x => match pv x with
  | some (.int _ n) => some (.p (.int k (k.wrap n)), [])
  | _ => none
 | .s2b x => none
 | .len str x => match x' x with
  | some (.p (.sl _ _ l)) => if str then none else some (.p (.int .i64 l.length), [])
  | some (.p (.str s)) => if str then some (.p (.int .i64 s.size), []) else none
  | some (.ap id) => match s.lookup id with
   | some (.row _ _ _ _ l) => if str then none else some (.p (.int .i64 l.length), [])
   | _ => none
  | _ => none
 | .mm mx x y => match pv x, pv y with
  | some (.int k a), some (.int k' b) => if k = k' then some (.p (.int k (bif mx then (if b > a then b else a) else (if b < a then b else a))), []) else none
  | _, _ => none
 | .ext x i => match x' x with
  | some (.p (.tup vs)) => (vs[i]?).map (.p ·, [])
  | some (.tup vs) => (vs[i]?).map (·, [])
  | _ => none
 | .fld x off sz ag => match x' x with
  | some (.p (.agg cs)) => if off + sz ≤ cs.length then (bif ag then some (.p (.agg (seg off (off + sz) cs)), []) else (cs[off]?).map (.p ·, [])) else none
  | some (.agg cs) => if off + sz ≤ cs.length then (bif ag then some (AV.mkAgg (seg off (off + sz) cs), []) else (cs[off]?).map (·, [])) else none
  | _ => none
 | .fa x off => match x' x with
  | some (.p (.ptr cs)) => some (.p (.ptr (cs.drop off)), [])
  | some (.ref id o) => some (.ref id (o + off), [])
  | some (.er id sz i o) => some (.er id sz i (o + off), [])
  | _ => none
 | .ia x i sz => match x' x, nat? (pv i) with
  | some (.p (.sl sz' _ l)), some n => if sz' = sz then (l[n]?).map fun v => (.p (.ptr v.cells), []) else none
  | some (.ap id), some n => match s.lookup id with
   | some (.row _ _ sz' _ l) => if sz' = sz then (if n < l.length then some (.er id sz n 0, []) else none) else none
   | _ => none
  | _, _ => none
 | .iaa x i n sz => match x' x, nat? (pv i) with
  | some (.p (.ptr cs)), some j => if j < n then some (.p (.ptr (cs.drop (j * sz))), []) else none
  | some (.ref id o), some j => if j < n then some (.ref id (o + j * sz), []) else none
  | some (.er id z k o), some j => if j < n then some (.er id z k (o + j * sz), []) else none
  | _, _ => none
 | .idx x i => match x' x, nat? (pv i) with
  | some (.p (.str b)), some n => (b[n]?).map fun c => (.p (.int .u8 c.toNat), [])
  | _, _ => none
 | .ld x sz ag => match x' x with
  | some (.p (.ptr cs)) => (bif ag then (if sz ≤ cs.length then some (.p (.agg (cs.take sz)), []) else none) else (cs.head?).map (.p ·, []))
  | some (.ref id o) => match s.lookup id with
   | some (.box _ cs) => (bif ag then (if o + sz ≤ cs.length then some (AV.mkAgg (seg o (o + sz) cs), []) else none) else (cs[o]?).map (·, []))
   | _ => none
  | some (.er id z i o) => match s.lookup id with
   | some (.row _ _ z' _ l) => match (if z' = z then l[i]? else none) with
    | some v => (bif ag then (if o + sz ≤ v.cells.length then some (.p (.agg (seg o (o + sz) v.cells)), []) else none) else (v.cells[o]?).map (.p ·, []))
    | none => none
   | _ => none
  | _ => none
 | .xag x i n => match x' x, nat? (pv i) with
  | some (.p (.agg cs)), some j => if j < n then (cs[j]?).map (.p ·, []) else none
  | some (.agg cs), some j => if j < n then (cs[j]?).map (·, []) else none
  | _, _ => none
 | .alt n => if s.has (d :: π) then none else some (.ref (d :: π) 0, [(d :: π, .box false (List.replicate n .top))])
 | .alloc zero => if s.has (d :: π) then none else some (.ref (d :: π) 0, [(d :: π, .box false (zero.map .p))])
 | .box x sz => match x' x with
  | some v => if v.cells.length = sz ∧ v.cells.all AV.cell1 then (if s.has (d :: π) then none else some (.ref (d :: π) 0, [(d :: π, .box false v.cells)])) else none
  | none => none
 | .build zero parts => (Zdh (zero.map .p) (parts.map fun x => (x.1, x.2.1, x' x.2.2))).map fun cs => (AV.mkAgg cs, [])
 | .bsl T sz ag zero n parts => if s.has (d :: π) then none else
  (Z6w sz (List.replicate n (Nd ag zero)) (parts.map fun x => (x.1, x' x.2))).map fun l => (.ap (d :: π), [(d :: π, .row false T sz (some false) l)])
 | .bsp _ sz ag zero n parts => (Z6w sz (List.replicate n (Nd ag zero)) (parts.map fun x => (x.1, x' x.2))).map fun l => (.p (.sl sz (some false) l), [])
 | .mks T sz ag zero n cap => match nat? (pv n), nat? (pv cap) with
  | some n, some c => if s.has (d :: π) then none else
   if n ≤ c ∧ c ≤ room then some (.ap (d :: π), [(d :: π, .row false T sz (some false) (List.replicate n (Nd ag zero)))]) else none
  | _, _ => none
 | .mkf f caps => (caps.mapM x').map fun l => (AV.mkFn f l, [])
 | .nck x => match x' x with
  | some (.p (.ptr cs)) => some (.p (.ptr cs), [])
  | some (.ref id o) => some (.ref id o, [])
  | some (.er id z i o) => some (.er id z i o, [])
  | _ => none
 | .mkm f x => none
 | .slc str x lo hi sz => match x' x, nat? (lo.elim (some (.int .i64 0)) pv) with
  | some (.p (.sl sz' nl l)), some a => match nat? (hi.elim (some (.int .i64 l.length)) pv) with
   | some b => if str = false ∧ sz' = sz ∧ a ≤ b ∧ b ≤ l.length then some (.p (.sl sz nl (seg a b l)), []) else none
   | none => none
  | some (.p (.str t)), some a => match nat? (hi.elim (some (.int .i64 t.size)) pv) with
   | some b => if str = true ∧ a ≤ b ∧ b ≤ t.size then some (.p (.str (t.extract a b)), []) else none
   | none => none
  | _, _ => none
 | .prt x lo hi sz => none
 | .slf x lo hi mx sz => none
 | .apn x y T sz => none
 | .mkp => if s.has (d :: π) then none else some (.mp (d :: π), [(d :: π, .mpb [])])
 | .lkp m k z zero ok => match x' m, (pv k).bind keyV, keyV z with
  | some (.mp id), some u, some zv => match s.lookup id with
   | some (.mpb l) => if likeV zv u && Z18 zv l then (lookE u 0 l).map fun r => (.p (bif ok then .tup [r.elim zero (·.2), .bool r.isSome] else r.elim zero (·.2)), []) else none
   | _ => none
  | _, _, _ => none
 | .mkc _ g x => none
 | .mvl x => none
 | .slb x n => none
 | .callV rd f args => match x' f, args.mapM x' with
  | some f, some vs => match toPV s depth f, vs.mapM (toPV s depth) with
   | some (.fn k caps), some ps => match E (d :: π) k ((ps.map fun v => AV.p v.fg) ++ caps.map fun v => AV.p v.fg) [] with
    | some (r, news) => if !rd && ((vs.all fun v => (v.getP).isSome) && f.getP.isSome) then
      (if news.all fun x => !s.has x.1 then some (r, news) else none)
     else if rd && (r.scal && news.isEmpty) then some (r, [])
     else if rd && ((vs.all fun v => (v.getP).isSome) && f.getP.isSome) && news.all (fun x => !s.has x.1) then (Z4 news r).map fun y => (.p y.1, y.2)
     else if rd && (r.clean && news.all fun x => x.2.clean) && news.all (fun x => !s.has x.1) then some (r, news) else none
    | none => none
   | _, _ => none
  | _, _ => none
 | _ => none
 where
 raw (x : Opd) : Option AV := match x with | .t i => e.lookup i | .c v => some (.p v)
 x' (x : Opd) : Option AV := (raw x).map (AV.un g)
 pv (x : Opd) : Option PV := (x' x).bind AV.getP
def Z03 (s : Sto) : List AV → Option (List PV × Sto)
 | [] => some ([], s)
 | v :: r => match Z4 s v with
  | some (x, s) => match Z03 s r with
   | some (l, s) => some (x :: l, s)
   | none => none
  | none => none
def PV.setc (old : PV) (o : Nat) (vs : List PV) : PV := match old with | .agg cs => .agg (Zr cs o vs) | _ => vs.headD .und
def srcOf (s : Sto) (sz : Nat) : AV → Option (List PV)
 | .part id sz' lo hi => match s.lookup id with
  | some (.row _ _ sz2 _ l) => if sz' = sz ∧ sz2 = sz ∧ hi ≤ l.length then some (seg lo hi l) else none
  | _ => none
 | v => rowOf s sz v
def dstOf (s : Sto) (sz : Nat) : AV → Option (Id × Nat × Nat)
 | .part id sz' lo hi => if sz' = sz then some (id, lo, hi) else none
 | .ap id => match s.lookup id with
  | some (.row _ _ sz' _ l) => if sz' = sz then some (id, 0, l.length) else none
  | _ => none
 | _ => none
def closF (s : Sto) : Nat → List Id → List Id → List Id
 | 0, ids, _ => ids
 | n + 1, ids, fr => match (fr.flatMap fun id => match s.lookup id with | some b => b.ids | none => []).filter fun i => !ids.contains i with
  | [] => ids
  | i :: new => closF s n (ids ++ i :: new) (i :: new)
def Za6 (s : Sto) (n : Nat) (ids : List Id) : List Id := closF s n ids ids
def gc (s : Sto) (roots : List Id) : Option Sto :=
 let keep := Za6 s 12 roots
 let s' : Sto := s.filter fun x => keep.contains x.1
 if (roots.all fun id => s'.has id) && s'.all (fun x => x.2.ids.all fun id => s'.has id) then some s' else none
def evT (E : Call) (π : Id) (e : Env) (s : Sto) (d : Nat) : IOp → Option (AV × Env × Sto)
 | .st x v sz => match x' x, x' v with
  | some (.ref id o), some v => match s.lookup id with
   | some (.box false cs) =>
    if v.cells.length = sz ∧ o + sz ≤ cs.length ∧ v.cells.all AV.cell1 then some (.p .und, e, s.put id (.box false (Zr cs o v.cells))) else none
   | _ => none
  | some (.er id z i o), some v => match Z03 s v.cells with
   | some (vs, s) => match s.lookup id with
    | some (.row false T z' nl l) => match l[i]? with
     | some old =>
      if z' = z ∧ vs.length = sz ∧ o + sz ≤ old.cells.length ∧ vs.all PV.cell1 then
       some (.p .und, e, s.put id (.row false T z' nl (l.set i (old.setc o vs))))
      else none
     | none => none
    | _ => none
   | none => none
  | _, _ => none
 | .app x y T sz => match (x' y).bind (rowOf s sz) with
  | some l2 => match x' x with
   | some (.ap id) => match s.lookup id with
    | some (.row lent T' sz' nl l) =>
     if T' = T ∧ sz' = sz ∧ l.length + l2.length ≤ room then some (.ap id, e.kill id, (s.kill id).put id (.row lent T sz (bif l2.isEmpty then nl else some false) (l ++ l2))) else none
    | _ => none
   | some (.p (.sl _ (some true) [])) =>
    if s.has (d :: π) then none else
    if l2.length ≤ room then some (.ap (d :: π), e, (d :: π, .row false T sz (some l2.isEmpty) l2) :: s) else none
   | some (.clip sz' nl l) =>
    if s.has (d :: π) then none else
    if sz' = sz ∧ l.length + l2.length ≤ room ∧ (l = [] ∨ l2 ≠ []) then some (.ap (d :: π), e, (d :: π, .row false T sz (bif l2.isEmpty then (bif nl == some true then nl else none) else some false) (l ++ l2)) :: s) else none
   | _ => none
  | none => none
 | .cpy x y sz => none
 | .clr x _ sz ag zero => none
 | .shf x lo sz => match x' x, (pv lo).bind (fun v => nat? (some v)) with
  | some (.ap id), some n => match s.lookup id with
   | some (.row false T sz' nl l) => if sz' = sz ∧ n ≤ l.length then some (.ap id, e.kill id, (s.kill id).put id (.row false T sz nl (l.drop n))) else none
   | _ => none
  | _, _ => none
 | .mpu m k v z => match x' m, pv k, pv v with
  | some (.mp id), some kp, some vp => match keyV kp, keyV z, s.lookup id with
   | some u, some zv, some (.mpb l) => if likeV zv u && Z18 zv l then (lookE u 0 l).map fun r => (.p .und, e, s.put id (.mpb (putE kp vp l r))) else none
   | _, _, _ => none
  | _, _, _ => none
 | .cpb x y => none
 | .bsl T sz ag zero n parts => if s.has (d :: π) then none else
  match (parts.map fun x => x' x.2).mapM id with
  | some vs => match Z03 s vs with
   | some (ps, s) => (Z6w sz (List.replicate n (Nd ag zero)) ((parts.map (·.1)).zip (ps.map fun v => some (.p v)))).map fun l =>
    (.ap (d :: π), e, (d :: π, .row false T sz (some false) l) :: s)
   | none => none
  | none => none
 | .callB f args => none
 | .callV rd f args => match x' f, args.mapM x' with
  | some f, some vs => if rd || ((vs.all fun v => (v.getP).isSome) && f.getP.isSome) then none else match Z4 s f with
   | some (.fn k caps, s) => match Z03 s vs with
    | some (ps, s) => match E (d :: π) k ((ps.map fun v => AV.p v.fg) ++ caps.map fun v => AV.p v.fg) [] with
     | some (r, news) => if news.all fun x => !s.has x.1 then some (r, e, news ++ s) else none
     | none => none
    | none => none
   | _ => none
  | _, _ => none
 | .callS f args => match x' f, args.mapM x' with
  | some f, some vs => match (match f with | .p (.fn k caps) => if k = Z2 then none else some (k, caps.map AV.p) | .fn k caps => if k = Z2 then none else some (k, caps) | .yld id => some (Z2, [.yld id]) | _ => none) with
   | some (k, caps) =>
    let ids := Za6 s 12 (AV.ids.AV.idsL (vs ++ caps))
    match E (d :: π) k (vs ++ caps) (s.filter fun x => ids.contains x.1) with
    | some (r, s1) =>
     let rows := bif r.keeps then [] else ids.filter fun id => match s.lookup id with | some (.row ..) => true | _ => false
     if ((s.filter fun x => ids.contains x.1).all fun x => x.2.ids.all fun id => ids.contains id) && (ids.all fun id => s.has id && s1.has id) && s1.all fun x => ids.contains x.1 || !s.has x.1 then
      some (r, rows.foldl Env.kill e,
       (s1.filter fun x => !ids.contains x.1) ++ s.map fun x => if ids.contains x.1 then (x.1, (s1.lookup x.1).getD x.2) else (x.1, rows.foldl (fun b id => b.kill id) x.2))
     else none
    | none => none
   | none => none
  | _, _ => none
 | .slc false x lo hi sz => match x' x with
  | some (.ap id) => match s.lookup id, nat? (lo.elim (some (.int .i64 0)) pv) with
   | some (.row _ _ sz' nl l), some a => match nat? (hi.elim (some (.int .i64 l.length)) pv) with
    | some b => if sz' = sz ∧ a ≤ b ∧ b ≤ l.length then some (.p (.sl sz nl (seg a b l)), e, s.lend [id]) else none
    | none => none
   | _, _ => none
  | _ => none
 | _ => none
 where
 x' (x : Opd) : Option AV := (match x with | .t i => e.lookup i | .c v => some (.p v)).map (AV.un true)
 pv (x : Opd) : Option PV := (x' x).bind AV.getP
def Env.set (e : Env) (d : Option Nat) (v : AV) : Env := match d with | some d => (d, v) :: e | none => e
def IOp.isCall : IOp → Bool
 | .callV .. => true
 | _ => false
def stepA (E : Call) (π : Id) (o : Ins) (e : Env) (s : Sto) : Option (Env × Sto) :=
 match o.g with
 | none => (evA E π e s true (o.d.getD 0) o.op).map fun r => (e.set o.d r.1, r.2 ++ s)
 | some (t, want) => match (match e.lookup t with
   | some (.p (.bool b)) => some (some (b == want))
   | some (.wh c (.p (.bool b))) => some (some (c && b == want))
   | some (.p .und) => some none
   | _ => none : Option (Option Bool)) with
  | some (some g) => if g = false then some (e.set o.d (.p .und), s) else match evA E π e s g (o.d.getD 0) o.op with
   | some (v, []) => some (e.set o.d (.wh g v), s)
   | some (v, news) => bif g then some (e.set o.d v, news ++ s) else some (e.set o.d (.p .und), s)
   | none => bif g then none else some (e.set o.d (.p .und), s)
  | some none => some (e.set o.d (.p .und), s)
  | none => none
def step (E : Call) (π : Id) (o : Ins) (e : Env) (s : Sto) : Option (Env × Sto) :=
 match stepA E π o e s with
 | some r => some r
 | none => match o.g with
  | none => (evT E π e s (o.d.getD 0) o.op).map fun r => (r.2.1.set o.d r.1, r.2.2)
  | some (t, want) => match e.lookup t with
   | some (.p (.bool b)) => bif b == want then (evT E π e s (o.d.getD 0) o.op).map fun r => (r.2.1.set o.d r.1, r.2.2) else none
   | _ => none
def steps (E : Call) (π : Id) : Nat → List Ins → Env → Sto → Option (Env × Sto)
 | _, [], e, s => some (e, s)
 | 0, o :: r, e, s => match step E π o e s with | some (e, s) => steps E π 0 r e s | none => none
 | n + 1, o :: r, e, s => match stepA E π o e s with | some (e, s) => steps E π n r e s | none => none
def faE (e : Env) (o : Ins) : Env := match o.d, o.g, o.op with
 | some d, none, .fa (.t j) off => match e.lookup j with
  | some (.ref id x) => (d, .ref id (x + off)) :: e
  | _ => e
 | _, _, _ => e
def hidOf (e : Env) : Nat → List Ins → List Id → Option (List Id)
 | n + 1, o :: r, acc => match o.op with
  | .apx _ _ _ _ _ => none
  | .callS _ _ => none
  | .st (.t k) _ _ => match o.g, e.lookup k with
   | none, some (.ref id _) => hidOf e n r (id :: acc)
   | _, _ => hidOf e n r acc
  | _ => hidOf (faE e o) n r acc
 | _, _, acc => some acc
def stW (s0 : Sto) (p : List (Id × Blk)) (o : Ins) (e : Env) : Option (Id × Blk × Blk) :=
 match o.d, o.g, o.op with
 | none, none, .st (.t k) v sz => match evA.x' e true (.t k), evA.x' e true v with
  | some (.ref id off), some v => match s0.lookup id, p.lookup id with
   | some (.box false cs), none => if v.cells.length = sz ∧ off + sz ≤ cs.length ∧ v.cells.all AV.cell1 then some (id, .box false cs, .box false (Zr cs off v.cells)) else none
   | _, _ => none
  | _, _ => none
 | _, _, _ => none
def appW (s0 s : Sto) (p : List (Id × Blk)) (o : Ins) (e : Env) : Option (Nat × List Nat × Id × Blk × Blk) :=
 match o.d, o.g, o.op with
 | some d, none, .apx x y T sz anc => match evA.x' e true x, (evA.x' e true y).bind (rowOf s sz) with
  | some (.ap id), some l2 => match (match p.lookup id with | some b => some b | none => s0.lookup id) with
   | some (.row lent T' sz' nl l) => if T' = T ∧ sz' = sz ∧ l.length + l2.length ≤ room then some (d, anc, id, .row lent T sz nl l, .row lent T sz (bif l2.isEmpty then nl else some false) (l ++ l2)) else none
   | _ => none
  | _, _ => none
 | _, _, _ => none
def Blk.holds (id : Id) : Blk → Bool
 | .box l cs => (Blk.box l cs).ids.contains id
 | _ => false
def AV.killP (p : Id → Bool) (v : AV) : AV := if v.ids.any p then .top else v
def Blk.killP (p : Id → Bool) : Blk → Blk
 | .box lent cs => .box lent (cs.map (AV.killP p))
 | b => b
def kbS (K : Sto) (p : Id → Bool) : Sto := K.map fun x => (x.1, x.2.killP p)
def kbx (lg : Bool) (s0 : Sto) (H : List Id) : Sto := if lg = true then H.filterMap fun id => match s0.lookup id with
 | some (.box false cs) => if (AV.ids.AV.idsL cs).any fun i => H.contains i then some (id, .box false cs) else none
 | _ => none else []
def ldW (lg : Bool) (s0 : Sto) (H : List Id) (o : Ins) (e : Env) : Option (Id × Nat × AV) :=
 match o.d, o.g, o.op with
 | some _, none, .ld (.t k) 1 false => match evA.x' e true (.t k) with
  | some (.ref id off) => match (kbx lg s0 H).lookup id with
   | some (.box false cs) => match cs[off]? with
    | some av => some (id, off, av)
    | none => none
   | _ => none
  | _ => none
 | _, _, _ => none
def useE (o : Ins) (e : Env) : Env := o.uses.filterMap fun t => (e.lookup t).map fun v => (t, v)
def Ins.isCS (o : Ins) : Bool := match o.op with | .callS (.c (.fn _ [])) _ => true | _ => false
def callW (C : Call) (π : Id) (s0 : Sto) (p : List (Id × Blk)) (H : List Id) (o : Ins) (e : Env) : Option (PV × Id × List (PV × PV) × List (PV × PV)) :=
 match o.d, o.g, AV.ids.AV.idsL ((useE o e).map fun x => x.2) with
 | some d, none, [id] => match s0.lookup id, p.lookup id with
  | some (.mpb l), none => if H.contains id then match evT C π (useE o e) [(id, .mpb l)] d o.op with
   | some (.p v, _, [(id', .mpb l')]) => if id' == id && v.scal then some (v, id, l, l') else none
   | _ => none else none
  | _, _ => none
 | _, _, _ => none
structure Apx where
 id : Id
 d : Nat
 k : Nat
 anc : List Nat
structure HSt where
 e : Env
 s : Sto
 p : List (Id × Blk)
 A : List Apx
 U : List (Nat × List AV)
 C : List (Nat × Id)
def usesV (o : Ins) (e : Env) : List AV := o.uses.filterMap fun t => e.lookup t
def putP (p : List (Id × Blk)) (id : Id) (b : Blk) : List (Id × Blk) := if (p.lookup id).isSome then p.map fun x => if x.1 == id then (x.1, b) else x else (id, b) :: p
def Yi (E : Call) (π : Id) (s0 : Sto) (H : List Id) (lg : Bool) : Nat → Nat → List Ins → Env → Sto → List (Id × Blk) → List Apx → List (Nat × List AV) → List (Nat × Id) → Option (HSt × List Ins)
  | k, n + 1, o :: r, e, s, p, A, U, C => match stW s0 p o e with
    | some x => if H.contains x.1 && (!lg || x.2.1.ids.all fun i => !H.contains i) then Yi E π s0 H lg (k + 1) n r e s ((x.1, x.2.2) :: p) A (if lg = true then (k, usesV o e) :: U else U) C else none
    | none => match appW s0 s p o e with
      | some x => if lg && H.contains x.2.2.1 && !(A.any fun a => a.id == x.2.2.1) then Yi E π s0 H lg (k + 1) n r (e.set o.d .top) s (putP p x.2.2.1 x.2.2.2.2) (⟨x.2.2.1, x.1, k, x.2.1⟩ :: A) ((k, usesV o e) :: U) C else none
      | none => match ldW lg s0 H o e with
       | some x => Yi E π s0 H lg (k + 1) n r (e.set o.d x.2.2) s p A ((k, x.2.2 :: usesV o e) :: U) C
       | none => if (lg && o.isCS) = true then (match callW E π s0 p H o e with
        | some x => Yi E π s0 H lg (k + 1) n r (e.set o.d (.p x.1)) s ((x.2.1, .mpb x.2.2.2) :: p) A ((k, .p x.1 :: usesV o e) :: U) C
        | none => none) else match stepA E π o e s with
        | some y => if lg = true then
            (if (y.2.filter fun x => H.contains x.1).all fun x => (p.lookup x.1).isNone && !s0.has x.1 then
              Yi E π s0 H lg (k + 1) n r y.1 (y.2.filter fun x => !H.contains x.1) ((y.2.filter fun x => H.contains x.1) ++ p) A ((k, (o.d.bind fun d => y.1.lookup d).toList ++ usesV o e) :: U) (((y.2.filter fun x => H.contains x.1).map fun x => (k, x.1)) ++ C) else none)
          else Yi E π s0 H lg (k + 1) n r y.1 y.2 p A U C
        | none => none
  | _, _, l, e, s, p, A, U, C => some (⟨e, s, p, A, U, C⟩, l)
def hidA (E : Call) (π : Id) : Nat → List Ins → Env → Sto → List Id → Option (List Id)
 | n + 1, o :: r, e, s, acc => match o.op with
  | .apx x _ _ _ _ => match evA.x' e true x with
   | some (.ap id) => hidA E π n r (e.set o.d .top) s (id :: ((s.filter fun b => b.2.holds id).map fun b => b.1) ++ acc)
   | _ => none
  | .callS _ _ => hidA E π n r (e.set o.d .top) s (AV.ids.AV.idsL ((useE o e).map fun x => x.2) ++ acc)
  | .st (.t k) _ _ => match o.g, e.lookup k with
   | none, some (.ref id _) => hidA E π n r e s (id :: acc)
   | _, _ => none
  | _ => match stepA E π o e s with
   | some y => hidA E π n r y.1 y.2 acc
   | none => none
 | _, _, _, _, acc => some acc
def apxOk (s : Sto) (h : HSt) : Bool :=
 (h.A.all fun a => (h.U.all fun u => u.1 == a.k || (u.2.all fun v => !v.ids.contains a.id) || a.anc.contains u.1) && (h.C.all fun c => c.2 != a.id || a.anc.contains c.1) && (h.p ++ h.s).all fun x => !x.2.ids.contains a.id) &&
 h.C.all fun c => h.A.any fun a => a.id == c.2
def apxE (h : HSt) : Env := match h.A with
 | [] => h.e
 | _ => (h.A.map fun a => (a.d, AV.ap a.id)) ++ h.e.map fun x => (x.1, if x.2.ids.any (fun i => h.A.any fun a => a.id == i) then .top else x.2)
def evRH (E : Call) (π : Id) (n : Nat) (l : List Ins) (e : Env) (s : Sto) (lg : Bool) (H : List Id) : Option (Env × Sto) :=
 match Yi E π s H lg 0 n l e (s.filter fun x => !H.contains x.1) [] [] [] [] with
 | some (h, r) => if (H.all fun id => ((h.p.lookup id).isSome || ((kbx lg s H).lookup id).isSome) && !h.s.has id) && apxOk s h then steps E π 0 r (apxE h) (h.p ++ (kbS (kbx lg s H) (fun i => h.A.any fun a => a.id == i) ++ h.s)) else none
 | none => none
def dd : List Id → List Id
 | [] => []
 | a :: r => if (dd r).contains a then dd r else a :: dd r
def evR (E : Call) (π : Id) (n : Nat) (l : List Ins) (e : Env) (s : Sto) : Option (Env × Sto) :=
 match hidOf e n l [] with
 | some [] => steps E π n l e s
 | some H => evRH E π n l e s false H
 | none => match hidA E π n l e s [] with
  | some H => evRH E π n l e s true (dd H)
  | none => none
abbrev Loop := (Env × Sto → Option (Ex × Env × Sto)) → Env × Sto → Option (Ex × Env × Sto)
def Env.keep (live : List Nat) (e : Env) : Env := live.filterMap fun t => (e.lookup t).map (t, ·)
def mask (live : List Nat) (k0 : List Id) (x : Env × Sto) : Option (Env × Sto) :=
 let e := x.1.keep live
 (gc x.2 (k0 ++ AV.ids.AV.idsL (e.map (·.2)))).map (e, ·)
def thaw1 (π : Id) (x : Env × Sto) : Nat × (Nat ⊕ (Nat × Nat)) → Option (Env × Sto)
 | (T, .inl t) => match x.1.lookup t with
  | some (.p (.sl sz (some true) [])) => if x.2.has ((1000 + t) :: π) then none else some ((t, .ap ((1000 + t) :: π)) :: x.1, ((1000 + t) :: π, .row false T sz (some true) []) :: x.2)
  | _ => some x
 | (T, .inr (t, off)) => match x.1.lookup t with
  | some (.ref id 0) => match x.2.lookup id with
   | some (.box false cs) => match cs[off]? with
    | some (.p (.sl sz (some true) [])) =>
     if x.2.has ((100000 * (off + 1) + t) :: π) then none else
     some (x.1, ((100000 * (off + 1) + t) :: π, .row false T sz (some true) []) :: x.2.put id (.box false (cs.set off (.ap ((100000 * (off + 1) + t) :: π)))))
    | _ => some x
   | _ => some x
  | _ => some x
def thaw (π : Id) : List (Nat × (Nat ⊕ (Nat × Nat))) → Env × Sto → Option (Env × Sto)
 | [], x => some x
 | t :: r, x => match thaw1 π x t with | some x => thaw π r x | none => none
def fzE : List Nat → Env × Sto → Env × Sto
 | [], x => x
 | t :: r, x => match x.1.lookup t with
  | some v => match Z4 x.2 v with
   | some (y, s) => fzE r ((t, .p y) :: x.1, s)
   | none => fzE r x
  | none => fzE r x
def lkE : List Nat → Env × Sto → Sto
 | [], x => x.2
 | t :: r, x => match x.1.lookup t with
  | some (.ap id) => lkE r (x.1, x.2.lend [id])
  | _ => lkE r x
def Opd.get (x : Opd) (e : Env) : Option AV := (match x with | .t i => e.lookup i | .c v => some (.p v)).map (AV.un true)
def FSt.exit : FSt → Option Ex
 | .ready => some .nm
 | .busy => none
 | .done x => some x
def fnOf : Option AV → AV → Option (Nat × List AV)
 | some (.p (.fn k caps)), y => some (k, y :: caps.map AV.p)
 | some (.fn k caps), y => some (k, y :: caps)
 | some (.mth k l), y => some (k, l.map AV.p ++ [y])
 | _, _ => none
def Z6t (s : Sto) : List Id := s.filterMap fun x => match x.2 with | .row .. => some x.1 | _ => none
def rfO (k0 : List Id) (id : Id) (e : Env) (s : Sto) : Option (Ex × Env × Sto) :=
 match s.lookup id with
 | some (.frm _ _ _ _ _ _ st) => match st.exit with
  | some x => (gc (s.filter fun y => y.1 != id) (k0 ++ AV.ids.AV.idsL (e.map (·.2)))).map fun s => (x, e, s)
  | none => none
 | _ => none
def evC (E : Call) (L : Loop) (π : Id) (k0 : List Id) : IR → Env → Sto → Option (Ex × Env × Sto)
 | .sk, e, s => some (.nm, e, s)
 | .sq a b, e, s => match evC E L π k0 a e s with
  | some (.nm, e, s) => evC E L π k0 b e s
  | r => r
 | .cd c a b, e, s => match c.get e with
  | some (.p (.bool c)) => bif c then evC E L π k0 a e s else evC E L π k0 b e s
  | _ => none
 | .bk id a, e, s => match evC E L π k0 a e s with
  | some (.ex i, e, s) => if i = id then some (.nm, e, s) else some (.ex i, e, s)
  | r => r
 | .lp th live a, e, s => match thaw π th (e, s) with
  | some x => L (fun x => match mask live k0 x with | some x => evC E L π k0 a x.1 x.2 | none => none) x
  | none => none
 | .op n l keep, e, s => match evR E π n l e s with
  | some (e, s) => match keep with
   | none => some (.nm, e, s)
   | some k => some (.nm, e.keep k, s)
  | none => none
 | .ex id, e, s => some (.ex id, e, s)
 | .rt, e, s => some (.rt, e, s)
 | .bad, _, _ => none
 | .rf g nt site live ps a b, e, s => if s.has ((2000000 + site) :: π) then none else match fnOf (g.get e) (.yld ((2000000 + site) :: π)) with
  | some (k, args) => if k = Z2 then none else match E ((3000000 + site) :: π) k args (((2000000 + site) :: π, .frm π nt (e.keep live) ps a b .ready) :: s) with
   | some (_, s1) => rfO k0 ((2000000 + site) :: π) ((Z6t s).foldl Env.kill e) s1
   | none => none
  | none => none
 | .fz ts a, e, s => evC E L π k0 a (fzE ts (e, s)).1 (fzE ts (e, s)).2
 | .fk ts a, e, s => evC E L π k0 a e (lkE ts (e, s))
 | .tw th a, e, s => match thaw π th (e, s) with
  | some x => evC E L π k0 a x.1 x.2
  | none => none
 | .fe ts a, e, s => match evC E L π k0 a e s with
  | some (.nm, e, s) => some (.nm, fzE ts (e, s))
  | r => r
 | .kp k kr a, e, s => match evC E L π k0 a e s with
  | some (.nm, e, s) => (mask k k0 (e, s)).map fun x => (.nm, x.1, x.2)
  | some (.rt, e, s) => (mask kr k0 (e, s)).map fun x => (.rt, x.1, x.2)
  | r => r
def resOf (e : Env) (s : Sto) : RV → Option AV
 | .t i => Opd.get (.t i) e
 | .c i sz ag => match e.lookup i with
  | some (.ref id o) => match s.lookup id with
   | some (.box _ cs) => bif ag then (if o + sz ≤ cs.length then some (AV.mkAgg (seg o (o + sz) cs)) else none) else cs[o]?
   | _ => none
  | _ => none
def G6 : List AV → AV
 | [v] => v
 | vs => AV.mkTup vs
def envOf (i : Nat) : List AV → Env
 | [] => []
 | v :: r => (i, v) :: envOf (i + 1) r
def runF (E : Call) (L : Loop) (F : FnIR) (π : Id) (args : List AV) (s : Sto) : Option (AV × Sto) :=
 if args.length ≤ F.nt then
  match evC E L π (s.map (·.1)) F.body (envOf 0 args) s with
  | some (.ex _, _, _) => none
  | some (_, e, s') => match F.res.mapM (resOf e s') with
   | some vs => bif (G6 vs).keeps then none else (gc s' (s.map (·.1) ++ (G6 vs).ids)).map (G6 vs, ·)
   | none => none
  | none => none
 else none
def runY (E : Call) (L : Loop) (args : List AV) (s : Sto) : Option (AV × Sto) :=
 match args.reverse with
 | .yld id :: rvs => match s.lookup id with
  | some (.frm π nt e ps a b .ready) =>
   if rvs.length = ps.length ∧ ps.Nodup ∧ ps.all (fun t => decide (t < nt)) = true then
    match evC E L π (s.map (·.1)) a (ps.zip rvs.reverse ++ e) s with
    | some (.nm, e1, s1) => match s1.lookup id with
     | some (.frm π1 nt1 f1 ps1 a1 b1 .ready) => match evC E L π (s.map (·.1)) b e1 (s1.put id (.frm π1 nt1 f1 ps1 a1 b1 .busy)) with
      | some (x, _, s2) => match s2.lookup id with
       | some (.frm π2 nt2 f2 ps2 a2 b2 .busy) =>
        (gc (s2.put id (.frm π2 nt2 f2 ps2 a2 b2 (if x = .nm then .ready else .done x))) (s.map (·.1))).map (.p (.bool (decide (x = .nm))), ·)
       | _ => none
      | none => none
     | _ => none
    | _ => none
   else none
  | _ => none
 | _ => none
def iterN : Nat → Loop
 | 0, _, _ => none
 | n + 1, f, x => match f x with
  | some (.nm, x) => iterN n f x
  | r => r
abbrev Tab := Nat → Option FnIR
abbrev Orc := Nat → Option (Id → List AV → Sto → Option (AV × Sto))
open Classical in
noncomputable def iter : Loop := fun f x => if h : ∃ n r, iterN n f x = some r then some h.choose_spec.choose else none
open Go Go.RowKit
def cst : Value → PV → Bool
 | .bool a, .bool b => a == b
 | .int k n, .int k' m => k == k' && n == m
 | .string s, .str t => s.data == t.data
 | .nilFunc, .nilf => true
 | .pointer none, .nilp => true
 | .slice none 0 0, .sl _ nl [] => nl != some false
 | _, _ => false
def cstL : List Value → List PV → Bool
 | [], [] => true
 | v :: vs, c :: cs => cst v c && cstL vs cs
 | _, _ => false
def mopd : Operand → Opd → Bool
 | .tmp t, .t i => t == i
 | .const v, .c c => cst v c
 | .func f, .c (.fn f' []) => f == f'
 | _, _ => false
def mopdL : List Operand → List Opd → Bool
 | [], [] => true
 | x :: xs, y :: ys => mopd x y && mopdL xs ys
 | _, _ => false
def mopdO : Option Operand → Option Opd → Bool
 | none, none => true
 | some x, some y => mopd x y
 | _, _ => false
def szB (P : Program) (t : TypeId) : Option Nat := (P.info? t).map (·.size)
def agB (P : Program) (t : TypeId) : Option Bool := (P.underlying t).map fun d => match d with | .struct _ | .array _ _ => true | _ => false
def slB (P : Program) (t : TypeId) : Option TypeId := match P.underlying t with | some (.slice e) => some e | _ => none
def zeB (P : Program) (t : TypeId) : Option (List Value) := (P.info? t).bind fun i => i.zero.map fun z => z.cells.toList
def Zh3 (P : Program) (t : TypeId) : Option (Array Value × (Nat → Option (Nat × Nat))) :=
 match P.info? t, P.underlying t with
 | some it, some (.array _ e) =>
  match it.zero, P.info? e with
  | some z, some ie => some (z.cells, fun i => some (i * ie.size, ie.size))
  | _, _ => none
 | some it, some (.struct fields) =>
  match it.zero, fields.toList.mapM (fun f => (P.info? f.type).map fun i => (f.offset, i.size)) with
  | some z, some places => some (z.cells, (places.toArray[·]?))
  | _, _ => none
 | _, _ => none
def Z8q (pl : Nat → Option (Nat × Nat)) : List (Nat × Operand) → List (Nat × Nat × Opd) → Bool
 | [], [] => true
 | (i, x) :: r, (off, sz, y) :: r' => pl i == some (off, sz) && mopd x y && Z8q pl r r'
 | _, _ => false
def Ur : List (Nat × Operand) → List (Nat × Opd) → Bool
 | [], [] => true
 | (i, x) :: r, (j, y) :: r' => i == j && mopd x y && Ur r r'
 | _, _ => false
def Zhh (P : Program) (t : TypeId) (i : Nat) : Option Field := match P.underlying t with | some (.struct fs) => fs[i]? | _ => none
def elB (P : Program) (e : TypeId) (sz : Nat) (ag : Bool) (zero : List PV) : Bool :=
 szB P e == some sz && agB P e == some ag && 0 < sz && (ag || sz == 1) &&
 (match zeB P e with | some z => cstL z zero && z.length == sz | none => false) && (match P.info? e with | some i => i.bytes ≤ 32768 | none => false)
def zeroB : Value → PV → Bool
 | .agg zs, .agg cs => cstL zs.toList cs
 | z, c => cst z c
def Z8w (P : Program) (k : TypeId) (z : Value) : Bool :=
 match P.underlying k with
 | some .bool | some (.int _) | some .string => (mapKey P k z).isSome && !Z1a z
 | some (.array _ _) | some (.struct _) => laidOutB P && decide (P.types.size + 2 ≤ 10000) && decide (k < P.types.size) && P.keyType k && Z1a z && z.formed P k && (P.keyLits (P.types.size + 1) k (Gj z)).isSome
 | _ => false
def mop (P : Program) (o : Op) : IOp → Bool
 | .mv x => match o with | .move y => mopd y x | .assign y => mopd y x | _ => false
 | .mvl x => false
 | .pick c a b => match o with | .pick c' a' b' => mopd c' c && mopd a' a && mopd b' b | _ => false
 | .bin op x y => match o with | .binOp op' _ x' y' _ => op' == op && mopd x' x && mopd y' y | _ => false
 | .beq neg x y => match o with | .binOp op t x' y' _ => op == (if neg then .neq else .eql) && (match P.underlying t with | some .bool => true | _ => false) && mopd x' x && mopd y' y | _ => false
 | .aeq neg n x y => false
 | .isnil sl neg x => match o with
  | .binOp op t x' y' _ => op == (if neg then .neq else .eql) && (match P.underlying t with | some (.slice _) => sl | some (.func _ _ _) => !sl | _ => false) &&
   ((mopd x' x && (match y' with | .const (.slice none 0 0) => sl | .const .nilFunc => !sl | _ => false)))
  | _ => false
 | .un op x => match o with | .unOp op' _ x' => op' == op && mopd x' x | _ => false
 | .bad => match o with | .defer _ => false | _ => true
 | .s2b x => false
 | .conv k x => match o with | .convert s d x' => (match P.underlying s, P.underlying d with | some (.int _), some (.int k') => k' == k | _, _ => false) && mopd x' x | _ => false
 | .len str x => match o with
  | .call c => (match c.callee, c.argTypes.toList, c.args.toList with
   | .builtin .len, [t], [x'] => (match P.underlying t with | some .string => str | some (.slice _) => !str | _ => false) && mopd x' x
   | _, _, _ => false)
  | _ => false
 | .mm mx x y => match o with
  | .call c => (match c.callee, c.args.toList with
   | .builtin b, [x', y'] => b == (if mx then .max else .min) && mopd x' x && mopd y' y
   | _, _ => false)
  | _ => false
 | .ext x i => match o with | .extract x' i' => i' == i && mopd x' x | _ => false
 | .fld x off sz ag => match o with
  | .field t x' i => (match Zhh P t i with | some f => f.offset == off && szB P f.type == some sz && agB P f.type == some ag | none => false) && (ag || sz == 1) && mopd x' x
  | _ => false
 | .fa x off => match o with
  | .fieldAddr t x' i => (match Zhh P t i with | some f => f.offset == off && (match szB P f.type with | some n => 0 < n | none => false) | none => false) && mopd x' x
  | _ => false
 | .ia x i sz => match o with
  | .indexAddr t x' i' => (match slB P t with | some e => szB P e == some sz | none => false) && mopd x' x && mopd i' i
  | _ => false
 | .iaa x i n sz => match o with
  | .indexAddr t x' i' => (match P.underlying t with | some (.array n' e) => n' == n && szB P e == some sz | _ => false) && mopd x' x && mopd i' i
  | _ => false
 | .idx x i => match o with | .index t x' i' => (match P.underlying t with | some .string => true | _ => false) && mopd x' x && mopd i' i | _ => false
 | .ld x sz ag => match o with | .load t x' => szB P t == some sz && agB P t == some ag && mopd x' x | _ => false
 | .st x v sz => match o with | .store t x' v' => szB P t == some sz && 0 < sz && mopd x' x && mopd v' v | _ => false
 | .xag x i n => match o with | .index t x' i' => (match P.underlying t with | some (.array n' e) => n' == n && szB P e == some 1 && agB P e == some false | _ => false) && mopd x' x && mopd i' i | _ => false
 | .alt n => match o with | .alloc t => (match zeB P t with | some z => z.length == n && z.all fun v => v.oneCell' | none => false) | _ => false
 | .alloc zero => match o with | .alloc t => (match zeB P t with | some z => cstL z zero | none => false) | _ => false
 | .box x sz => match o with | .box t x' => (match szB P t with | some n => n == sz | none => false) && mopd x' x | _ => false
 | .build zero parts => match o with
  | .build t ps => (match Zh3 P t with | some (z, pl) => cstL z.toList zero && Z8q pl ps.toList parts | none => false)
  | _ => false
 | .bsl T sz ag zero n parts => match o with
  | .buildSlice t n' ps => n' == n && slB P t == some T && elB P T sz ag zero && n * sz ≤ 16777216 && Ur ps.toList parts
  | _ => false
 | .bsp T sz ag zero n parts => match o with
  | .buildSlice t n' ps => n' == n && slB P t == some T && elB P T sz ag zero && n * sz ≤ 16777216 && Ur ps.toList parts
  | _ => false
 | .mks T sz ag zero n cap => match o with | .makeSlice t n' c' => slB P t == some T && elB P T sz ag zero && mopd n' n && mopd c' cap | _ => false
 | .nck x => match o with | .nilCheck x' => mopd x' x | _ => false
 | .mkm f x => false
 | .mkf f caps => match o with | .makeFunc fn first cs => (match fn with | .func f' => f' == f | _ => false) && first.isEmpty && mopdL cs.toList caps | _ => false
 | .slc str x lo hi sz => match o with
  | .slice t x' lo' hi' mx => (match P.underlying t with | some .string => str | some (.slice e) => !str && szB P e == some sz | _ => false) && mx.isNone && mopd x' x && mopdO lo' lo && mopdO hi' hi
  | _ => false
 | .prt x lo hi sz => false
 | .slf x lo hi mx sz => false
 | .cpy x y sz => false
 | .shf x lo sz => match o with
  | .slice t x' lo' hi' mx => (match P.underlying t with | some (.slice e) => szB P e == some sz | _ => false) && mx.isNone && mopd x' x && mopdO lo' (some lo) && hi'.isNone
  | _ => false
 | .clr x T sz ag zero => false
 | .apn _ _ _ _ => false
 | .app x y T sz | .apx x y T sz _ => match o with
  | .call c => (match c.callee, c.argTypes.toList, c.args.toList with
   | .builtin .append, [t, t'], [x', y'] => t == t' && slB P t == some T && szB P T == some sz && 0 < sz && (match zeB P T with | some z => z.length == sz | none => false) &&
    (match P.info? T with | some i => i.bytes ≤ 32768 | none => false) && mopd x' x && mopd y' y
   | _, _, _ => false)
  | _ => false
 | .callV _ f args => match o with
  | .call c => (match c.callee with | .value f' => mopd f' f && mopdL c.args.toList args | _ => false)
  | _ => false
 | .callS f args => match o with
  | .call c => (match c.callee with | .value f' => mopd f' f && mopdL c.args.toList args | _ => false)
  | _ => false
 | .callB f args => false
 | .mkp => match o with | .makeMap _ r => r.isNone | _ => false
 | .lkp m k z zero ok => match o with
  | .lookup t m' k' c => (match P.underlying t with
   | some (.map kt et) => (match keyV z with | some zv => Z8w P kt zv | none => false) && (match (P.info? et).bind (·.zero) with | some zr => zeroB zr zero | none => false)
   | _ => false) && c == ok && mopd m' m && mopd k' k
  | _ => false
 | .mpu m k v z => match o with
  | .mapUpdate t m' k' v' => (match P.underlying t with
   | some (.map kt _) => (match keyV z with | some zv => Z8w P kt zv | none => false)
   | _ => false) && mopd m' m && mopd k' k && mopd v' v
  | _ => false
 | .mkc f g x => false
 | .slb x n => false
 | .cpb x y => false
def gdOk (ops : Array Oper) : Option (Nat × Bool) → Option (Nat × Bool) → Bool
 | none, none => true
 | some (j, want), some (t, want') => (ops[j]?).bind (·.dst) == some t && want == want'
 | _, _ => false
def mio (P : Program) (nt : Nat) (ops : Array Oper) (o : Oper) (i : Ins) : Bool :=
 o.dst == i.d && (match i.d with | some d => decide (d < nt) | none => true) && mop P o.op i.op && gdOk ops o.guard i.g
def befOf (B : Nat → Nat) (o : Oper) : Nat := o.after.toList.foldr (fun e m => if Region.binds .any e then 2 ^ e.on ||| B e.on ||| m else m) 0
def befs : List Oper → List Nat → List Nat
 | [], acc => acc
 | o :: r, acc => befs r (acc ++ [befOf (acc.getD · 0) o])
def mops (P : Program) (nt : Nat) (ops : Array Oper) : List Oper → List Ins → Bool
 | [], [] => true
 | o :: r, i :: r' => mio P nt ops o i && mops P nt ops r r'
 | _, _ => false
def inertB (ops : Array Oper) (l : List Ins) (B : List Nat) (n i : Nat) : Bool :=
 match l[i]?, ops[i]? with
 | some ⟨some d, none, .mv x⟩, some o => decide (i < n) && (o.after.all fun e => !Region.binds .any e) &&
  (List.range l.length).all fun j => j == i || match l[j]? with
   | some y => (!y.uses.contains d || (B.getD j 0).testBit i) && y.d != some d && (match x with | .t k => (y.d != some k || (B.getD j 0).testBit i) && k != d | .c _ => true) && (match y.op with | .bad => false | _ => true)
   | none => true
 | _, _ => false
def drawB (P : Program) (ops : Array Oper) (l : List Ins) (n : Nat) : Bool :=
 let B := befs ops.toList []
 P.follows .mixedOrders && decide (n ≤ l.length) &&
 ((List.range ops.size).all fun i => match ops[i]? with
  | some o => (o.after.all fun e => !Region.binds .any e || decide (e.on < i)) && B.getD i 0 == befOf (B.getD · 0) o
  | none => false) &&
 ((List.range ops.size).all fun i => decide (i < n) || (List.range i).all fun j => (B.getD i 0).testBit j || inertB ops l B n j) &&
 ((List.range n).all fun k => match l[k]? with
  | some ⟨_, _, .apx _ _ _ _ anc⟩ => anc.all fun i => (B.getD k 0).testBit i
  | _ => true) &&
 (List.range n).all fun j => (List.range j).all fun i => match l[i]?, l[j]? with
  | some x, some y => (match x.d with | some t => !y.uses.contains t || (B.getD j 0).testBit i | none => true) && (match y.d with | some t => (!x.uses.contains t || (B.getD j 0).testBit i) && x.d != some t | none => true)
  | _, _ => true
def mcode (P : Program) (nt : Nat) : Code → IR → Bool
 | .skip, .sk => true
 | .label _, .sk => true
 | .seq a b, .sq x y => mcode P nt a x && mcode P nt b y
 | .cond c a b, .cd c' x y => mopd c c' && mcode P nt a x && mcode P nt b y
 | .block id a, .bk id' x => id == id' && mcode P nt a x
 | .loop a, .lp _ _ x => mcode P nt a x
 | .region _ ops draw, .op n l _ => mops P nt ops ops.toList l && (if draw then drawB P ops l n else n == 0)
 | .exit id, .ex id' => id == id'
 | .ret, .rt => true
 | .rangeFunc g ps a b, .rf g' nt' _ _ ps' a' b' => mopd g g' && nt' == nt && ps.toList == ps' && mcode P nt a a' && mcode P nt b b'
 | c, .kp _ _ x => mcode P nt c x
 | c, .fz _ x => mcode P nt c x
 | c, .fe _ x => mcode P nt c x
 | c, .fk _ x => mcode P nt c x
 | c, .tw _ x => mcode P nt c x
 | _, .bad => true
 | _, _ => false
def mres (P : Program) : ResultVar → RV → Bool
 | .tmp t, .t t' => t == t'
 | .cell t T, .c t' sz ag => t == t' && szB P T == some sz && agB P T == some ag
 | _, _ => false
def mresL (P : Program) : List ResultVar → List RV → Bool
 | [], [] => true
 | x :: r, y :: r' => mres P x y && mresL P r r'
 | _, _ => false
def mfn (P : Program) (fn : Func) (F : FnIR) : Bool :=
 (match fn.body with | some c => mcode P F.nt c F.body | none => false) && fn.ntmps == F.nt && mresL P fn.results.toList F.res && !(fn.name == "runtime.NumGoroutine")
def TabOk (P : Program) (T : Tab) : Prop := ∀ f F, T f = some F → ∃ fn, P.funcs[f]? = some fn ∧ mfn P fn F = true
def WR (ro : Option Nat) : Fence := { Fence.wide with round := ro }
theorem WR_none : WR none = Fence.wide := rfl
abbrev Own := Nat → Nat → Prop
structure CellAt (w : World) (X : Own) (b o : Nat) (v : Value) : Prop where
 cell : w.cell? ⟨b, o, none⟩ = some v
 free : ¬ X b o
inductive Rep (w : World) (X : Own) : Value → PV → Prop
 | bool (b : Bool) : Rep w X (.bool b) (.bool b)
 | int (k : IntKind) (n : Int) : Rep w X (.int k n) (.int k n)
 | str (s : ByteArray) : Rep w X (.string s) (.str s)
 | nilf : Rep w X .nilFunc .nilf
 | nilp : Rep w X (.pointer none) .nilp
 | und : Rep w X undef .und
 | fn (f : Nat) (vs : Array Value) (cs : List PV) (hl : vs.size = cs.length) (h : ∀ (i : Nat) v c, vs[i]? = some v → cs[i]? = some c → Rep w X v c) : Rep w X (.func (.func f) #[] vs) (.fn f cs)
 | agg (vs : Array Value) (cs : List PV) (hl : vs.size = cs.length) (h : ∀ (i : Nat) v c, vs[i]? = some v → cs[i]? = some c → Rep w X v c) : Rep w X (.agg vs) (.agg cs)
 | tup (vs : Array Value) (cs : List PV) (hl : vs.size = cs.length) (h : ∀ (i : Nat) v c, vs[i]? = some v → cs[i]? = some c → Rep w X v c) : Rep w X (.tuple vs) (.tup cs)
 | ptr (b o : Nat) (cs : List PV) (f : Nat → Value) (hc : ∀ (j : Nat) c, cs[j]? = some c → CellAt w X b (o + j) (f j)) (h : ∀ (j : Nat) c, cs[j]? = some c → Rep w X (f j) c) : Rep w X (.pointer (some ⟨b, o, none⟩)) (.ptr cs)
 | slE (a : Option Addr) (cap sz : Nat) (nl : Option Bool) (h1 : nl = some true → a = none) (h2 : nl = some false → a ≠ none) (h0 : a = none → cap = 0) (hm : cap ≤ maxLen) : Rep w X (.slice a 0 cap) (.sl sz nl [])
 | slC (b o cap sz : Nat) (nl : Option Bool) (l : List PV) (f : Nat → Value) (h1 : nl ≠ some true) (hn : l.length ≤ cap) (hm : cap ≤ maxLen)
   (hz : ∀ (i : Nat) e, l[i]? = some e → e.cells.length = sz ∧ e.cells.all PV.cell1 = true)
   (hc : ∀ (i : Nat) e, l[i]? = some e → ∀ (j : Nat) c, e.cells[j]? = some c → CellAt w X b (o + (i * sz + j)) (f (i * sz + j)))
   (h : ∀ (i : Nat) e, l[i]? = some e → ∀ (j : Nat) c, e.cells[j]? = some c → Rep w X (f (i * sz + j)) c) : Rep w X (.slice (some ⟨b, o, none⟩) l.length cap) (.sl sz nl l)
theorem Rep.mono {w w' : World} {X X' : Own} (hm : ∀ b o v, CellAt w X b o v → CellAt w' X' b o v) {v : Value} {x : PV} (h : Rep w X v x) : Rep w' X' v x := by
 induction h with
 | bool b => exact .bool b
 | int k n => exact .int k n
 | str s => exact .str s
 | nilf => exact .nilf
 | nilp => exact .nilp
 | und => exact .und
 | fn f vs cs hl _ ih => exact .fn f vs cs hl ih
 | agg vs cs hl _ ih => exact .agg vs cs hl ih
 | tup vs cs hl _ ih => exact .tup vs cs hl ih
 | ptr b o cs f hc _ ih => exact .ptr b o cs f (fun j c hj => hm _ _ _ (hc j c hj)) ih
 | slE a cap sz nl h1 h2 h0 h3 => exact .slE a cap sz nl h1 h2 h0 h3
 | slC b o cap sz nl l f h1 hn hM hz hc _ ih => exact .slC b o cap sz nl l f h1 hn hM hz (fun i e hi j c hj => hm _ _ _ (hc i e hi j c hj)) ih
abbrev Hand := Id → Option Value
def zc : Value := .slice none 0 1
inductive RepA (γ : Hand) (w : World) (X : Own) : Value → AV → Prop
 | p {v : Value} {x : PV} (h : Rep w X v x) : RepA γ w X v (.p x)
 | top (v : Value) : RepA γ w X v .top
 | whT {v : Value} {x : AV} (h : RepA γ w X v x) : RepA γ w X v (.wh true x)
 | whF (x : AV) : RepA γ w X undef (.wh false x)
 | ref (id : Id) (off b : Nat) (h : γ id = some (.pointer (some ⟨b, 0, none⟩))) : RepA γ w X (.pointer (some ⟨b, off, none⟩)) (.ref id off)
 | er (id : Id) (sz i off b oo len cap : Nat) (h : γ id = some (.slice (some ⟨b, oo, none⟩) len cap)) : RepA γ w X (.pointer (some ⟨b, oo + (i * sz + off), none⟩)) (.er id sz i off)
 | ap (id : Id) (v : Value) (h : γ id = some v) (hz : v ≠ zc) : RepA γ w X v (.ap id)
 | ap0 (id : Id) (a : Option Addr) (h : γ id = some zc) : RepA γ w X (.slice a 0 0) (.ap id)
 | part (id : Id) (sz lo hi : Nat) (a : Option Addr) (c : Nat) (h : lo < hi → ∃ b oo len cap, γ id = some (.slice (some ⟨b, oo, none⟩) len cap) ∧ a = some ⟨b, oo + lo * sz, none⟩) : RepA γ w X (.slice a (hi - lo) c) (.part id sz lo hi)
 | bpt (id : Id) (off n b : Nat) (h : γ id = some (.pointer (some ⟨b, 0, none⟩))) : RepA γ w X (.slice (some ⟨b, off, none⟩) n n) (.bpt id off n)
 | clip (a : Option Addr) (sz : Nat) (nl : Option Bool) (l : List PV) (h : Rep w X (.slice a l.length l.length) (.sl sz nl l)) : RepA γ w X (.slice a l.length l.length) (.clip sz nl l)
 | agg (vs : Array Value) (cs : List AV) (hl : vs.size = cs.length) (h : ∀ (i : Nat) v c, vs[i]? = some v → cs[i]? = some c → RepA γ w X v c) : RepA γ w X (.agg vs) (.agg cs)
 | tup (vs : Array Value) (cs : List AV) (hl : vs.size = cs.length) (h : ∀ (i : Nat) v c, vs[i]? = some v → cs[i]? = some c → RepA γ w X v c) : RepA γ w X (.tuple vs) (.tup cs)
 | yld (id : Id) (l : Nat) (h : γ id = some (.func (.yield l) #[] #[])) : RepA γ w X (.func (.yield l) #[] #[]) (.yld id)
 | mp (id : Id) (r : Nat) (h : γ id = some (.map (some r))) : RepA γ w X (.map (some r)) (.mp id)
 | mth (f : Nat) (vs : Array Value) (cs : List PV) (hl : vs.size = cs.length) (h : ∀ (i : Nat) v c, vs[i]? = some v → cs[i]? = some c → Rep w X v c) : RepA γ w X (.func (.func f) vs #[]) (.mth f cs)
 | fn (f : Nat) (vs : Array Value) (cs : List AV) (hl : vs.size = cs.length) (h : ∀ (i : Nat) v c, vs[i]? = some v → cs[i]? = some c → RepA γ w X v c) : RepA γ w X (.func (.func f) #[] vs) (.fn f cs)
theorem RepA.mono {γ γ' : Hand} {w w' : World} {X X' : Own} (hm : ∀ b o v, CellAt w X b o v → CellAt w' X' b o v) {v : Value} {x : AV}
  (h : RepA γ w X v x) : (∀ id ∈ x.ids, ∀ v, γ id = some v → γ' id = some v) → RepA γ' w' X' v x := by
 have sub : ∀ (cs : List AV) (i : Nat) c, cs[i]? = some c → ∀ id ∈ c.ids, id ∈ AV.ids.AV.idsL cs := by
  intro cs
  induction cs with
  | nil => intro i c h; simp at h
  | cons a r ih =>
   intro i c h id hid
   cases i with
   | zero => simp at h; subst h; exact List.mem_append.2 (.inl hid)
   | succ i => exact List.mem_append.2 (.inr (ih i c (by simpa using h) id hid))
 induction h with
 | p h => exact fun _ => .p (h.mono hm)
 | top v => exact fun _ => .top v
 | whT _ ih => exact fun hg => .whT (ih hg)
 | whF x => exact fun _ => .whF x
 | ref id off b h => exact fun hg => .ref id off b (hg id (by simp [AV.ids]) _ h)
 | er id sz i off b oo len cap h => exact fun hg => .er id sz i off b oo len cap (hg id (by simp [AV.ids]) _ h)
 | ap id v h hz => exact fun hg => .ap id v (hg id (by simp [AV.ids]) _ h) hz
 | ap0 id a h => exact fun hg => .ap0 id a (hg id (by simp [AV.ids]) _ h)
 | part id sz lo hi a c h => exact fun hg => .part id sz lo hi a c fun hl => let ⟨b, oo, len, cap, h1, h2⟩ := h hl; ⟨b, oo, len, cap, hg id (by simp [AV.ids]) _ h1, h2⟩
 | bpt id off n b h => exact fun hg => .bpt id off n b (hg id (by simp [AV.ids]) _ h)
 | clip a sz nl l h => exact fun _ => .clip a sz nl l (h.mono hm)
 | mth f vs cs hl h => exact fun _ => .mth f vs cs hl fun i v c hv hc => (h i v c hv hc).mono hm
 | yld id l h => exact fun hg => .yld id l (hg id (by simp [AV.ids]) _ h)
 | mp id r h => exact fun hg => .mp id r (hg id (by simp [AV.ids]) _ h)
 | agg vs cs hl _ ih => exact fun hg => .agg vs cs hl fun i v c hv hc => ih i v c hv hc fun id hid => hg id (sub cs i c hc id hid)
 | tup vs cs hl _ ih => exact fun hg => .tup vs cs hl fun i v c hv hc => ih i v c hv hc fun id hid => hg id (sub cs i c hc id hid)
 | fn f vs cs hl _ ih => exact fun hg => .fn f vs cs hl fun i v c hv hc => ih i v c hv hc fun id hid => hg id (sub cs i c hc id hid)
theorem Rep.oneCell {w : World} {X : Own} {v : Value} {x : PV} (h : Rep w X v x) (hx : x.cell1 = true) : v.oneCell' = true := by
 cases h <;> first | rfl | simp [PV.cell1] at hx
theorem RepA.oneCell {γ : Hand} {w : World} {X : Own} {v : Value} {x : AV} (h : RepA γ w X v x) (hx : x.cell1 = true)
  (hγ : ∀ id v, γ id = some v → v.oneCell' = true) : v.oneCell' = true := by
 cases h with
 | p h => exact h.oneCell hx
 | ap id v h => exact hγ id v h
 | ap0 => rfl
 | _ => first | rfl | simp [AV.cell1] at hx
def hblk : Value → Option Nat
 | .pointer (some a) => some a.block
 | .slice (some a) _ _ => some a.block
 | .func (.yield l) _ _ => some l
 | .map (some r) => some r
 | _ => none
structure BoxOk (γ : Hand) (w : World) (X : Own) (h : Value) (lent : Bool) (cs : List AV) (b : Nat) (c : Array Value) (T : TypeId) : Prop where
 hand : h = .pointer (some ⟨b, 0, none⟩)
 heap : w.heap[b]? = some (.cells c T (0, 0))
 size : c.size = cs.length
 one : ∀ (i : Nat) v, c[i]? = some v → v.oneCell' = true
 rep : ∀ (i : Nat) v a, c[i]? = some v → cs[i]? = some a → RepA γ w X v a
 own : ∀ o, X b o ↔ lent = false
def hoff : Value → Nat
 | .slice (some a) _ _ => a.off
 | _ => 0
def rowAt (w : World) (T sz : Nat) (h : Value) (n : Nat) (xs : List Value) : Prop := xs.length = n * sz ∧
 ((h = .slice none 0 0 ∧ n = 0) ∨ ∃ g oo cap cur, h = .slice (some ⟨g, oo, none⟩) n cap ∧ w.heap[g]? = some (.cells cur T (0, 0)) ∧ n ≤ cap ∧ cap ≤ maxLen ∧ oo + cap * sz ≤ cur.size ∧ (cur.toList.drop oo).take (n * sz) = xs)
theorem Z8h {w : World} {T sz n : Nat} {h : Value} {xs : List Value} (ho : w.ownsRow 0 T sz h n xs) : rowAt w T sz h n xs := by
 refine ⟨ho.1, ?_⟩
 rcases ho.2 with h1 | ⟨g, cap, cur, hv, _, hg, hcap, hcm, hcur, ht⟩
 ·exact .inl h1
 ·exact .inr ⟨g, 0, cap, cur, hv, hg, hcap, hcm, by omega, by simpa using ht⟩
structure RowOk (w : World) (X : Own) (h : Value) (lent : Bool) (T sz : Nat) (nl : Option Bool) (l : List PV) (xs : List Value) : Prop where
 len : xs.length = l.length * sz
 at0 : (h = zc ∧ l = []) ∨ rowAt w T sz h l.length xs
 nil : (nl = some true → h = .slice none 0 0) ∧ (nl = some false → h ≠ .slice none 0 0 ∧ h ≠ zc)
 shape : ∀ e ∈ l, e.cells.length = sz ∧ e.cells.all PV.cell1 = true
 rep : ∀ (i : Nat) e, l[i]? = some e → ∀ (j : Nat) c, e.cells[j]? = some c → ∃ u, xs[i * sz + j]? = some u ∧ Rep w X u c
 one : ∀ u ∈ xs, u.oneCell' = true
 own : ∀ b, hblk h = some b → ∀ o, X b o ↔ (lent = false ∨ hoff h + l.length * sz ≤ o)
theorem Z2a : zc ≠ .slice none 0 0 := by unfold zc; intro h; cases h
theorem Xt (a : Addr) (n c : Nat) : Value.slice (some a) n c ≠ zc := by unfold zc; intro h; cases h
theorem RowOk.rows {w : World} {X : Own} {h : Value} {lent : Bool} {T sz : Nat} {nl : Option Bool} {l : List PV} {xs : List Value} (hr : RowOk w X h lent T sz nl l xs) (hz : h ≠ zc) : rowAt w T sz h l.length xs := hr.at0.resolve_left fun k => hz k.1
theorem RowOk.zero {w : World} {X : Own} {lent : Bool} {T sz : Nat} {nl : Option Bool} {l : List PV} {xs : List Value} (hr : RowOk w X zc lent T sz nl l xs) : l = [] ∧ nl = none := by
 refine ⟨?_, ?_⟩
 ·rcases hr.at0 with ⟨_, h⟩ | h
  ·exact h
  ·rcases h.2 with ⟨h, _⟩ | ⟨g, oo, cap, cur, h, _⟩
   ·exact absurd h Z2a
   ·exact absurd h.symm (Xt _ _ _)
 ·cases nl with
  | none => rfl
  | some b => cases b with
   | true => exact absurd (hr.nil.1 rfl) Z2a
   | false => exact absurd rfl (hr.nil.2 rfl).2
def Ex.code : Ex → Option Code
 | .nm => none
 | .ex i => some (.exit i)
 | .rt => some .ret
def FSt.ok : FSt → LoopState → Option Code → Prop
 | .ready, s, p => s = .ready ∧ p = none
 | .busy, s, _ => s = .busy
 | .done x, s, p => s = .done ∧ p = x.code ∧ x ≠ .nm
structure FrmOk (P : Program) (γ : Hand) (w : World) (X : Own) (h : Value) (nt : Nat) (e : Env) (ps : List Nat) (assign body : IR) (st : FSt) (l : Nat) (r : Go.Loop) : Prop where
 hand : h = .func (.yield l) #[] #[]
 heap : w.heap[l]? = some (.loop r)
 params : r.params.toList = ps
 assign : mcode P nt r.assign assign = true
 body : mcode P nt r.body body = true
 size : r.tmps.size = nt
 env : ∀ t av, e.lookup t = some av → ∃ v, r.tmps[t]? = some v ∧ RepA γ w X v av
 st : st.ok r.state r.pending
structure MapOk (w : World) (X : Own) (h : Value) (l : List (PV × PV)) (r : Nat) (es : Array MapEntry) (cl : Nat) : Prop where
 hand : h = .map (some r)
 heap : w.heap[r]? = some (.map es cl)
 size : es.size = l.length
 rep : ∀ (i : Nat) e k v, es[i]? = some e → l[i]? = some (k, v) → Rep w X e.key k ∧ Rep w X e.val v
 uniq : ∀ (i j : Nat) e f, es[i]? = some e → es[j]? = some f → e.key = f.key → i = j
def BlkOk (P : Program) (γ : Hand) (w : World) (X : Own) (h : Value) : Blk → Prop
 | .box lent cs => ∃ b c T, BoxOk γ w X h lent cs b c T
 | .row lent T sz nl l => ∃ xs, RowOk w X h lent T sz nl l xs
 | .frm _ nt e ps a b st => ∃ l r, FrmOk P γ w X h nt e ps a b st l r
 | .mpb l => ∃ r es cl, MapOk w X h l r es cl
structure StoOk (P : Program) (γ : Hand) (w : World) (X : Own) (s : Sto) : Prop where
 blk : ∀ id h, γ id = some h → ∃ b, s.lookup id = some b ∧ BlkOk P γ w X h b
 apart : ∀ i j h k b, γ i = some h → γ j = some k → hblk h = some b → hblk k = some b → i = j
 lt : ∀ b o, X b o → b < w.heap.size
def Full (γ : Hand) (s : Sto) : Prop := ∀ id b, s.lookup id = some b → (γ id).isSome
def EnvOk (γ : Hand) (w : World) (X : Own) (e : Nat → Option AV) (tmps : Array Value) : Prop := ∀ t av, e t = some av → ∃ v, tmps[t]? = some v ∧ RepA γ w X v av
def Owned (γ : Hand) (b : Nat) : Prop := ∃ id h, γ id = some h ∧ hblk h = some b
structure Evo (γ : Hand) (w : World) (X : Own) (γ' : Hand) (w' : World) (X' : Own) : Prop where
 os : w'.os = w.os
 tape : w'.tape = w.tape
 output : w'.output = w.output
 size : w.heap.size ≤ w'.heap.size
 block : ∀ b, b < w.heap.size → ¬ Owned γ b → w'.heap[b]? = w.heap[b]?
 cell : ∀ b o v, CellAt w X b o v → CellAt w' X' b o v
 less : ∀ b o, b < w.heap.size → X' b o → X b o
 keep : ∀ b o, b < w.heap.size → ¬ Owned γ b → X b o → X' b o
 owned : ∀ b, b < w.heap.size → Owned γ' b → Owned γ b
theorem Evo.refl (γ : Hand) (w : World) (X : Own) : Evo γ w X γ w X :=
 ⟨rfl, rfl, rfl, Nat.le_refl _, fun _ _ _ => rfl, fun _ _ _ h => h, fun _ _ _ h => h, fun _ _ _ _ h => h, fun _ _ h => h⟩
theorem Evo.trans {γ γ' γ'' : Hand} {w w' w'' : World} {X X' X'' : Own} (h : Evo γ w X γ' w' X') (k : Evo γ' w' X' γ'' w'' X'') : Evo γ w X γ'' w'' X'' :=
 ⟨k.os.trans h.os, k.tape.trans h.tape, k.output.trans h.output, Nat.le_trans h.size k.size,
  fun b hb ho => (k.block b (Nat.lt_of_lt_of_le hb h.size) (fun ho' => ho (h.owned b hb ho'))).trans (h.block b hb ho),
  fun b o v hc => k.cell b o v (h.cell b o v hc),
  fun b o hb hx => h.less b o hb (k.less b o (Nat.lt_of_lt_of_le hb h.size) hx),
  fun b o hb ho hx => k.keep b o (Nat.lt_of_lt_of_le hb h.size) (fun ho' => ho (h.owned b hb ho')) (h.keep b o hb ho hx),
  fun b hb ho => h.owned b hb (k.owned b (Nat.lt_of_lt_of_le hb h.size) ho)⟩
variable {P : Program}
theorem Y5 {w w' : World} {b o : Nat} (h : w'.heap[b]? = w.heap[b]?) : w'.cell? ⟨b, o, none⟩ = w.cell? ⟨b, o, none⟩ := World.cell?_of_block (w := w) (w' := w') (a := ⟨b, o, none⟩) h
theorem CellAt.lt {w : World} {X : Own} {b o : Nat} {v : Value} (h : CellAt w X b o v) : b < w.heap.size := World.block_lt_of_cell? w ⟨b, o, none⟩ h.cell
theorem BlkOk.lt {γ : Hand} {w : World} {X : Own} {h : Value} {blk : Blk} (hb : BlkOk P γ w X h blk) : ∀ b, hblk h = some b → b < w.heap.size := by
 intro b hk
 cases blk with
 | box lent cs =>
  obtain ⟨b', c, T, hb⟩ := hb
  rw [hb.hand] at hk
  simp [hblk] at hk
  subst hk
  exact (Array.getElem?_eq_some_iff.1 hb.heap).1
 | row lent T sz nl l =>
  obtain ⟨xs, hb⟩ := hb
  rcases hb.at0 with ⟨hn, _⟩ | hb
  ·rw [hn] at hk; simp [hblk, zc] at hk
  rcases hb.2 with ⟨hn, _⟩ | ⟨g, oo, cap, cur, hv, hg, _⟩
  ·rw [hn] at hk; simp [hblk] at hk
  ·rw [hv] at hk; simp [hblk] at hk; subst hk
   exact (Array.getElem?_eq_some_iff.1 hg).1
 | frm π nt e ps as bd st =>
  obtain ⟨l, r, hb⟩ := hb
  rw [hb.hand] at hk
  simp [hblk] at hk
  subst hk
  exact (Array.getElem?_eq_some_iff.1 hb.heap).1
 | mpb l =>
  obtain ⟨r, es, cl, hb⟩ := hb
  rw [hb.hand] at hk
  simp [hblk] at hk
  subst hk
  exact (Array.getElem?_eq_some_iff.1 hb.heap).1
theorem BlkOk.one {γ : Hand} {w : World} {X : Own} {h : Value} {blk : Blk} (hb : BlkOk P γ w X h blk) : h.oneCell' = true := by
 cases blk with
 | box lent cs => obtain ⟨b', c, T, hb⟩ := hb; rw [hb.hand]; rfl
 | row lent T sz nl l =>
  obtain ⟨xs, hb⟩ := hb
  rcases hb.at0 with ⟨hn, _⟩ | hb
  ·rw [hn]; rfl
  rcases hb.2 with ⟨hn, _⟩ | ⟨g, oo, cap, cur, hv, hg, _⟩
  ·rw [hn]; rfl
  ·rw [hv]; rfl
 | frm π nt e ps as bd st => obtain ⟨l, r, hb⟩ := hb; rw [hb.hand]; rfl
 | mpb l => obtain ⟨r, es, cl, hb⟩ := hb; rw [hb.hand]; rfl
theorem Zd8 {e : Env} {t : Nat} {av : AV} : e.lookup t = some av → ∀ id ∈ av.ids, id ∈ AV.ids.AV.idsL (e.map (·.2)) := by
 induction e with
 | nil => intro h; simp at h
 | cons x r ih =>
  intro h id hid
  obtain ⟨j, c⟩ := x
  rw [List.lookup_cons] at h
  split at h
  ·simp at h; subst h; exact List.mem_append.2 (.inl hid)
  ·exact List.mem_append.2 (.inr (ih h id hid))
theorem StoOk.one {γ : Hand} {w : World} {X : Own} {s : Sto} (hs : StoOk P γ w X s) : ∀ id v, γ id = some v → v.oneCell' = true := fun id v h => by
 obtain ⟨b, _, hb⟩ := hs.blk id v h
 exact hb.one
theorem BlkOk.mono {γ γ' : Hand} {w w' : World} {X X' : Own} {h : Value} {blk : Blk} (hb : BlkOk P γ w X h blk)
  (hk : ∀ b, hblk h = some b → w'.heap[b]? = w.heap[b]?) (hm : ∀ b o v, CellAt w X b o v → CellAt w' X' b o v)
  (hX : ∀ b, hblk h = some b → ∀ o, X' b o ↔ X b o) (hg : ∀ id ∈ blk.ids, ∀ v, γ id = some v → γ' id = some v) : BlkOk P γ' w' X' h blk := by
 cases blk with
 | box lent cs =>
  obtain ⟨b, c, T, hb⟩ := hb
  have e : hblk h = some b := by rw [hb.hand]; rfl
  refine ⟨b, c, T, hb.hand, (hk b e).trans hb.heap, hb.size, hb.one, fun i v a hv ha => ?_, fun o => (hX b e o).trans (hb.own o)⟩
  refine (hb.rep i v a hv ha).mono hm fun id hid v' hv' => hg id ?_ v' hv'
  have sub : ∀ (cs : List AV) (i : Nat) c, cs[i]? = some c → ∀ id ∈ c.ids, id ∈ AV.ids.AV.idsL cs := by
   intro cs
   induction cs with
   | nil => intro i c h; simp at h
   | cons a r ih =>
    intro i c h id hid
    cases i with
    | zero => simp at h; subst h; exact List.mem_append.2 (.inl hid)
    | succ i => exact List.mem_append.2 (.inr (ih i c (by simpa using h) id hid))
  exact sub cs i a ha id hid
 | row lent T sz nl l =>
  obtain ⟨xs, hb⟩ := hb
  refine ⟨xs, hb.len, ?_, hb.nil, hb.shape, fun i e hi j c hj => ?_, hb.one, fun b e o => (hX b e o).trans (hb.own b e o)⟩
  ·rcases hb.at0 with hz | hrw
   ·exact .inl hz
   refine .inr ⟨hrw.1, ?_⟩
   rcases hrw.2 with hn | ⟨g, oo, cap, cur, hv, hg', rest⟩
   ·exact .inl hn
   ·exact .inr ⟨g, oo, cap, cur, hv, (hk g (by rw [hv]; rfl)).trans hg', rest⟩
  ·obtain ⟨u, hu, hr⟩ := hb.rep i e hi j c hj
   exact ⟨u, hu, hr.mono hm⟩
 | frm π nt e ps as bd st =>
  obtain ⟨l, r, hb⟩ := hb
  refine ⟨l, r, hb.hand, (hk l (by rw [hb.hand]; rfl)).trans hb.heap, hb.params, hb.assign, hb.body, hb.size, fun t av ht => ?_, hb.st⟩
  obtain ⟨v, hv, hr⟩ := hb.env t av ht
  exact ⟨v, hv, hr.mono hm fun id hid u hu => hg id (Zd8 ht id hid) u hu⟩
 | mpb l =>
  obtain ⟨r, es, cl, hb⟩ := hb
  exact ⟨r, es, cl, hb.hand, (hk r (by rw [hb.hand]; rfl)).trans hb.heap, hb.size, fun i e k v he hl => let ⟨h1, h2⟩ := hb.rep i e k v he hl; ⟨h1.mono hm, h2.mono hm⟩, hb.uniq⟩
theorem grow {γ γ' : Hand} {w w' : World} {X X' : Own} {s : Sto} (hs : StoOk P γ w X s) (hb : Below w.heap.size w w')
  (hγ : ∀ id h, γ id = some h → γ' id = some h) (hX : ∀ b o, b < w.heap.size → (X' b o ↔ X b o)) (hlt : ∀ b o, X' b o → b < w'.heap.size)
  (hn : ∀ id h, γ' id = some h → γ id = none → (∃ b, s.lookup id = some b ∧ BlkOk P γ' w' X' h b) ∧ ∀ k, hblk h = some k → w.heap.size ≤ k)
  (hap : ∀ i j h k b, γ i = none → γ j = none → γ' i = some h → γ' j = some k → hblk h = some b → hblk k = some b → i = j) :
  StoOk P γ' w' X' s ∧ Evo γ w X γ' w' X' := by
 have hm : ∀ b o v, CellAt w X b o v → CellAt w' X' b o v := fun b o v h =>
  ⟨(Y5 (hb.block b h.lt)).trans h.cell, fun hx => h.free ((hX b o h.lt).1 hx)⟩
 have old : ∀ id h, γ id = some h → ∀ b, hblk h = some b → b < w.heap.size := fun id h hi b hk => by
  obtain ⟨blk, _, hbk⟩ := hs.blk id h hi
  exact hbk.lt b hk
 refine ⟨⟨fun id h hi => ?_, fun i j h k b hi hj hbi hbj => ?_, hlt⟩, ⟨hb.os, hb.tape, hb.output, hb.size, fun b hlt' _ => hb.block b hlt', hm, fun b o h hx => (hX b o h).1 hx, fun b o h _ hx => (hX b o h).2 hx, fun b h ⟨id, v, hi, hk⟩ => ?_⟩⟩
 ·cases hg : γ id with
  | none => exact (hn id h hi hg).1
  | some h0 =>
   have : h0 = h := Option.some.inj ((hγ id h0 hg).symm.trans hi)
   subst this
   obtain ⟨blk, hl, hbk⟩ := hs.blk id h0 hg
   exact ⟨blk, hl, hbk.mono (fun b hk => hb.block b (hbk.lt b hk)) hm (fun b hk o => hX b o (hbk.lt b hk)) (fun id _ v hv => hγ id v hv)⟩
 ·cases hgi : γ i with
  | none =>
   cases hgj : γ j with
   | none => exact hap i j h k b hgi hgj hi hj hbi hbj
   | some k0 =>
    have : k0 = k := Option.some.inj ((hγ j k0 hgj).symm.trans hj)
    subst this
    have h1 := (hn i h hi hgi).2 b hbi
    have h2 := old j k0 hgj b hbj
    omega
  | some h0 =>
   have : h0 = h := Option.some.inj ((hγ i h0 hgi).symm.trans hi)
   subst this
   cases hgj : γ j with
   | none =>
    have h1 := (hn j k hj hgj).2 b hbj
    have h2 := old i h0 hgi b hbi
    omega
   | some k0 =>
    have : k0 = k := Option.some.inj ((hγ j k0 hgj).symm.trans hj)
    subst this
    exact hs.apart i j h0 k0 b hgi hgj hbi hbj
 ·cases hg : γ id with
  | none => have := (hn id v hi hg).2 b hk; omega
  | some h0 =>
   have : h0 = v := Option.some.inj ((hγ id h0 hg).symm.trans hi)
   subst this
   exact ⟨id, h0, hg, hk⟩
theorem Nb {α β : Type} {f : α → Option β} {a : α} {r : List α} {l : List β} (h : (a :: r).mapM f = some l) : ∃ b l', f a = some b ∧ r.mapM f = some l' ∧ l = b :: l' := by
 rw [List.mapM_cons] at h
 cases hf : f a with
 | none => simp [hf] at h
 | some b =>
  cases hr : r.mapM f with
  | none => simp [hf, hr] at h
  | some l' => simp [hf, hr] at h; exact ⟨b, l', rfl, rfl, h.symm⟩
theorem Uz {α β : Type} {f : α → Option β} : ∀ {l : List α} {r : List β}, l.mapM f = some r → r.length = l.length ∧ ∀ (i : Nat) a b, l[i]? = some a → r[i]? = some b → f a = some b
 | [], r, h => by simp at h; subst h; simp
 | a :: l, r, h => by
  obtain ⟨b, l', hb, hl, rfl⟩ := Nb h
  obtain ⟨h1, h2⟩ := Uz hl
  refine ⟨by simp [h1], fun i x y hx hy => ?_⟩
  cases i with
  | zero => simp at hx hy; subst hx; subst hy; exact hb
  | succ i => exact h2 i x y (by simpa using hx) (by simpa using hy)
theorem getElem?_same {α β : Type} {l : List α} {r : List β} (h : r.length = l.length) {i : Nat} {b : β} (hb : r[i]? = some b) : ∃ a, l[i]? = some a := by
 have : i < r.length := (List.getElem?_eq_some_iff.1 hb).1
 exact ⟨l[i]'(by omega), List.getElem?_eq_getElem (by omega)⟩
theorem RowOk.cell {w : World} {X : Own} {h : Value} {lent : Bool} {nl : Option Bool} {T sz : Nat} {l : List PV} {xs : List Value} (hr : RowOk w X h lent T sz nl l xs) {i : Nat} {e : PV} (hi : l[i]? = some e) {j : Nat} {c : PV} (hj : e.cells[j]? = some c) :
  ∃ b oo cap u, h = .slice (some ⟨b, oo, none⟩) l.length cap ∧ xs[i * sz + j]? = some u ∧ w.cell? ⟨b, oo + (i * sz + j), none⟩ = some u ∧ Rep w X u c := by
 obtain ⟨u, hu, hrep⟩ := hr.rep i e hi j c hj
 rcases hr.at0 with ⟨_, hn⟩ | hrw
 ·rw [hn] at hi; simp at hi
 rcases hrw.2 with ⟨_, hn⟩ | ⟨g, oo, cap, cur, hv, hg, _, _, _, ht⟩
 ·have := (List.getElem?_eq_some_iff.1 hi).1; omega
 ·refine ⟨g, oo, cap, u, hv, hu, ?_, hrep⟩
  rw [cell_of_row w g _ cur T (0, 0) hg]
  have h2 := hu
  rw [← ht, List.getElem?_take] at h2
  split at h2
  ·rw [List.getElem?_drop] at h2; simpa using h2
  ·cases h2
def Blk.win (h : Value) : Blk → Nat → Prop
 | .box _ _, _ => True
 | .row _ _ sz _ l, o => o < hoff h + l.length * sz
 | .frm .., _ => True
 | .mpb _, _ => False
theorem rowRep {γ : Hand} {w : World} {X X0 : Own} {h : Value} {lent : Bool} {nl : Option Bool} {T sz : Nat} {l : List PV} (hb : BlkOk P γ w X h (.row lent T sz nl l))
  (hm : ∀ b o v, CellAt w X b o v → CellAt w X0 b o v) (hX : ∀ b, hblk h = some b → ∀ o, o < hoff h + l.length * sz → ¬ X0 b o) (hz : h ≠ zc) : Rep w X0 h (.sl sz nl l) := by
 obtain ⟨xs, hr⟩ := hb
 have hrows := hr.rows hz
 rcases hrows.2 with ⟨hv, hn⟩ | ⟨g, oo, cap, cur, hv, hg, hcap, hcm, hcs, ht⟩
 ·have : l = [] := List.eq_nil_of_length_eq_zero hn
  subst this
  have hnl : nl ≠ some false := fun h => (hr.nil.2 h).1 hv
  subst hv
  exact .slE none 0 sz nl (fun _ => rfl) (fun h => absurd h hnl) (fun _ => rfl) (by simp [maxLen])
 ·have hnl : nl ≠ some true := fun h => by have := hr.nil.1 h; rw [hv] at this; cases this
  have hcell : ∀ (i : Nat) e, l[i]? = some e → ∀ (j : Nat) c, e.cells[j]? = some c → i * sz + j < l.length * sz := by
   intro i e hi j c hj
   have h1 := (List.getElem?_eq_some_iff.1 hi).1
   have h2 := (List.getElem?_eq_some_iff.1 hj).1
   have h3 := (hr.shape e (List.mem_of_getElem? hi)).1
   rw [h3] at h2
   have : (i + 1) * sz ≤ l.length * sz := Nat.mul_le_mul_right _ h1
   rw [Nat.add_mul] at this
   omega
  have key := fun (i : Nat) (e : PV) (hi : l[i]? = some e) (j : Nat) (c : PV) (hj : e.cells[j]? = some c) => hr.cell hi hj
  rw [hv]
  refine Rep.slC g oo cap sz nl l (fun k => xs.getD k undef) hnl hcap hcm (fun i e hi => hr.shape e (List.mem_of_getElem? hi)) (fun i e hi j c hj => ?_) (fun i e hi j c hj => ?_)
  ·obtain ⟨b, oo', cap', u, hv', hu, hc, hrep⟩ := key i e hi j c hj
   rw [hv] at hv'
   simp at hv'
   obtain ⟨⟨rfl, rfl⟩, rfl⟩ := hv'
   refine ⟨by rw [hc]; simp [List.getD, hu], hX g (by rw [hv]; rfl) _ (by have := hcell i e hi j c hj; simp only [hv, hoff]; omega)⟩
  ·obtain ⟨b, oo', cap', u, hv', hu, hc, hrep⟩ := key i e hi j c hj
   have : xs.getD (i * sz + j) undef = u := by simp [List.getD, hu]
   show Rep w X0 (xs.getD (i * sz + j) undef) c
   rw [this]
   exact hrep.mono hm
theorem Zgu {γ : Hand} {w : World} {X X0 : Own} {s : Sto} (hs : StoOk P γ w X s) (hm : ∀ b o v, CellAt w X b o v → CellAt w X0 b o v) {R : List Id}
  (hR : ∀ id ∈ R, ∀ h blk b, γ id = some h → s.lookup id = some blk → hblk h = some b → ∀ o, blk.win h o → ¬ X0 b o) :
  ∀ (n : Nat) (av : AV) (v : Value) (pv : PV), RepA γ w X v av → toPV s n av = some pv → (∀ id ∈ reach s n av, id ∈ R) → Rep w X0 v pv := by
 intro n
 induction n with
 | zero => intro av v pv _ h; simp [toPV] at h
 | succ n ih =>
  intro av v pv hr ht hre
  have list : ∀ (cs : List AV) (ps : List PV) (vs : Nat → Value), cs.mapM (toPV s n) = some ps → (∀ id ∈ cs.flatMap (reach s n), id ∈ R) →
    (∀ (i : Nat) c, cs[i]? = some c → RepA γ w X (vs i) c) → ∀ (i : Nat) p, ps[i]? = some p → Rep w X0 (vs i) p := by
   intro cs ps vs hmap hrr hv i p hp
   obtain ⟨h1, h2⟩ := Uz hmap
   obtain ⟨c, hc⟩ := getElem?_same h1 hp
   exact ih c (vs i) p (hv i c hc) (h2 i c p hc hp) fun id hid => hrr id (List.mem_flatMap.2 ⟨c, List.mem_of_getElem? hc, hid⟩)
  have arr : ∀ (vs : Array Value) (cs : List AV) (ps : List PV), vs.size = cs.length → cs.mapM (toPV s n) = some ps → (∀ id ∈ cs.flatMap (reach s n), id ∈ R) →
    (∀ (i : Nat) v c, vs[i]? = some v → cs[i]? = some c → RepA γ w X v c) → vs.size = ps.length ∧ ∀ (i : Nat) v p, vs[i]? = some v → ps[i]? = some p → Rep w X0 v p := by
   intro vs cs ps hl hmap hrr hv
   obtain ⟨h1, _⟩ := Uz hmap
   refine ⟨by omega, fun i v p hiv hip => ?_⟩
   have := list cs ps (fun i => vs.getD i undef) hmap hrr (fun i c hc => ?_) i p hip
   ·simpa [hiv] using this
   ·have hlt : i < vs.size := by have := (List.getElem?_eq_some_iff.1 hc).1; omega
    have : vs[i]? = some vs[i] := Array.getElem?_eq_getElem hlt
    have h3 := hv i _ c this hc
    simpa [this] using h3
  cases hr with
  | p h => simp [toPV] at ht; subst ht; exact h.mono hm
  | top => simp [toPV] at ht
  | whT _ => simp [toPV] at ht
  | whF => simp [toPV] at ht
  | yld => simp [toPV] at ht
  | mp => simp [toPV] at ht
  | mth => simp [toPV] at ht
  | part => simp [toPV] at ht
  | bpt => simp [toPV] at ht
  | clip a sz nl l h => simp [toPV] at ht; subst ht; exact h.mono hm
  | ap0 id a h =>
   obtain ⟨blk, hl, hb⟩ := hs.blk id _ h
   cases blk with
   | box lent cs => simp [toPV, hl] at ht
   | frm => simp [toPV, hl] at ht
   | mpb => simp [toPV, hl] at ht
   | row lent T sz nl l =>
    simp only [toPV, hl, Option.some.injEq] at ht
    subst ht
    obtain ⟨xs, hrow⟩ := hb
    obtain ⟨rfl, rfl⟩ := hrow.zero
    exact .slE a 0 sz none (fun h => by cases h) (fun h => by cases h) (fun _ => rfl) (by simp [maxLen])
  | ref id off b h =>
   obtain ⟨blk, hl, hb⟩ := hs.blk id _ h
   cases blk with
   | row lent T sz nl l => simp [toPV, hl] at ht
   | frm => simp [toPV, hl] at ht
   | mpb => simp [toPV, hl] at ht
   | box lent cs =>
    simp only [toPV, hl, Option.map_eq_some_iff] at ht
    obtain ⟨ps, hps, rfl⟩ := ht
    simp only [reach, hl] at hre
    obtain ⟨b', c, T, hb⟩ := hb
    have hbb := hb.hand
    simp at hbb
    subst hbb
    have hcs := hb.size
    have hsub : ∀ id ∈ (cs.drop off).flatMap (reach s n), id ∈ R := fun id hid => by
     obtain ⟨c, hc, hid⟩ := List.mem_flatMap.1 hid
     exact hre id (List.mem_cons_of_mem _ (List.mem_flatMap.2 ⟨c, List.mem_of_mem_drop hc, hid⟩))
    have hget : ∀ (j : Nat) a, (cs.drop off)[j]? = some a → ∃ u, c[off + j]? = some u ∧ RepA γ w X u a := fun j a hj => by
     rw [List.getElem?_drop] at hj
     have hlt : off + j < c.size := by have := (List.getElem?_eq_some_iff.1 hj).1; omega
     exact ⟨c[off + j], Array.getElem?_eq_getElem hlt, hb.rep _ _ a (Array.getElem?_eq_getElem hlt) hj⟩
    have hlen := (Uz hps).1
    refine .ptr b off ps (fun j => c.getD (off + j) undef) (fun j p hj => ?_) (fun j p hj => ?_)
    ·obtain ⟨a, ha⟩ := getElem?_same hlen hj
     obtain ⟨u, hu, _⟩ := hget j a ha
     refine ⟨?_, hR id (hre id (List.mem_cons_self)) _ _ b h hl rfl _ trivial⟩
     rw [cell_of_row w b _ c T (0, 0) hb.heap]
     simp [hu]
    ·exact list (cs.drop off) ps (fun j => c.getD (off + j) undef) hps hsub (fun j a ha => by
      obtain ⟨u, hu, hr⟩ := hget j a ha
      simpa [hu] using hr) j p hj
  | er id sz i off b oo len cap h =>
   obtain ⟨blk, hl, hb⟩ := hs.blk id _ h
   cases blk with
   | box lent cs => simp [toPV, hl] at ht
   | frm => simp [toPV, hl] at ht
   | mpb => simp [toPV, hl] at ht
   | row lent T sz' nl l =>
    simp only [toPV, hl] at ht
    split at ht
    case isFalse => cases ht
    rename_i hsz
    subst hsz
    simp only [Option.map_eq_some_iff] at ht
    obtain ⟨e, he, rfl⟩ := ht
    simp only [reach] at hre
    have hwin := hR id (hre id (List.mem_cons_self)) _ _ b h hl rfl
    obtain ⟨xs, hrow⟩ := hb
    have hlt : ∀ (j : Nat) c, (e.cells.drop off)[j]? = some c → i * sz' + (off + j) < l.length * sz' := by
     intro j c hj
     rw [List.getElem?_drop] at hj
     have h1 := (List.getElem?_eq_some_iff.1 he).1
     have h2 := (List.getElem?_eq_some_iff.1 hj).1
     rw [(hrow.shape e (List.mem_of_getElem? he)).1] at h2
     have : (i + 1) * sz' ≤ l.length * sz' := Nat.mul_le_mul_right _ h1
     rw [Nat.add_mul] at this
     omega
    have key : ∀ (j : Nat) c, (e.cells.drop off)[j]? = some c → ∃ u, xs[i * sz' + (off + j)]? = some u ∧ w.cell? ⟨b, oo + (i * sz' + (off + j)), none⟩ = some u ∧ Rep w X u c := by
     intro j c hj
     rw [List.getElem?_drop] at hj
     obtain ⟨b', oo', cap', u, hv, hu, hc, hrep⟩ := hrow.cell he hj
     simp at hv
     obtain ⟨⟨rfl, rfl⟩, _, rfl⟩ := hv
     exact ⟨u, hu, hc, hrep⟩
    refine .ptr b (oo + (i * sz' + off)) (e.cells.drop off) (fun j => xs.getD (i * sz' + (off + j)) undef) (fun j c hj => ?_) (fun j c hj => ?_)
    ·obtain ⟨u, hu, hc, _⟩ := key j c hj
     rw [show oo + (i * sz' + off) + j = oo + (i * sz' + (off + j)) by omega]
     refine ⟨by rw [hc]; simp [List.getD, hu], hwin _ (by have := hlt j c hj; simp only [Blk.win, hoff]; omega)⟩
    ·obtain ⟨u, hu, hc, hrep⟩ := key j c hj
     have : xs.getD (i * sz' + (off + j)) undef = u := by simp [List.getD, hu]
     show Rep w X0 (xs.getD (i * sz' + (off + j)) undef) c
     rw [this]
     exact hrep.mono hm
  | ap id v h hz =>
   obtain ⟨blk, hl, hb⟩ := hs.blk id _ h
   cases blk with
   | box lent cs => simp [toPV, hl] at ht
   | frm => simp [toPV, hl] at ht
   | mpb => simp [toPV, hl] at ht
   | row lent T sz nl l =>
    simp only [toPV, hl, Option.some.injEq] at ht
    subst ht
    simp only [reach] at hre
    exact rowRep hb hm (fun b hk o ho => hR id (hre id (List.mem_cons_self)) _ _ b h hl hk o ho) hz
  | agg vs cs hl h =>
   simp only [toPV, Option.map_eq_some_iff] at ht
   obtain ⟨ps, hps, rfl⟩ := ht
   simp only [reach] at hre
   obtain ⟨h1, h2⟩ := arr vs cs ps hl hps hre h
   exact .agg vs ps h1 h2
  | tup vs cs hl h =>
   simp only [toPV, Option.map_eq_some_iff] at ht
   obtain ⟨ps, hps, rfl⟩ := ht
   simp only [reach] at hre
   obtain ⟨h1, h2⟩ := arr vs cs ps hl hps hre h
   exact .tup vs ps h1 h2
  | fn f vs cs hl h =>
   simp only [toPV, Option.map_eq_some_iff] at ht
   obtain ⟨ps, hps, rfl⟩ := ht
   simp only [reach] at hre
   obtain ⟨h1, h2⟩ := arr vs cs ps hl hps hre h
   exact .fn f vs ps h1 h2
theorem Z1r {l : List PV} : ∀ {i : Nat} {c : PV}, (PV.fg.PV.fgL l)[i]? = some c → ∃ a, l[i]? = some a ∧ c = a.fg := by
 induction l with
 | nil => intro i c h; simp [PV.fg.PV.fgL] at h
 | cons a r ih =>
  intro i c h
  cases i with
  | zero => simp [PV.fg.PV.fgL] at h; exact ⟨a, by simp, h.symm⟩
  | succ i => simp only [PV.fg.PV.fgL, List.getElem?_cons_succ] at h; simpa using ih h
theorem Z2w (l : List PV) : (PV.fg.PV.fgL l).length = l.length := by induction l with | nil => rfl | cons a r ih => simp [PV.fg.PV.fgL, ih]
theorem Zhi (e : PV) : e.fg.cells = PV.fg.PV.fgL e.cells := by cases e <;> simp [PV.fg, PV.cells, PV.fg.PV.fgL]
theorem fg_cell1 (e : PV) : e.fg.cell1 = e.cell1 := by cases e <;> rfl
theorem fgL_all (l : List PV) : (PV.fg.PV.fgL l).all PV.cell1 = l.all PV.cell1 := by induction l with | nil => rfl | cons a r ih => simp [PV.fg.PV.fgL, ih, fg_cell1]
theorem Rep.fg {w : World} {X : Own} {v : Value} {x : PV} (h : Rep w X v x) : Rep w X v x.fg := by
 induction h with
 | bool b => exact .bool b
 | int k n => exact .int k n
 | str s => exact .str s
 | nilf => exact .nilf
 | nilp => exact .nilp
 | und => exact .und
 | fn f vs cs hl _ ih => exact .fn f vs _ (by rw [Z2w]; exact hl) fun i v c hv hc => by obtain ⟨a, ha, rfl⟩ := Z1r hc; exact ih i v a hv ha
 | agg vs cs hl _ ih => exact .agg vs _ (by rw [Z2w]; exact hl) fun i v c hv hc => by obtain ⟨a, ha, rfl⟩ := Z1r hc; exact ih i v a hv ha
 | tup vs cs hl _ ih => exact .tup vs _ (by rw [Z2w]; exact hl) fun i v c hv hc => by obtain ⟨a, ha, rfl⟩ := Z1r hc; exact ih i v a hv ha
 | ptr b o cs f hc _ ih =>
  exact .ptr b o _ f (fun j c hj => by obtain ⟨a, ha, rfl⟩ := Z1r hj; exact hc j a ha) fun j c hj => by obtain ⟨a, ha, rfl⟩ := Z1r hj; exact ih j a ha
 | slE a cap sz nl h1 h2 h0 h3 => exact .slE a cap sz none (fun h => by cases h) (fun h => by cases h) h0 h3
 | slC b o cap sz nl l f h1 hn hM hz hc _ ih =>
  have hl := Z2w l
  have := Rep.slC (w := w) (X := X) b o cap sz none (PV.fg.PV.fgL l) f (by simp) (by omega) hM
   (fun i e hi => by obtain ⟨a, ha, rfl⟩ := Z1r hi; rw [Zhi, Z2w, fgL_all]; exact hz i a ha)
   (fun i e hi j c hj => by obtain ⟨a, ha, rfl⟩ := Z1r hi; rw [Zhi] at hj; obtain ⟨c', hc', rfl⟩ := Z1r hj; exact hc i a ha j c' hc')
   (fun i e hi j c hj => by obtain ⟨a, ha, rfl⟩ := Z1r hi; rw [Zhi] at hj; obtain ⟨c', hc', rfl⟩ := Z1r hj; exact ih i a ha j c' hc')
  rw [hl] at this
  exact this
theorem cst_rep {v : Value} {c : PV} (h : cst v c = true) (w : World) (X : Own) : Rep w X v c ∧ c.cell1 = true := by
 unfold cst at h
 split at h
 ·simp at h; subst h; exact ⟨.bool _, rfl⟩
 ·simp at h; obtain ⟨rfl, rfl⟩ := h; exact ⟨.int _ _, rfl⟩
 ·rename_i s t; simp at h
  have : s = t := by cases s; cases t; simp_all
  subst this; exact ⟨.str _, rfl⟩
 ·exact ⟨.nilf, rfl⟩
 ·exact ⟨.nilp, rfl⟩
 ·rename_i sz nl; exact ⟨.slE none 0 sz nl (fun _ => rfl) (fun h' => by subst h'; simp at h) (fun _ => rfl) (by simp [maxLen]), rfl⟩
 ·cases h
theorem Z6c : ∀ {vs : List Value} {cs : List PV}, cstL vs cs = true → vs.length = cs.length ∧ ∀ (w : World) (X : Own) (i : Nat) v c, vs[i]? = some v → cs[i]? = some c → Rep w X v c ∧ c.cell1 = true
 | [], [], _ => by simp
 | v :: vs, c :: cs, h => by
  simp only [cstL, Bool.and_eq_true] at h
  obtain ⟨h1, h2⟩ := Z6c h.2
  refine ⟨by simp [h1], fun w X i v' c' hv hc => ?_⟩
  cases i with
  | zero => simp at hv hc; subst hv; subst hc; exact cst_rep h.1 w X
  | succ i => exact h2 w X i v' c' (by simpa using hv) (by simpa using hc)
 | [], _ :: _, h => by simp [cstL] at h
 | _ :: _, [], h => by simp [cstL] at h
theorem built_of {P : Program} {t : TypeId} {z : Array Value} {pl : Nat → Option (Nat × Nat)} (h : Zh3 P t = some (z, pl)) (parts : List (Nat × Value)) : P.built t parts = Instr.fill pl z parts := by
 unfold Zh3 at h
 unfold Program.built
 split at h
 ·rename_i h1 h2; rw [h1, h2]; simp only; split at h
  ·rename_i h3 h4; simp only [Option.some.injEq, Prod.mk.injEq] at h; obtain ⟨rfl, rfl⟩ := h; simp [h3, h4]
  ·cases h
 ·rename_i h1 h2; rw [h1, h2]; simp only; split at h
  ·rename_i h3 h4; simp only [Option.some.injEq, Prod.mk.injEq] at h; obtain ⟨rfl, rfl⟩ := h; simp only [h3, h4]
  ·cases h
 ·cases h
section
variable {P : Program}
theorem Wy {t : TypeId} {n : Nat} (h : szB P t = some n) (w : World) : (sizeOf t).run P w = .ok n w := by
 unfold szB at h
 cases hi : P.info? t with
 | none => simp [hi] at h
 | some i => simp [hi] at h; subst h; simp [sizeOf, typeInfo, hi]
theorem Z8e {t : TypeId} {b : Bool} (h : agB P t = some b) (w : World) : (isAgg t).run P w = .ok b w := by
 unfold agB at h
 cases hu : P.underlying t with
 | none => simp [hu] at h
 | some d =>
  simp [hu] at h; subst h
  unfold isAgg
  rw [Sem.run_bind, run_underlying hu w]
  cases d <;> rfl
theorem Z3b {t e : TypeId} (h : slB P t = some e) : P.underlying t = some (.slice e) := by
 unfold slB at h
 split at h
 ·simp at h; subst h; assumption
 ·cases h
theorem Z87 {t : TypeId} {z : List Value} (h : zeB P t = some z) : ∃ i v, P.info? t = some i ∧ i.zero = some v ∧ v.cells.toList = z := by
 unfold zeB at h
 cases hi : P.info? t with
 | none => simp [hi] at h
 | some i =>
  cases hz : i.zero with
  | none => simp [hi, hz] at h
  | some v => simp [hi, hz] at h; exact ⟨i, v, rfl, hz, h⟩
theorem Z2h {t : TypeId} {n : Nat} (hs : szB P t = some n) (ha : agB P t = some true) (w : World) (b o : Nat) (f : Nat → Value) (h : ∀ j, j < n → w.cell? ⟨b, o + j, none⟩ = some (f j)) :
  (loadVar t ⟨b, o, none⟩).run P w = .ok (.agg ((List.range n).map f).toArray) w := by
 have hl := run_loadCells (P := P) w ⟨b, o, none⟩ n f (fun j hj => by rw [Addr.add_lit]; exact h j hj)
 simp [loadVar, Z8e ha, Wy hs, hl]
theorem Z4x {t : TypeId} (ha : agB P t = some false) (w : World) (b o : Nat) (v : Value) (h : w.cell? ⟨b, o, none⟩ = some v) :
  (loadVar t ⟨b, o, none⟩).run P w = .ok v w := by
 simp [loadVar, Z8e ha, h]
end
theorem Zev : ∀ {a b : List Value}, Y1 a b = true → a.length = b.length
 | [], [], _ => rfl
 | x :: r, y :: s, h => by
  have : Y1 r s = true := by
   cases x <;> cases y <;> simp [Y1] at h <;> first | exact h | exact h.2
  simp [Zev this]
 | [], _ :: _, h => by simp [Y1] at h
 | x :: _, [], h => by cases x <;> simp [Y1] at h
theorem Zb9 : ∀ {a b : List Value} (n : Nat), Y1 a b = true → Y1 (a.drop n) (b.drop n) = true
 | _, _, 0, h => h
 | [], [], n + 1, _ => rfl
 | x :: r, y :: s, n + 1, h => by
  have : Y1 r s = true := by
   cases x <;> cases y <;> simp [Y1] at h <;> first | exact h | exact h.2
  exact Zb9 n this
 | [], _ :: _, _ + 1, h => by simp [Y1] at h
 | x :: _, [], _ + 1, h => by cases x <;> simp [Y1] at h
theorem Zb8 : ∀ {a b : List Value} (n : Nat), Y1 a b = true → Y1 (a.take n) (b.take n) = true
 | _, _, 0, _ => by simp [Y1]
 | [], [], n + 1, _ => rfl
 | x :: r, y :: s, n + 1, h => by
  have ih : Y1 r s = true → Y1 (r.take n) (s.take n) = true := Zb8 n
  cases x <;> cases y <;> simp [Y1] at h <;> simp [Y1] <;> first | exact ih h | exact ⟨h.1, ih h.2⟩
 | [], _ :: _, _ + 1, h => by simp [Y1] at h
 | x :: _, [], _ + 1, h => by cases x <;> simp [Y1] at h
theorem Zd6 {α β : Type} {f g : α → Option β} : ∀ {l : List α} {r : List β}, l.mapM f = some r → (∀ x ∈ l, ∀ y, f x = some y → ∃ z, g x = some z) → ∃ r', l.mapM g = some r'
 | [], _, _, _ => ⟨[], rfl⟩
 | a :: l, r, h, hg => by
  rw [List.mapM_cons] at h
  cases ha : f a with
  | none => rw [ha] at h; cases h
  | some y =>
   rw [ha] at h
   cases hl : l.mapM f with
   | none => rw [hl] at h; cases h
   | some q =>
    obtain ⟨z, hz⟩ := hg a (by simp) y ha
    obtain ⟨r', hr'⟩ := Zd6 hl fun x hx => hg x (by simp [hx])
    exact ⟨z :: r', by rw [List.mapM_cons, hz, hr']; rfl⟩
theorem Z3i {P : Program} : ∀ (d : Nat) (t : TypeId) {a b : List Value} {l : List Lit}, P.keyLits d t a = some l → Y1 a b = true → ∃ l', P.keyLits d t b = some l'
 | 0, t, a, b, l, h, _ => by simp [Program.keyLits] at h
 | d + 1, t, a, b, l, h, hab => by
  unfold Program.keyLits at h ⊢
  have hlen := Zev hab
  split at h
  ·rename_i hu
   simp only [hu]
   cases b with
   | nil => simp [Y1] at hab
   | cons y s =>
    cases y <;> simp [Y1] at hab
    cases s with
    | nil => exact ⟨_, rfl⟩
    | cons => simp [Y1] at hab
  ·rename_i q q' n hu
   simp only [hu]
   cases b with
   | nil => simp [Y1] at hab
   | cons y s =>
    cases y <;> simp [Y1] at hab
    rename_i k m
    obtain ⟨⟨rfl, hwf⟩, hr⟩ := hab
    split at h
    ·rename_i hq
     cases s with
     | nil => exact ⟨_, by simp only; rw [if_pos ⟨hq.1, hq.1 ▸ hwf⟩]⟩
     | cons => simp [Y1] at hr
    ·cases h
  ·rename_i s0 hu
   simp only [hu]
   cases b with
   | nil => simp [Y1] at hab
   | cons y s =>
    cases y <;> simp [Y1] at hab
    rename_i bs
    cases s with
    | nil => exact ⟨_, by simp only; rw [if_pos hab.1]⟩
    | cons => simp [Y1] at hab
  ·rename_i n e hu
   simp only [hu]
   split at h
   ·rename_i hc
    rw [if_pos (by rw [← hlen]; exact hc)]
    obtain ⟨q, hq, _⟩ := Option.map_eq_some_iff.1 h
    obtain ⟨r', hr'⟩ := Zd6 (g := fun i => P.keyLits d e ((b.drop (i * P.cellsOf e)).take (P.cellsOf e))) hq fun i _ y hy => Z3i d e hy (Zb8 _ (Zb9 _ hab))
    exact ⟨_, by rw [hr']; rfl⟩
   ·cases h
  ·rename_i fs hu
   simp only [hu]
   split at h
   ·rename_i hc
    rw [if_pos ⟨by rw [← hlen]; exact hc.1, hc.2⟩]
    obtain ⟨q, hq, _⟩ := Option.map_eq_some_iff.1 h
    obtain ⟨r', hr'⟩ := Zd6 (g := fun f => P.keyLits d f.type ((b.drop f.offset).take (P.cellsOf f.type))) hq fun i _ y hy => Z3i d i.type hy (Zb8 _ (Zb9 _ hab))
    exact ⟨_, by rw [hr']; rfl⟩
   ·cases h
  ·cases h
theorem Zcb : ∀ {a b : List Value}, Y1 a b = true → (sameB a b = true ↔ a = b)
 | [], [], _ => by simp [sameB]
 | x :: r, y :: s, h => by
  cases x <;> cases y <;> simp [Y1] at h <;> simp [sameB]
  ·rw [Zcb h]; exact fun _ => Iff.rfl
  ·obtain ⟨⟨rfl, _⟩, h⟩ := h
   rw [Zcb h]; simp
  ·rw [Zcb h.2]; exact fun _ => Iff.rfl
 | [], _ :: _, h => by simp [Y1] at h
 | x :: _, [], h => by cases x <;> simp [Y1] at h
theorem cellsV_inj {a b : Value} (h : Z1a a = Z1a b) (hc : Gj a = Gj b) : a = b := by
 cases a <;> cases b <;> simp [Z1a] at h <;> simp [Gj] at hc <;> first | exact hc | (congr 1; done) | simp_all
theorem sameV_iff {z a b : Value} (ha : likeV z a = true) (hb : likeV z b = true) (hab : likeV a b = true) : sameV a b = true ↔ a = b := by
 simp only [likeV, Bool.and_eq_true, beq_iff_eq] at hab
 unfold sameV
 rw [Zcb hab.2]
 exact ⟨fun h => cellsV_inj hab.1 h, fun h => by rw [h]⟩
section
variable {P : Program}
theorem Z78 {k : TypeId} {z : Value} (h : Z8w P k z = true) : Maps.Keyed P k := by
 unfold Z8w at h
 split at h
 ·rename_i hu; exact Maps.bool_keyed hu
 ·rename_i hu; exact Maps.int_keyed hu
 ·rename_i hu; exact Maps.string_keyed hu
 ·rename_i hu
  simp only [Bool.and_eq_true, decide_eq_true_eq] at h
  exact Maps.Keyed.of_law (deep_law_gate h.1.1.1.1.1.1 h.1.1.1.1.1.2 h.1.1.1.1.2 h.1.1.1.2 (by rw [hu]))
 ·rename_i hu
  simp only [Bool.and_eq_true, decide_eq_true_eq] at h
  exact Maps.Keyed.of_law (deep_law_gate h.1.1.1.1.1.1 h.1.1.1.1.1.2 h.1.1.1.1.2 h.1.1.1.2 (by rw [hu]))
 ·cases h
theorem Z8v {k : TypeId} {z u : Value} (h : Z8w P k z = true) (hu : likeV z u = true) : ∃ l, keyOf P k u = some l := by
 simp only [likeV, Bool.and_eq_true, beq_iff_eq] at hu
 obtain ⟨h1, h2⟩ := hu
 have wide : (∃ n e, P.underlying k = some (.array n e)) ∨ (∃ fs, P.underlying k = some (.struct fs)) → Z1a z = true → z.formed P k = true → P.keyType k = true → (P.keyLits (P.types.size + 1) k (Gj z)).isSome = true → ∃ l, keyOf P k u = some l := fun hk ha hf ht hl => by
  rw [ha] at h1
  cases z with
  | agg zs =>
   cases u with
   | agg us =>
    obtain ⟨l, hl⟩ := Option.isSome_iff_exists.1 hl
    obtain ⟨l', hl'⟩ := Z3i _ _ hl h2
    have hsz : us.size = zs.size := by have := Zev h2; simpa [Gj] using this.symm
    have hf' : (Value.agg us).formed P k = true := by
     unfold Value.formed at hf ⊢
     simp only at hf ⊢
     rw [hsz]; exact hf
    have hc : (Value.agg us).cells.toList = Gj (.agg us) := rfl
    rcases hk with ⟨n, e, hk⟩ | ⟨fs, hk⟩
    ·exact ⟨_, by unfold keyOf; rw [hk]; simp only; rw [if_pos (by rw [ht, hf']; rfl), hc, hl']; rfl⟩
    ·exact ⟨_, by unfold keyOf; rw [hk]; simp only; rw [if_pos (by rw [ht, hf']; rfl), hc, hl']; rfl⟩
   | _ => simp [Z1a] at h1
  | _ => simp [Z1a] at ha
 unfold Z8w at h
 split at h
 ·rename_i hu
  simp only [Bool.and_eq_true, Bool.not_eq_true'] at h
  cases z <;> simp [mapKey, hu] at h
  cases u <;> simp [Z1a] at h1 <;> simp [Gj, Y1] at h2
  rename_i b1 b2
  exact ⟨.bool b2, by simp [keyOf, mapKey, hu]⟩
 ·rename_i q hu
  simp only [Bool.and_eq_true, Bool.not_eq_true'] at h
  cases z <;> simp [mapKey, hu] at h
  cases u <;> simp [Z1a] at h1 <;> simp [Gj, Y1] at h2
  obtain ⟨rfl, h2⟩ := h2
  exact ⟨_, by simp only [keyOf, mapKey, hu]; rw [if_pos ⟨h.1.1, h.1.1 ▸ h2⟩]⟩
 ·rename_i hu
  simp only [Bool.and_eq_true, Bool.not_eq_true'] at h
  cases z <;> simp [mapKey, hu] at h
  cases u <;> simp [Z1a] at h1 <;> simp [Gj, Y1] at h2
  exact ⟨_, by simp only [keyOf, mapKey, hu]; rw [if_pos h2]⟩
 ·rename_i hu
  simp only [Bool.and_eq_true, decide_eq_true_eq] at h
  exact wide (.inl ⟨_, _, hu⟩) h.1.1.2 h.1.2 h.1.1.1.2 h.2
 ·rename_i hu
  simp only [Bool.and_eq_true, decide_eq_true_eq] at h
  exact wide (.inr ⟨_, hu⟩) h.1.1.2 h.1.2 h.1.1.1.2 h.2
 ·cases h
end
section
variable {P : Program} {w : World} {X : Own}
theorem Zgn {v u : Value} {c : PV} (h : Rep w X v c) (hc : cellOf c = some u) : v = u := by
 unfold cellOf at hc
 split at hc
 ·split at hc
  ·cases hc; cases h; rfl
  ·cases hc
 ·cases hc; cases h; rfl
 ·split at hc
  ·cases hc; cases h; rfl
  ·cases hc
 ·cases hc
theorem mapM_getK {α β : Type} {f : α → Option β} : ∀ {l : List α} {r : List β}, l.mapM f = some r → l.length = r.length ∧ ∀ (i : Nat) x, l[i]? = some x → ∃ y, r[i]? = some y ∧ f x = some y
 | [], r, h => by
  have : r = [] := by cases h; rfl
  subst this
  exact ⟨rfl, fun i x hx => by simp at hx⟩
 | a :: l, r, h => by
  rw [List.mapM_cons] at h
  cases ha : f a with
  | none => rw [ha] at h; cases h
  | some y =>
   rw [ha] at h
   cases hl : l.mapM f with
   | none => rw [hl] at h; cases h
   | some q =>
    rw [hl] at h
    cases h
    obtain ⟨h1, h2⟩ := mapM_getK hl
    refine ⟨by simp [h1], fun i x hx => ?_⟩
    cases i with
    | zero => simp at hx; subst hx; exact ⟨y, rfl, ha⟩
    | succ i => exact h2 i x (by simpa using hx)
theorem Zhb {v u : Value} {c : PV} (h : Rep w X v c) (hc : keyV c = some u) : v = u := by
 unfold keyV at hc
 split at hc
 ·rename_i cs
  obtain ⟨l, hl, rfl⟩ := Option.map_eq_some_iff.1 hc
  obtain ⟨h1, h2⟩ := mapM_getK hl
  cases h with
  | agg vs cs hvs hh =>
   congr 1
   apply Array.ext'
   apply List.ext_getElem?
   intro i
   by_cases hi : i < cs.length
   ·obtain ⟨y, hy, hf⟩ := h2 i cs[i] (List.getElem?_eq_getElem hi)
    have hv : vs[i]? = some vs[i] := Array.getElem?_eq_getElem (by omega)
    have := Zgn (hh i vs[i] cs[i] hv (List.getElem?_eq_getElem hi)) hf
    simp only [Array.getElem?_toList, hv, List.toList_toArray, hy, this]
   ·rw [List.getElem?_eq_none (by simp; omega), List.getElem?_eq_none (by simp; omega)]
 ·exact Zgn h hc
theorem Zcm : ∀ {a b c : List Value}, Y1 a b = true → Y1 a c = true → Y1 b c = true
 | [], [], [], _, _ => rfl
 | x :: r, y :: s, z :: t, h, k => by
  cases x <;> cases y <;> simp [Y1] at h <;> cases z <;> simp [Y1] at k <;> simp [Y1]
  ·exact Zcm h k
  ·obtain ⟨⟨rfl, _⟩, h⟩ := h
   exact ⟨k.1, Zcm h k.2⟩
  ·exact ⟨k.1, Zcm h.2 k.2⟩
 | [], [], _ :: _, _, h => by simp [Y1] at h
 | [], _ :: _, _, h, _ => by simp [Y1] at h
 | x :: _, [], _, h, _ => by cases x <;> simp [Y1] at h
 | x :: _, _ :: _, [], _, h => by cases x <;> simp [Y1] at h
theorem likeV_tr {z a b : Value} (ha : likeV z a = true) (hb : likeV z b = true) : likeV a b = true := by
 simp only [likeV, Bool.and_eq_true, beq_iff_eq] at *
 exact ⟨ha.1.symm.trans hb.1, Zcm ha.2 hb.2⟩
theorem Zfv {u : Value} : ∀ {l : List (PV × PV)} {i : Nat}, lookE u i l = some none → ∀ (j : Nat) k v, l[j]? = some (k, v) → ∀ q, keyV k = some q → sameV q u = false
 | [], i, _, j, k, v, h, _, _ => by simp at h
 | (k0, v0) :: r, i, h, j, k, v, hj, q, hq => by
  unfold lookE at h
  split at h
  ·rename_i q0 hq0
   split at h
   ·cases h
   ·rename_i hs
    cases j with
    | zero =>
     simp at hj
     obtain ⟨rfl, rfl⟩ := hj
     rw [hq0] at hq
     cases hq
     simpa using hs
    | succ j => exact Zfv h j k v (by simpa using hj) q hq
  ·cases h
theorem Z9y {u : Value} {m : Nat} {v : PV} : ∀ {l : List (PV × PV)} {i : Nat}, lookE u i l = some (some (m, v)) → ∃ j k q, m = i + j ∧ l[j]? = some (k, v) ∧ keyV k = some q ∧ sameV q u = true
 | [], i, h => by simp [lookE] at h
 | (k0, v0) :: r, i, h => by
  unfold lookE at h
  split at h
  ·rename_i q0 hq0
   split at h
   ·rename_i hs
    simp only [Option.some.injEq, Prod.mk.injEq] at h
    obtain ⟨rfl, rfl⟩ := h
    exact ⟨0, k0, q0, rfl, rfl, hq0, hs⟩
   ·obtain ⟨j, k, q, h1, h2, h3, h4⟩ := Z9y h
    exact ⟨j + 1, k, q, by omega, by simpa using h2, h3, h4⟩
  ·cases h
theorem Zh7 {h : Value} {l : List (PV × PV)} {r : Nat} {es : Array MapEntry} {cl : Nat} (hm : MapOk w X h l r es cl) {z : Value} (hk : Z18 z l = true) {i : Nat} {e : MapEntry} (he : es[i]? = some e) : ∃ k v, l[i]? = some (k, v) ∧ keyV k = some e.key ∧ likeV z e.key = true := by
 have hi : i < l.length := by have := (Array.getElem?_eq_some_iff.1 he).1; have := hm.size; omega
 have hl : l[i]? = some (l[i].1, l[i].2) := List.getElem?_eq_getElem hi
 obtain ⟨h1, _⟩ := hm.rep i e _ _ he hl
 have := List.all_eq_true.1 hk l[i] (List.getElem_mem hi)
 split at this
 ·rename_i q hq
  have hv := Zhb h1 hq
  exact ⟨_, _, hl, by rw [hv]; exact hq, by rw [hv]; exact this⟩
 ·cases this
theorem map_find {h : Value} {l : List (PV × PV)} {r : Nat} {es : Array MapEntry} {cl : Nat} (hm : MapOk w X h l r es cl) {k : TypeId} {z u : Value} (hz : Z8w P k z = true) (hk : Z18 z l = true) (hu : likeV z u = true) {res : Option (Nat × PV)} (hl : lookE u 0 l = some res) :
  match res with
  | none => (Instr.findKey k u es.toList).run P w = .ok none w ∧ ∀ (i : Nat) e, es[i]? = some e → e.key ≠ u
  | some (i, v) => ∃ e, es[i]? = some e ∧ e.key = u ∧ Rep w X e.val v ∧ (Instr.findKey k u es.toList).run P w = .ok (some (i, e.val)) w := by
 have K := Z78 hz
 obtain ⟨lu, hlu⟩ := Z8v hz hu
 have hall : ∀ e ∈ es.toList, ∃ l, keyOf P k e.key = some l := fun e he => by
  obtain ⟨i, hi⟩ := List.getElem?_of_mem he
  obtain ⟨_, _, _, _, h3⟩ := Zh7 hm hk (i := i) (e := e) (by simpa using hi)
  exact Z8v hz h3
 have same : ∀ (i : Nat) e kk v q, es[i]? = some e → l[i]? = some (kk, v) → keyV kk = some q → (sameV q u = true ↔ e.key = u) := fun i e kk v q he hl hq => by
  obtain ⟨k', v', h1, h2, h3⟩ := Zh7 hm hk he
  rw [hl] at h1
  simp only [Option.some.injEq, Prod.mk.injEq] at h1
  obtain ⟨rfl, rfl⟩ := h1
  rw [hq] at h2
  cases h2
  exact sameV_iff h3 hu (likeV_tr h3 hu)
 rcases K.find w hlu es.toList hall with ⟨f1, f2⟩ | ⟨j, e, f1, f2, f3⟩
 ·cases res with
  | none => exact ⟨f1, fun i e he => f2 e (List.mem_of_getElem? (by simpa using he))⟩
  | some x =>
   obtain ⟨i, v⟩ := x
   obtain ⟨j, kk, q, h1, h2, h3, h4⟩ := Z9y hl
   have hj : j < es.size := by rw [hm.size]; exact (List.getElem?_eq_some_iff.1 h2).1
   have he : es[j]? = some es[j] := Array.getElem?_eq_getElem hj
   exact absurd ((same j es[j] kk v q he h2 h3).1 h4) (f2 es[j] (List.mem_of_getElem? (i := j) (by simp)))
 ·have he : es[j]? = some e := by simpa using f2
  cases res with
  | none =>
   obtain ⟨kk, v, h1, h2, h3⟩ := Zh7 hm hk he
   have := Zfv hl j kk v h1 _ h2
   rw [(same j e kk v _ he h1 h2).2 f3] at this
   cases this
  | some x =>
   obtain ⟨i, v⟩ := x
   obtain ⟨m, kk, q, h1, h2, h3, h4⟩ := Z9y hl
   have hmm : m < es.size := by rw [hm.size]; exact (List.getElem?_eq_some_iff.1 h2).1
   have hem : es[m]? = some es[m] := Array.getElem?_eq_getElem hmm
   have hkm := (same m es[m] kk v q hem h2 h3).1 h4
   have hjm : j = m := hm.uniq j m e es[m] he hem (f3.trans hkm.symm)
   subst hjm
   have hij : i = j := by omega
   subst hij
   exact ⟨e, he, f3, (hm.rep i e kk v he h2).2, f1⟩
theorem map_lookup {h : Value} {l : List (PV × PV)} {r : Nat} {es : Array MapEntry} {cl : Nat} (hm : MapOk w X h l r es cl) {t k e : TypeId} (ht : P.underlying t = some (.map k e)) {z u : Value} (hz : Z8w P k z = true) (hk : Z18 z l = true) (hu : likeV z u = true) {res : Option (Nat × PV)} (hl : lookE u 0 l = some res)
  {zv : Value} (hzero : (zeroValue e).run P w = .ok zv w) (ok : Bool) :
  match res with
  | none => (Instr.lookup t h u ok).run P w = .ok (if ok = true then .tuple #[zv, .bool false] else zv) w
  | some (_, v) => ∃ x, Rep w X x v ∧ (Instr.lookup t h u ok).run P w = .ok (if ok = true then .tuple #[x, .bool true] else x) w := by
 have K := Z78 hz
 obtain ⟨lu, hlu⟩ := Z8v hz hu
 have hf := map_find hm hz hk hu hl
 rw [hm.hand]
 cases res with
 | none =>
  obtain ⟨f1, _⟩ := hf
  simp [Instr.lookup, run_underlying ht, MapKept.run_getObj_map hm.heap, K.check w _ hlu, f1, hzero, Result.andThen]
 | some x =>
  obtain ⟨i, v⟩ := x
  obtain ⟨e0, _, _, f3, f4⟩ := hf
  refine ⟨e0.val, f3, ?_⟩
  simp [Instr.lookup, run_underlying ht, MapKept.run_getObj_map hm.heap, K.check w _ hlu, f4, Result.andThen]
theorem map_update {h : Value} {l : List (PV × PV)} {r : Nat} {es : Array MapEntry} {cl : Nat} (hm : MapOk w X h l r es cl) {t k e : TypeId} (ht : P.underlying t = some (.map k e)) {z u : Value} (hz : Z8w P k z = true) (hk : Z18 z l = true) (hu : likeV z u = true) {res : Option (Nat × PV)} (hl : lookE u 0 l = some res)
  {kp v : PV} {x : Value} (hkp : Rep w X u kp) (hx : Rep w X x v) :
  ∃ es' cl', (Instr.mapUpdate t h u x).run P w = .ok () { w with heap := w.heap.setIfInBounds r (.map es' cl') } ∧ es'.size = (putE kp v l res).length ∧
   (∀ (i : Nat) e k v', es'[i]? = some e → (putE kp v l res)[i]? = some (k, v') → Rep w X e.key k ∧ Rep w X e.val v') ∧ (∀ (i j : Nat) e f, es'[i]? = some e → es'[j]? = some f → e.key = f.key → i = j) := by
 have K := Z78 hz
 obtain ⟨lu, hlu⟩ := Z8v hz hu
 have hf := map_find hm hz hk hu hl
 rw [hm.hand]
 cases res with
 | none =>
  obtain ⟨f1, f2⟩ := hf
  refine ⟨es.push { key := u, val := x, born := cl }, cl + 1, ?_, by simp [putE, hm.size], fun i e k v' he hl' => ?_, fun i j e f he hf' hkey => ?_⟩
  ·simp [Instr.mapUpdate, run_underlying ht, MapKept.run_getObj_map hm.heap, K.check w _ hlu, f1, MapKept.run_setObj_map _ hm.heap, Result.andThen]
  ·rw [Array.getElem?_push] at he
   split at he
   ·rename_i hi
    cases he
    rw [putE, List.getElem?_append_right (by rw [hi, hm.size]; exact Nat.le_refl _), hi, hm.size] at hl'
    simp at hl'
    obtain ⟨rfl, rfl⟩ := hl'
    exact ⟨hkp, hx⟩
   ·have hi := (Array.getElem?_eq_some_iff.1 he).1
    rw [putE, List.getElem?_append_left (by have := hm.size; omega)] at hl'
    exact hm.rep i e k v' he hl'
  ·rw [Array.getElem?_push] at he hf'
   split at he
   ·rename_i hi
    split at hf'
    ·rename_i hj; rw [hi, hj]
    ·cases he
     exact absurd hkey.symm (f2 j f hf')
   ·split at hf'
    ·cases hf'
     exact absurd hkey (f2 i e he)
    ·exact hm.uniq i j e f he hf' hkey
 | some q =>
  obtain ⟨m, v0⟩ := q
  obtain ⟨e0, g1, g2, g3, g4⟩ := hf
  have hml := (Array.getElem?_eq_some_iff.1 g1).1
  refine ⟨es.modify m fun e => { e with key := u, val := x }, cl, ?_, by simp [putE, hm.size], fun i e k v' he hl' => ?_, fun i j e f he hf' hkey => ?_⟩
  ·simp [Instr.mapUpdate, run_underlying ht, MapKept.run_getObj_map hm.heap, K.check w _ hlu, g4, g1, g2, K.stays w hlu, MapKept.run_setObj_map _ hm.heap, Result.andThen]
  ·rw [Array.getElem?_modify] at he
   rw [putE, List.getElem?_set] at hl'
   by_cases hi : m = i
   ·subst hi
    rw [if_pos rfl, g1] at he
    rw [if_pos rfl, if_pos (by rw [← hm.size]; exact hml)] at hl'
    simp at he hl'
    obtain ⟨rfl, rfl⟩ := hl'
    subst he
    exact ⟨hkp, hx⟩
   ·rw [if_neg hi] at he hl'
    exact hm.rep i e k v' he hl'
  ·have key : ∀ (i : Nat) e, (es.modify m fun e => { e with key := u, val := x })[i]? = some e → ∃ e', es[i]? = some e' ∧ e'.key = e.key := fun i e he => by
    rw [Array.getElem?_modify] at he
    by_cases hi : m = i
    ·subst hi
     rw [if_pos rfl, g1] at he
     simp at he
     subst he
     exact ⟨e0, g1, g2⟩
    ·rw [if_neg hi] at he
     exact ⟨e, he, rfl⟩
   obtain ⟨e1, a1, a2⟩ := key i e he
   obtain ⟨f1, b1, b2⟩ := key j f hf'
   exact hm.uniq i j e1 f1 a1 b1 (by rw [a2, b2]; exact hkey)
end
theorem Mj (id : Id) (b : Blk) : List.lookup id [(id, b)] = some b := by simp
theorem Zey {id i : Id} {b c : Blk} (h : List.lookup i [(id, b)] = some c) : i = id ∧ b = c := by
 rw [List.lookup_cons] at h
 split at h
 ·rename_i he; exact ⟨by simpa using he, by simpa using h⟩
 ·simp at h
def KA (P : Program) (K : Act → World → Prop) (a : Act) (o : Oper) (γ : Hand) (w : World) (X : Own) (s : Sto) (news : Sto) (av : AV) : Prop :=
 ∀ v γ' w' X', Evo γ w X γ' w' X' → StoOk P γ' w' X' s → (∀ id h, γ id = some h → γ' id = some h) → (∀ id h, γ' id = some h → γ id = some h ∨ ∃ b, news.lookup id = some b) →
  (∀ id b, news.lookup id = some b → (γ' id).isSome) → RepA γ' w' X' v av → K (a.put o.dst v) w'
section
variable {P : Program} {K : Act → World → Prop} {Q : Exit → Act → World → Prop} {a : Act} {o : Oper} {γ : Hand} {w : World} {X : Own} {s : Sto}
theorem Zt {av : AV} {v : Value} (hs : StoOk P γ w X s) (hr : (execOp a.eval o).run P w = .ok (.value v) w) (hv : RepA γ w X v av) (hK : KA P K a o γ w X s [] av) : o.wp P a w K Q := by
 unfold Oper.wp
 rw [hr]
 exact hK v γ w X (Evo.refl _ _ _) hs (fun _ _ h => h) (fun _ _ h => .inl h) (fun _ _ h => by cases h) hv
theorem RepA.un {v : Value} {av : AV} (h : RepA γ w X v av) {g : Bool} (hg : g = true) : RepA γ w X v (av.un g) := by
 subst hg
 cases h with
 | whT h => simpa [AV.un] using h
 | whF x => simp [AV.un]; exact .top _
 | p h => exact .p h
 | top => exact .top _
 | ref id off b h => exact .ref id off b h
 | er id sz i off b oo len cap h => exact .er id sz i off b oo len cap h
 | ap id v h hz => exact .ap id v h hz
 | ap0 id a h => exact .ap0 id a h
 | part id sz lo hi a c h => exact .part id sz lo hi a c h
 | bpt id off n b h => exact .bpt id off n b h
 | clip a sz nl l h => exact .clip a sz nl l h
 | yld id l h => exact .yld id l h
 | mp id r h => exact .mp id r h
 | mth f vs cs hl h => exact .mth f vs cs hl h
 | agg vs cs hl h => exact .agg vs cs hl h
 | tup vs cs hl h => exact .tup vs cs hl h
 | fn f vs cs hl h => exact .fn f vs cs hl h
theorem RepA.getP {v : Value} {av : AV} {x : PV} (h : RepA γ w X v av) (hx : av.getP = some x) : Rep w X v x := by
 cases h <;> simp [AV.getP] at hx
 subst hx; assumption
theorem RepA.ofP {v : Value} {x : PV} (h : RepA γ w X v (.p x)) : Rep w X v x := by cases h; assumption
theorem Rep.boolI {v : Value} {b : Bool} (h : Rep w X v (.bool b)) : v = .bool b := by cases h; rfl
theorem Rep.intI {v : Value} {k : IntKind} {n : Int} (h : Rep w X v (.int k n)) : v = .int k n := by cases h; rfl
theorem Rep.strI {v : Value} {b : ByteArray} (h : Rep w X v (.str b)) : v = .string b := by cases h; rfl
theorem Zcl : ∀ {cs : List AV} {l : List PV}, AV.allP cs = some l → l.length = cs.length ∧ ∀ (i : Nat) c, l[i]? = some c → cs[i]? = some (.p c)
 | [], l, h => by simp [AV.allP] at h; subst h; simp
 | a :: r, l, h => by
  cases a with
  | p v =>
   simp only [AV.allP] at h
   cases hr : AV.allP r with
   | none => simp [hr] at h
   | some l' =>
    simp [hr] at h
    subst h
    obtain ⟨h1, h2⟩ := Zcl hr
    refine ⟨by simp [h1], fun i c hc => ?_⟩
    cases i with
    | zero => simp at hc; subst hc; simp
    | succ i => simpa using h2 i c (by simpa using hc)
  | _ => simp [AV.allP] at h
theorem RepA.mkAgg {vs : Array Value} {cs : List AV} (hl : vs.size = cs.length) (h : ∀ (i : Nat) v c, vs[i]? = some v → cs[i]? = some c → RepA γ w X v c) : RepA γ w X (.agg vs) (AV.mkAgg cs) := by
 unfold AV.mkAgg
 split
 ·rename_i l hl'
  obtain ⟨h1, h2⟩ := Zcl hl'
  exact .p (.agg vs l (by omega) fun i v c hv hc => (h i v _ hv (h2 i c hc)).ofP)
 ·exact .agg vs cs hl h
theorem RepA.mkTup {vs : Array Value} {cs : List AV} (hl : vs.size = cs.length) (h : ∀ (i : Nat) v c, vs[i]? = some v → cs[i]? = some c → RepA γ w X v c) : RepA γ w X (.tuple vs) (AV.mkTup cs) := by
 unfold AV.mkTup
 split
 ·rename_i l hl'
  obtain ⟨h1, h2⟩ := Zcl hl'
  exact .p (.tup vs l (by omega) fun i v c hv hc => (h i v _ hv (h2 i c hc)).ofP)
 ·exact .tup vs cs hl h
theorem RepA.mkFn {f : Nat} {vs : Array Value} {cs : List AV} (hl : vs.size = cs.length) (h : ∀ (i : Nat) v c, vs[i]? = some v → cs[i]? = some c → RepA γ w X v c) : RepA γ w X (.func (.func f) #[] vs) (AV.mkFn f cs) := by
 unfold AV.mkFn
 split
 ·rename_i l hl'
  obtain ⟨h1, h2⟩ := Zcl hl'
  exact .p (.fn f vs l (by omega) fun i v c hv hc => (h i v _ hv (h2 i c hc)).ofP)
 ·exact .fn f vs cs hl h
theorem RepA.cells {v : Value} {av : AV} (h : RepA γ w X v av) (h1 : ∀ id v, γ id = some v → v.oneCell' = true) (hc : av.cells.all AV.cell1 = true) :
  v.cells.size = av.cells.length ∧ (∀ (i : Nat) u c, v.cells[i]? = some u → av.cells[i]? = some c → RepA γ w X u c) ∧ ∀ u ∈ v.cells, u.oneCell' = true := by
 have one : ∀ (v : Value) (av : AV), av.cell1 = true → av.cells = [av] → RepA γ w X v av →
   v.cells.size = av.cells.length ∧ (∀ (i : Nat) u c, v.cells[i]? = some u → av.cells[i]? = some c → RepA γ w X u c) ∧ ∀ u ∈ v.cells, u.oneCell' = true := by
  intro v av hcell he hr
  have hv := hr.oneCell hcell h1
  have hvc : v.cells = #[v] := by cases v <;> simp_all [Value.oneCell', Value.cells]
  rw [hvc, he]
  refine ⟨rfl, fun i u c hu hc => ?_, fun u hu => by simp at hu; subst hu; exact hv⟩
  cases i with
  | zero => simp at hu hc; subst hu; subst hc; exact hr
  | succ i => simp at hu
 cases h with
 | p h =>
  rename_i x
  by_cases hx : ∃ cs, x = .agg cs
  ·obtain ⟨cs, rfl⟩ := hx
   cases h with
   | agg vs cs hl hh =>
    simp only [AV.cells, PV.cells, List.length_map, Value.cells, List.all_map] at hc ⊢
    refine ⟨hl, fun i u c hu hc' => ?_, fun u hu => ?_⟩
    ·simp only [List.getElem?_map, Option.map_eq_some_iff] at hc'
     obtain ⟨c', hc', rfl⟩ := hc'
     exact .p (hh i u c' hu hc')
    ·obtain ⟨i, hi⟩ := Array.getElem?_of_mem hu
     have hlt : i < cs.length := by have := (Array.getElem?_eq_some_iff.1 hi).1; omega
     have := List.all_eq_true.1 hc cs[i] (List.getElem_mem hlt)
     exact (hh i u cs[i] hi (List.getElem?_eq_getElem hlt)).oneCell (by simpa [AV.cell1] using this)
  ·have he : (AV.p x).cells = [.p x] := by cases x <;> simp_all [AV.cells, PV.cells]
   rw [he] at hc
   exact one v _ (by simpa using hc) he (.p h)
 | top => simp [AV.cells, AV.cell1] at hc
 | whT => simp [AV.cells, AV.cell1] at hc
 | whF => simp [AV.cells, AV.cell1] at hc
 | ref id off b h => exact one _ _ rfl rfl (.ref id off b h)
 | er id sz i off b oo len cap h => exact one _ _ rfl rfl (.er id sz i off b oo len cap h)
 | ap id v h hz => exact one _ _ rfl rfl (.ap id v h hz)
 | ap0 id a h => exact one _ _ rfl rfl (.ap0 id a h)
 | part => simp [AV.cells, AV.cell1] at hc
 | bpt => simp [AV.cells, AV.cell1] at hc
 | clip => simp [AV.cells, AV.cell1] at hc
 | mth => simp [AV.cells, AV.cell1] at hc
 | yld id l h => exact one _ _ rfl rfl (.yld id l h)
 | mp id r h => exact one _ _ rfl rfl (.mp id r h)
 | fn f vs cs hl h => exact one _ _ rfl rfl (.fn f vs cs hl h)
 | tup vs cs hl h => simp [AV.cells, AV.cell1] at hc
 | agg vs cs hl h =>
  simp only [AV.cells] at hc ⊢
  refine ⟨hl, fun i u c hu hc' => h i u c (by simpa [Value.cells] using hu) hc', fun u hu => ?_⟩
  obtain ⟨i, hi⟩ := Array.getElem?_of_mem (show u ∈ vs from hu)
  have hlt : i < cs.length := by have := (Array.getElem?_eq_some_iff.1 hi).1; omega
  exact (h i u cs[i] hi (List.getElem?_eq_getElem hlt)).oneCell (List.all_eq_true.1 hc cs[i] (List.getElem_mem hlt)) h1
theorem opd_rep {x : Operand} {y : Opd} {e : Env} (hm : mopd x y = true) (hE : ∀ t av, y = .t t → e.lookup t = some av → ∃ v, a.tmps[t]? = some v ∧ RepA γ w X v av) {av : AV}
  (h : (match y with | .t i => e.lookup i | .c v => some (.p v)) = some av) : RepA γ w X (a.eval x) av := by
 unfold mopd at hm
 split at hm
 ·simp at hm; subst hm
  obtain ⟨v, hv, hr⟩ := hE _ av rfl h
  simpa [Act.eval, hv] using hr
 ·simp at h; subst h; exact .p (cst_rep hm w X).1
 ·simp at hm; subst hm; simp at h; subst h; exact .p (.fn _ #[] [] rfl (by simp))
 ·cases hm
theorem Z73 {α : Type} {lo hi i : Nat} {l : List α} {c : α} (h : (seg lo hi l)[i]? = some c) : l[lo + i]? = some c ∧ i < hi - lo := by
 unfold seg at h
 rw [List.getElem?_take] at h
 split at h
 ·rw [List.getElem?_drop] at h; exact ⟨h, by assumption⟩
 ·cases h
theorem Z2g {α : Type} {lo hi : Nat} {l : List α} (h : hi ≤ l.length) (h2 : lo ≤ hi) : (seg lo hi l).length = hi - lo := by
 simp [seg]; omega
end
theorem nat?_some {p : Option PV} {n : Nat} (h : nat? p = some n) : ∃ k i, p = some (.int k i) ∧ 0 ≤ i ∧ i.toNat = n := by
 unfold nat? at h
 split at h
 ·rename_i k i
  split at h
  ·simp at h; exact ⟨k, i, rfl, by assumption, h⟩
  ·cases h
 ·cases h
section
variable {P : Program} {K : Act → World → Prop} {Q : Exit → Act → World → Prop} {a : Act} {o : Oper} {γ : Hand} {w : World} {X : Own} {s : Sto}
variable {C : Call} {π : Id} {e : Env} {s0 : Sto} {g : Bool} {d : Nat} {av : AV} {news : Sto} {iop : IOp}
def OpsOk (γ : Hand) (w : World) (X : Own) (a : Act) (e : Env) (l : List Opd) : Prop :=
 ∀ x y av, y ∈ l → mopd x y = true → evA.raw e y = some av → RepA γ w X (a.eval x) av
theorem OpsOk.x' {l : List Opd} (H : OpsOk γ w X a e l) (hg : g = true) {x : Operand} {y : Opd} (hm : mopd x y = true) {av : AV} (h : evA.x' e g y = some av) (hy : y ∈ l) : RepA γ w X (a.eval x) av := by
 unfold evA.x' at h
 rw [Option.map_eq_some_iff] at h
 obtain ⟨b, hb, rfl⟩ := h
 exact (H x y b hy hm hb).un hg
theorem OpsOk.pv {l : List Opd} (H : OpsOk γ w X a e l) (hg : g = true) {x : Operand} {y : Opd} (hm : mopd x y = true) {c : PV} (h : evA.pv e g y = some c) (hy : y ∈ l) : Rep w X (a.eval x) c := by
 unfold evA.pv at h
 rw [Option.bind_eq_some_iff] at h
 obtain ⟨b, hb, hc⟩ := h
 exact (H.x' hg hm hb hy).getP hc
theorem pick_rep {c : Bool} {x y : AV} {v u : Value} (hx : c = true → RepA γ w X v x) (hy : c = false → RepA γ w X u y) : RepA γ w X (if c then v else u) (pickAV c x y) := by
 cases c with
 | true =>
  have hx := hx rfl
  simp only [if_true]
  unfold pickAV
  split
  ·exact hx
  ·split <;> exact hx
  ·exact hx
 | false =>
  have hy := hy rfl
  simp only [Bool.false_eq_true, if_false]
  unfold pickAV
  split
  ·exact hy
  ·split
   ·rename_i hk; subst hk; exact hy
   ·exact hy
  ·exact hy
theorem Zbo : ∀ (x y : List UInt8), bytesLess x y = Op.bytesLess x y
 | [], [] => rfl
 | _ :: _, [] => rfl
 | [], _ :: _ => rfl
 | a :: x, b :: y => by simp only [bytesLess, Op.bytesLess, Zbo x y]
theorem ibits_run {op : BinOp} {k : IntKind} {x y n : Int} (h : ibits op k x y = some n) : (Op.intBits op k x y).run P w = .ok (.int k n) w := by
 unfold ibits at h
 split at h <;> simp at h <;> subst h <;> simp [Op.intBits]
theorem bin_run {op : BinOp} {t : TypeId} {x y r : PV} {v u : Value} (hv : Rep w X v x) (hu : Rep w X u y) (h : binPV op x y = some r) : ∃ z, (binOp op t v u).run P w = .ok z w ∧ Rep w X z r := by
 unfold binPV at h
 split at h
 ·rename_i k m k' n
  have := hv.intI; subst this
  have := hu.intI; subst this
  split at h
  ·split at h
   ·cases h
   ·rename_i hn
    simp at h; subst h
    refine ⟨_, ?_, .int _ _⟩; simp [binOp, Op.shift, hn]
  ·split at h
   ·cases h
   ·rename_i hn
    simp at h; subst h
    refine ⟨_, ?_, .int _ _⟩; simp [binOp, Op.shift, hn]
  all_goals
   split at h
   case isFalse => cases h
   rename_i hk
   subst hk
  case h_6 =>
   split at h
   ·cases h
   ·rename_i hn; simp at h; subst h; refine ⟨_, ?_, .int _ _⟩; simp [binOp, Op.intDiv, hn]
  case h_7 =>
   split at h
   ·cases h
   ·rename_i hn; simp at h; subst h; refine ⟨_, ?_, .int _ _⟩; simp [binOp, Op.intDiv, hn]
  case h_14 =>
   rw [Option.map_eq_some_iff] at h
   obtain ⟨n', hn', rfl⟩ := h
   have hr := ibits_run (P := P) (w := w) hn'
   refine ⟨_, ?_, .int _ _⟩
   cases op <;> first | (simp [ibits] at hn'; done) | (simp only [binOp, ne_eq, not_true_eq_false, if_false]; exact hr)
  all_goals
   simp at h
   subst h
   first
    | (refine ⟨_, ?_, .int _ _⟩; simp [binOp, Op.intArith]; done)
    | (refine ⟨_, ?_, .bool _⟩; simp [binOp, Op.intCmp]; done)
 ·rename_i m n
  have := hv.strI; subst this
  have := hu.strI; subst this
  split at h
  all_goals first
   | (cases h; done)
   | (simp at h; subst h; refine ⟨_, ?_, .bool _⟩; simp [binOp, Op.stringOp, Zbo]; done)
   | skip
  all_goals
   split at h
   ·rename_i hle
    simp at h; subst h
    refine ⟨_, ?_, .str _⟩
    have : ¬ (((m.size + n.size : Nat) : Int) > IntKind.i64.max) := by
     have : IntKind.i64.max = 9223372036854775807 := by decide
     omega
    simp only [binOp, Op.stringOp, this, if_false]
    rfl
   ·cases h
 ·cases h
theorem un_run {op : UnOp} {x r : PV} {v : Value} (hv : Rep w X v x) (h : unPV op x = some r) : ∃ z, (Op.unary op v).run P w = .ok z w ∧ Rep w X z r := by
 unfold unPV at h
 split at h
 ·have := hv.boolI; subst this
  split at h
  ·simp at h; subst h; exact ⟨_, rfl, .bool _⟩
  ·cases h
 ·have := hv.intI; subst this
  split at h
  ·simp at h; subst h; refine ⟨_, ?_, .int _ _⟩; simp [Op.unary, Op.intArith]
  ·rw [Option.map_eq_some_iff] at h
   obtain ⟨n', hn', rfl⟩ := h
   exact ⟨_, by simpa [Op.unary] using ibits_run (P := P) (w := w) hn', .int _ _⟩
  ·cases h
 ·cases h
theorem eqGuard_int (op : BinOp) (t : TypeId) (x y : Operand) {v u : Value} {p q : PV} (hv : Rep w X v p) (hu : Rep w X u q) (h : (binPV op p q).isSome = true) : (eqGuard op t x y v u).run P w = .ok () w := by
 unfold binPV at h
 split at h
 ·have := hv.intI; subst this
  have := hu.intI; subst this
  unfold eqGuard; split <;> simp
 ·have := hv.strI; subst this
  have := hu.strI; subst this
  unfold eqGuard; split <;> simp
 ·cases h
end
section
variable {P : Program} {K : Act → World → Prop} {Q : Exit → Act → World → Prop} {a : Act} {o : Oper} {γ : Hand} {w : World} {X : Own} {s : Sto}
variable {C : Call} {π : Id} {e : Env} {s0 : Sto} {g : Bool} {d : Nat} {av : AV} {news : Sto} {iop : IOp}
def PureOk (P : Program) (C : Call) (π : Id) (iop : IOp) : Prop :=
 ∀ (K : Act → World → Prop) (Q : Exit → Act → World → Prop) (a : Act) (o : Oper) (γ : Hand) (w : World) (X : Own) (s : Sto) (e : Env) (s0 : Sto) (g : Bool) (d : Nat) (av : AV) (news : Sto),
  evA C π e s0 g d iop = some (av, news) → mop P o.op iop = true → g = true → OpsOk γ w X a e iop.opds → StoOk P γ w X s → (∀ id b, s0.lookup id = some b → s.lookup id = some b) →
  KA P K a o γ w X s news av → o.wp P a w K Q
theorem map_some {α β : Type} {x : Option α} {f : α → β} {b : β} (h : x.map f = some b) : ∃ y, x = some y ∧ f y = b := by simpa using h
theorem ok_mv (x : Opd) : PureOk P C π (.mv x) := by
 intro K Q a o γ w X s e s0 g d av news h hm hg H hs sub hK
 obtain ⟨dst, op, type, pos, after, guard⟩ := o
 simp only [evA] at h
 obtain ⟨b, hb, he⟩ := map_some h
 simp at he; obtain ⟨rfl, rfl⟩ := he
 simp only [mop] at hm
 split at hm <;> first | (cases hm; done) | exact Zt hs (by simp [execOp]) (H.x' hg hm hb (by simp [IOp.opds])) hK
theorem ok_pick (c x y : Opd) : PureOk P C π (.pick c x y) := by
 intro K Q a o γ w X s e s0 g d av news h hm hg H hs sub hK
 obtain ⟨dst, op, type, pos, after, guard⟩ := o
 simp only [evA] at h
 simp only [mop] at hm
 split at hm
 case h_2 => cases hm
 rename_i c' x' y'
 simp only [Bool.and_eq_true] at hm
 obtain ⟨⟨hc, hx⟩, hy⟩ := hm
 split at h
 case h_2 => cases h
 rename_i b hb
 split at h
 case h_2 => cases h
 rename_i av1 av2 h1 h2
 simp at h; obtain ⟨rfl, rfl⟩ := h
 have hb' := (H.x' hg hc hb (by simp [IOp.opds])).ofP.boolI
 refine Zt (v := if b then a.eval x' else a.eval y') hs (by simp only [execOp, hb', asBool, Sem.run_bind, Sem.run_pure, Result.andThen_ok]) (pick_rep (fun hb1 => ?_) (fun hb1 => ?_)) hK
 ·exact (H _ _ _ (by simp [IOp.opds]) hx h1).un (by simp [hg, hb1])
 ·exact (H _ _ _ (by simp [IOp.opds]) hy h2).un (by simp [hg, hb1])
theorem ok_bin (b : BinOp) (x y : Opd) : PureOk P C π (.bin b x y) := by
 intro K Q a o γ w X s e s0 g d av news h hm hg H hs sub hK
 obtain ⟨dst, op, type, pos, after, guard⟩ := o
 simp only [evA] at h
 simp only [mop] at hm
 split at hm
 case h_2 => cases hm
 rename_i b' t x' y' yt
 simp only [Bool.and_eq_true, beq_iff_eq] at hm
 obtain ⟨⟨rfl, hx⟩, hy⟩ := hm
 split at h
 case h_2 => cases h
 rename_i p q hp hq
 obtain ⟨r, hr, he⟩ := map_some h
 simp at he; obtain ⟨rfl, rfl⟩ := he
 have h1 := H.pv hg hx hp (by simp [IOp.opds])
 have h2 := H.pv hg hy hq (by simp [IOp.opds])
 obtain ⟨z, hz, hrep⟩ := bin_run (P := P) (t := t) h1 h2 hr
 have hge := eqGuard_int (P := P) (w := w) b' t x' y' h1 h2 (by rw [hr]; rfl)
 exact Zt hs (by simp only [execOp, Sem.run_bind, hge, Result.andThen_ok, hz, Sem.run_pure]) (.p hrep) hK
theorem ok_beq (n : Bool) (x y : Opd) : PureOk P C π (.beq n x y) := by
 intro K Q a o γ w X s e s0 g d av news h hm hg H hs sub hK
 obtain ⟨dst, op, type, pos, after, guard⟩ := o
 simp only [evA] at h
 simp only [mop] at hm
 split at hm
 case h_2 => cases hm
 rename_i op' t x' y' yt
 simp only [Bool.and_eq_true, beq_iff_eq] at hm
 obtain ⟨⟨⟨rfl, ht⟩, hx⟩, hy⟩ := hm
 split at h
 case h_2 => cases h
 rename_i p q hp hq
 simp at h; obtain ⟨rfl, rfl⟩ := h
 have h1 := (H.pv hg hx hp (by simp [IOp.opds])).boolI
 have h2 := (H.pv hg hy hq (by simp [IOp.opds])).boolI
 split at ht
 case h_2 => cases ht
 rename_i hu
 have heq : ∀ c d : Bool, (Op.equal t (.bool c) (.bool d)).run P w = .ok (c == d) w := fun c d => by
  have : Op.equal t (.bool c) (.bool d) = Op.equalIn (Nat.succ 9999) t (.bool c) (.bool d) := rfl
  rw [this, Op.equalIn]
  simp only [Sem.run_bind, run_underlying hu, Result.andThen_ok, Sem.run_pure]
 refine Zt (v := .bool ((p == q) != n)) hs ?_ (.p (.bool _)) hK
 cases n <;> simp [execOp, h1, h2, eqGuard, binOp, heq]
theorem ok_un (b : UnOp) (x : Opd) : PureOk P C π (.un b x) := by
 intro K Q a o γ w X s e s0 g d av news h hm hg H hs sub hK
 obtain ⟨dst, op, type, pos, after, guard⟩ := o
 simp only [evA] at h
 simp only [mop] at hm
 split at hm
 case h_2 => cases hm
 simp only [Bool.and_eq_true, beq_iff_eq] at hm
 obtain ⟨rfl, hx⟩ := hm
 split at h
 case h_2 => cases h
 rename_i p hp
 obtain ⟨r, hr, he⟩ := map_some h
 simp at he; obtain ⟨rfl, rfl⟩ := he
 obtain ⟨z, hz, hrep⟩ := un_run (P := P) (H.pv hg hx hp (by simp [IOp.opds])) hr
 exact Zt hs (by simp only [execOp, Sem.run_bind, hz, Result.andThen_ok, Sem.run_pure]) (.p hrep) hK
theorem ok_conv (k : IntKind) (x : Opd) : PureOk P C π (.conv k x) := by
 intro K Q a o γ w X s e s0 g d av news h hm hg H hs sub hK
 obtain ⟨dst, op, type, pos, after, guard⟩ := o
 simp only [evA] at h
 simp only [mop] at hm
 split at hm
 case h_2 => cases hm
 simp only [Bool.and_eq_true] at hm
 obtain ⟨ht, hx⟩ := hm
 split at h
 case h_2 => cases h
 rename_i k' n hp
 simp at h; obtain ⟨rfl, rfl⟩ := h
 split at ht
 case h_2 => cases ht
 rename_i hu1 hu2
 simp at ht; subst ht
 have h1 := (H.pv hg hx hp (by simp [IOp.opds])).intI
 refine Zt (v := .int _ _) hs ?_ (.p (.int _ _)) hK
 simp [execOp, h1, convert, run_underlying hu1, run_underlying hu2, Conv.intToInt]
theorem ok_ext (x : Opd) (i : Nat) : PureOk P C π (.ext x i) := by
 intro K Q a o γ w X s e s0 g d av news h hm hg H hs sub hK
 obtain ⟨dst, op, type, pos, after, guard⟩ := o
 simp only [evA] at h
 simp only [mop] at hm
 split at hm
 case h_2 => cases hm
 rename_i x' i'
 simp only [Bool.and_eq_true, beq_iff_eq] at hm
 obtain ⟨rfl, hx⟩ := hm
 split at h
 ·rename_i vs hp
  obtain ⟨c, hc, he⟩ := map_some h
  simp at he; obtain ⟨rfl, rfl⟩ := he
  have h1 := (H.x' hg hx hp (by simp [IOp.opds])).ofP
  generalize hv : a.eval _ = v at h1
  cases h1 with
  | tup us cs hl hh =>
   have hlt : i' < us.size := by have := (List.getElem?_eq_some_iff.1 hc).1; omega
   have hu : us[i']? = some us[i'] := Array.getElem?_eq_getElem hlt
   exact Zt hs (by simp [execOp, hv, Instr.extract, hu]) (.p (hh i' _ _ hu hc)) hK
 ·rename_i vs hp
  obtain ⟨c, hc, he⟩ := map_some h
  simp at he; obtain ⟨rfl, rfl⟩ := he
  have h1 := H.x' hg hx hp (by simp [IOp.opds])
  generalize hv : a.eval _ = v at h1
  cases h1 with
  | tup us cs hl hh =>
   have hlt : i' < us.size := by have := (List.getElem?_eq_some_iff.1 hc).1; omega
   have hu : us[i']? = some us[i'] := Array.getElem?_eq_getElem hlt
   exact Zt hs (by simp [execOp, hv, Instr.extract, hu]) (hh i' _ _ hu hc) hK
 ·cases h
theorem Zbh {t : TypeId} {i : Nat} {f : Field} (h : Zhh P t i = some f) : ∃ fs, P.underlying t = some (.struct fs) ∧ fs[i]? = some f := by
 unfold Zhh at h
 split at h
 ·rename_i fs hu; exact ⟨fs, hu, h⟩
 ·cases h
theorem Zcc {us : Array Value} {cs : List AV} (hl : us.size = cs.length) (hh : ∀ (i : Nat) v c, us[i]? = some v → cs[i]? = some c → RepA γ w X v c) {t : TypeId} {off sz : Nat} {ag : Bool}
  (hsz : szB P t = some sz) (hag : agB P t = some ag) (hle : off + sz ≤ cs.length) (h1 : ag = true ∨ sz = 1) :
  ∃ z, (part t us off).run P w = .ok z w ∧ ((ag = true ∧ ∃ us' : Array Value, z = .agg us' ∧ us'.size = (seg off (off + sz) cs).length ∧ ∀ (i : Nat) v c, us'[i]? = some v → (seg off (off + sz) cs)[i]? = some c → RepA γ w X v c) ∨
   (ag = false ∧ ∀ c, cs[off]? = some c → RepA γ w X z c)) := by
 cases ag with
 | true =>
  refine ⟨.agg (us.extract off (off + sz)), by simp [part, Z8e hag, Wy hsz], .inl ⟨rfl, _, rfl, ?_, fun i v c hv hc => ?_⟩⟩
  ·rw [Z2g hle (by omega)]; simp; omega
  ·obtain ⟨hc1, hc2⟩ := Z73 hc
   have : us[off + i]? = some v := by
    rw [Array.getElem?_extract] at hv
    split at hv
    ·exact hv
    ·cases hv
   exact hh _ v c this hc1
 | false =>
  have hsz1 : sz = 1 := by simpa using h1
  subst hsz1
  have hlt : off < us.size := by omega
  have hu : us[off]? = some us[off] := Array.getElem?_eq_getElem hlt
  exact ⟨us[off], by simp [part, Z8e hag, hu], .inr ⟨rfl, fun c hc => hh off _ c hu hc⟩⟩
theorem ok_fld (x : Opd) (off sz : Nat) (ag : Bool) : PureOk P C π (.fld x off sz ag) := by
 intro K Q a o γ w X s e s0 g d av news h hm hg H hs sub hK
 obtain ⟨dst, op, type, pos, after, guard⟩ := o
 simp only [evA] at h
 simp only [mop] at hm
 split at hm
 case h_2 => cases hm
 rename_i t x' i
 simp only [Bool.and_eq_true] at hm
 obtain ⟨⟨hf, h1⟩, hx⟩ := hm
 have h1' : ag = true ∨ sz = 1 := by simpa using h1
 split at hf
 case h_2 => cases hf
 rename_i f hfo
 simp only [Bool.and_eq_true, beq_iff_eq] at hf
 obtain ⟨⟨rfl, hsz⟩, hag⟩ := hf
 obtain ⟨fs, hu, hfs⟩ := Zbh hfo
 have run : ∀ us z, a.eval x' = .agg us → (part f.type us f.offset).run P w = .ok z w → (execOp a.eval ⟨dst, .field t x' i, type, pos, after, guard⟩).run P w = .ok (.value z) w := by
  intro us z hv hp
  simp [execOp, hv, Instr.field, run_underlying hu, hfs, asAgg, hp]
 split at h
 ·rename_i cs hp
  split at h
  case isFalse => cases h
  rename_i hle
  have hr := (H.x' hg hx hp (by simp [IOp.opds])).ofP
  generalize hv : a.eval _ = v at hr
  cases hr with
  | agg us cs hl hh =>
   obtain ⟨z, hz, hz2⟩ := Zcc (P := P) (γ := γ) (w := w) (X := X) (us := us) (cs := cs.map .p) (by simpa using hl) (fun i v c hv hc => by
    simp only [List.getElem?_map, Option.map_eq_some_iff] at hc
    obtain ⟨c', hc', rfl⟩ := hc
    exact .p (hh i v c' hv hc')) hsz hag (by simpa using hle) h1'
   rcases hz2 with ⟨rfl, us', rfl, hl', hh'⟩ | ⟨rfl, hz2⟩
   ·simp at h; obtain ⟨rfl, rfl⟩ := h
    refine Zt hs (run us _ hv hz) (.p (.agg us' _ (by simpa [seg] using hl') fun i v c hv hc => ?_)) hK
    have : (seg f.offset (f.offset + sz) (cs.map AV.p))[i]? = some (.p c) := by
     have : seg f.offset (f.offset + sz) (cs.map AV.p) = (seg f.offset (f.offset + sz) cs).map AV.p := by simp [seg, List.map_drop, List.map_take]
     rw [this]; simp [hc]
    exact (hh' i v _ hv this).ofP
   ·simp at h
    obtain ⟨c, hc, rfl, rfl⟩ := h
    exact Zt hs (run us _ hv hz) (hz2 _ (by simp [hc])) hK
 ·rename_i cs hp
  split at h
  case isFalse => cases h
  rename_i hle
  have hr := H.x' hg hx hp (by simp [IOp.opds])
  generalize hv : a.eval _ = v at hr
  cases hr with
  | agg us cs hl hh =>
   obtain ⟨z, hz, hz2⟩ := Zcc (P := P) hl hh hsz hag hle h1'
   rcases hz2 with ⟨rfl, us', rfl, hl', hh'⟩ | ⟨rfl, hz2⟩
   ·simp at h; obtain ⟨rfl, rfl⟩ := h
    exact Zt hs (run us _ hv hz) (RepA.mkAgg hl' hh') hK
   ·simp at h
    obtain ⟨c, hc, rfl, rfl⟩ := h
    exact Zt hs (run us _ hv hz) (hz2 _ hc) hK
 ·cases h
theorem ok_fa (x : Opd) (off : Nat) : PureOk P C π (.fa x off) := by
  intro K Q a o γ w X s e s0 g d av news h hm hg H hs sub hK
  obtain ⟨dst, op, type, pos, after, guard⟩ := o
  simp only [evA] at h
  simp only [mop] at hm
  split at hm
  case h_2 => cases hm
  rename_i t x' i
  simp only [Bool.and_eq_true] at hm
  obtain ⟨hf, hx⟩ := hm
  split at hf
  case h_2 => cases hf
  rename_i f hfo
  simp only [Bool.and_eq_true, beq_iff_eq] at hf
  obtain ⟨rfl, hn⟩ := hf
  split at hn
  case h_2 => cases hn
  rename_i n hsz
  have hn0 : n ≠ 0 := by have : 0 < n := by simpa using hn
                         omega
  obtain ⟨fs, hu, hfs⟩ := Zbh hfo
  have run : ∀ b o', a.eval x' = .pointer (some ⟨b, o', none⟩) → (execOp a.eval ⟨dst, .fieldAddr t x' i, type, pos, after, guard⟩).run P w = .ok (.value (.pointer (some ⟨b, o' + f.offset, none⟩))) w := by
    intro b o' hv
    simp [execOp, hv, Instr.fieldAt, run_underlying hu, hfs, Instr.sureAddr, fieldPlace, Wy hsz, hn0, Addr.add_lit]
  split at h
  · rename_i cs hp
    simp at h; obtain ⟨rfl, rfl⟩ := h
    have hr := (H.x' hg hx hp (by simp [IOp.opds])).ofP
    generalize hv : a.eval _ = v at hr
    cases hr with
    | ptr b o' cs f' hc hh =>
      refine Zt hs (run b o' hv) (.p (.ptr b (o' + f.offset) _ (fun j => f' (f.offset + j)) (fun j c hj => ?_) fun j c hj => ?_)) hK
      · rw [List.getElem?_drop] at hj
        rw [Nat.add_assoc]; exact hc _ c hj
      · rw [List.getElem?_drop] at hj
        exact hh _ c hj
  · rename_i id o' hp
    simp at h; obtain ⟨rfl, rfl⟩ := h
    have hr := H.x' hg hx hp (by simp [IOp.opds])
    generalize hv : a.eval _ = v at hr
    cases hr with
    | ref id off b hb => exact Zt hs (run b o' hv) (.ref id _ b hb) hK
  · rename_i id sz i' o' hp
    simp at h; obtain ⟨rfl, rfl⟩ := h
    have hr := H.x' hg hx hp (by simp [IOp.opds])
    generalize hv : a.eval _ = v at hr
    cases hr with
    | er id sz i off b oo len cap hb =>
      refine Zt hs (run b _ hv) ?_ hK
      rw [Nat.add_assoc, Nat.add_assoc]
      exact .er id sz _ _ b oo len cap hb
  · cases h
end
section
variable {P : Program} {K : Act → World → Prop} {Q : Exit → Act → World → Prop} {a : Act} {o : Oper} {γ : Hand} {w : World} {X : Own} {s : Sto}
variable {C : Call} {π : Id} {e : Env} {s0 : Sto} {g : Bool} {d : Nat} {av : AV} {news : Sto} {iop : IOp}
theorem eq_nil (t : TypeId) {b : Option Addr} {n c : Nat} {el : TypeId} (hu : P.underlying t = some (.slice el)) : (Op.equal t (.slice b n c) (.slice none 0 0)).run P w = .ok b.isNone w := by
 have : Op.equal t (.slice b n c) (.slice none 0 0) = Op.equalIn (Nat.succ 9999) t (.slice b n c) (.slice none 0 0) := rfl
 rw [this, Op.equalIn]
 cases b <;> simp only [Sem.run_bind, run_underlying hu, Result.andThen_ok, Sem.run_pure, Option.isNone]
theorem eq_nilf (t : TypeId) {ps rs : Array TypeId} {vd : Bool} (hu : P.underlying t = some (.func ps rs vd)) : (Op.equal t .nilFunc .nilFunc).run P w = .ok true w := by
 have : Op.equal t .nilFunc .nilFunc = Op.equalIn (Nat.succ 9999) t .nilFunc .nilFunc := rfl
 rw [this, Op.equalIn]
 simp only [Sem.run_bind, run_underlying hu, Result.andThen_ok, Sem.run_pure]
theorem eq_fn (t : TypeId) {ps rs : Array TypeId} {vd : Bool} {f : Fn} {x y : Array Value} (hu : P.underlying t = some (.func ps rs vd)) : (Op.equal t (.func f x y) .nilFunc).run P w = .ok false w := by
 have : Op.equal t (.func f x y) .nilFunc = Op.equalIn (Nat.succ 9999) t (.func f x y) .nilFunc := rfl
 rw [this, Op.equalIn]
 simp only [Sem.run_bind, run_underlying hu, Result.andThen_ok, Sem.run_pure]
theorem ok_isnil (sl n : Bool) (x : Opd) : PureOk P C π (.isnil sl n x) := by
 intro K Q a o γ w X s e s0 g d av news h hm hg H hs sub hK
 obtain ⟨dst, op, type, pos, after, guard⟩ := o
 simp only [evA] at h
 simp only [mop] at hm
 split at hm
 case h_2 => cases hm
 rename_i op' t x' y' yt
 simp only [Bool.and_eq_true, beq_iff_eq] at hm
 obtain ⟨⟨rfl, ht⟩, hx, hy⟩ := hm
 have fin : ∀ (v : Value) (b : Bool) (u : Value), a.eval x' = v → a.eval y' = u →
   (eqGuard (if n = true then BinOp.neq else BinOp.eql) t x' y' v u).run P w = .ok () w →
   (binOp (if n = true then BinOp.neq else BinOp.eql) t v u).run P w = .ok (.bool (b != n)) w → KA P K a ⟨dst, .binOp (if n = true then BinOp.neq else BinOp.eql) t x' y' yt, type, pos, after, guard⟩ γ w X s [] (.p (.bool (b != n))) →
   Oper.wp P ⟨dst, .binOp (if n = true then BinOp.neq else BinOp.eql) t x' y' yt, type, pos, after, guard⟩ a w K Q := by
  intro v b u hv hu h1 h2 hK
  exact Zt (v := .bool (b != n)) hs (by simp only [execOp, hv, hu, Sem.run_bind, h1, h2, Result.andThen_ok, Sem.run_pure]) (.p (.bool _)) hK
 have slice : ∀ (b : Option Addr) (len cap : Nat), sl = true → a.eval x' = .slice b len cap → KA P K a ⟨dst, .binOp (if n = true then BinOp.neq else BinOp.eql) t x' y' yt, type, pos, after, guard⟩ γ w X s [] (.p (.bool (b.isNone != n))) →
   Oper.wp P ⟨dst, .binOp (if n = true then BinOp.neq else BinOp.eql) t x' y' yt, type, pos, after, guard⟩ a w K Q := by
  intro b len cap hsl hv hK
  subst hsl
  split at hy
  ·split at ht
   ·rename_i el hu
    refine fin _ b.isNone (.slice none 0 0) hv (by simp [Act.eval]) ?_ ?_ hK
    ·cases n <;> simp [eqGuard]
    ·cases n <;> simp [binOp, eq_nil t hu]
   ·simp at ht
   ·cases ht
  ·simp at hy
  ·cases hy
 have func : ∀ (v : Value) (b : Bool), sl = false → a.eval x' = v → ((v = .nilFunc ∧ b = true) ∨ (∃ f p q, v = .func f p q) ∧ b = false) → KA P K a ⟨dst, .binOp (if n = true then BinOp.neq else BinOp.eql) t x' y' yt, type, pos, after, guard⟩ γ w X s [] (.p (.bool (b != n))) →
   Oper.wp P ⟨dst, .binOp (if n = true then BinOp.neq else BinOp.eql) t x' y' yt, type, pos, after, guard⟩ a w K Q := by
  intro v b hsl hv hvb hK
  subst hsl
  split at hy
  ·simp at hy
  ·split at ht
   ·simp at ht
   ·rename_i ps rs vd hu
    refine fin v b .nilFunc hv (by simp [Act.eval]) ?_ ?_ hK
    ·rcases hvb with ⟨rfl, _⟩ | ⟨⟨f, p, q, rfl⟩, _⟩ <;> cases n <;> simp [eqGuard]
    ·rcases hvb with ⟨rfl, rfl⟩ | ⟨⟨f, p, q, rfl⟩, rfl⟩ <;> cases n <;> simp [binOp, eq_nilf t hu, eq_fn t hu]
   ·cases ht
  ·cases hy
 split at h
 ·rename_i sz b l hp
  split at h
  case isFalse => cases h
  rename_i hsl
  simp at h; obtain ⟨rfl, rfl⟩ := h
  have hr := (H.x' hg hx hp (by simp [IOp.opds])).ofP
  generalize hv : a.eval _ = v at hr
  cases hr with
  | slE b' cap sz nl h1 h2 h0 hm =>
   have : b'.isNone = b := by
    cases b with
    | true => rw [h1 rfl]; rfl
    | false => have := h2 rfl; cases b' <;> simp_all
   exact slice b' 0 cap hsl hv (by rw [this]; exact hK)
  | slC bb oo cap sz nl l f h1 hn hM hz hc hh =>
   have : b = false := by cases b with | true => exact absurd rfl h1 | false => rfl
   subst this
   exact slice _ _ cap hsl hv hK
 ·rename_i sz y r hp
  split at h
  case isFalse => cases h
  rename_i hsl
  simp at h; obtain ⟨rfl, rfl⟩ := h
  have hr := (H.x' hg hx hp (by simp [IOp.opds])).ofP
  generalize hv : a.eval _ = v at hr
  have hK' : KA P K a ⟨dst, .binOp (if n = true then BinOp.neq else BinOp.eql) t x' y' yt, type, pos, after, guard⟩ γ w X s [] (.p (.bool (false != n))) := by cases n <;> exact hK
  cases hr with
  | slC bb oo cap sz nl l f h1 hn hM hz hc hh => exact slice _ _ cap hsl hv hK'
 ·rename_i id hp
  split at h
  case h_3 => cases h
  case h_2 =>
   rename_i l1 l2 l3 y r hl
   split at h
   case isFalse => cases h
   rename_i hsl
   simp at h; obtain ⟨rfl, rfl⟩ := h
   have hr := H.x' hg hx hp (by simp [IOp.opds])
   generalize hv : a.eval _ = v at hr
   have hK' : KA P K a ⟨dst, .binOp (if n = true then BinOp.neq else BinOp.eql) t x' y' yt, type, pos, after, guard⟩ γ w X s [] (.p (.bool (false != n))) := by cases n <;> exact hK
   cases hr with
   | ap0 id a hγ =>
    obtain ⟨blk, hb1, hb2⟩ := hs.blk id _ hγ
    rw [sub id _ hl] at hb1
    simp at hb1
    subst hb1
    obtain ⟨xs, hrow⟩ := hb2
    cases hrow.zero.1
   | ap id v hγ hz =>
    obtain ⟨blk, hb1, hb2⟩ := hs.blk id _ hγ
    rw [sub id _ hl] at hb1
    simp at hb1
    subst hb1
    obtain ⟨xs, hrow⟩ := hb2
    rcases (hrow.rows hz).2 with ⟨rfl, hn⟩ | ⟨g', oo, cap, cur, rfl, _⟩
    ·simp at hn
    ·exact slice _ _ cap hsl hv hK'
  rename_i l1 l2 l3 nl l4 hl
  split at h
  case isFalse => cases h
  rename_i hsl
  simp at h; obtain ⟨rfl, rfl⟩ := h
  have hr := H.x' hg hx hp (by simp [IOp.opds])
  generalize hv : a.eval _ = v at hr
  cases hr with
  | ap0 id a hγ =>
   obtain ⟨blk, hb1, hb2⟩ := hs.blk id _ hγ
   rw [sub id _ hl] at hb1
   simp at hb1
   subst hb1
   obtain ⟨xs, hrow⟩ := hb2
   cases hrow.zero.2
  | ap id v hγ hz =>
   obtain ⟨blk, hb1, hb2⟩ := hs.blk id _ hγ
   rw [sub id _ hl] at hb1
   simp at hb1
   subst hb1
   obtain ⟨xs, hrow⟩ := hb2
   rcases (hrow.rows hz).2 with ⟨rfl, _⟩ | ⟨g', oo, cap, cur, rfl, _⟩
   ·have : nl = true := by cases nl with | true => rfl | false => exact absurd rfl (hrow.nil.2 rfl).1
    subst this
    exact slice none 0 0 hsl hv hK
   ·have : nl = false := by cases nl with | true => have := hrow.nil.1 rfl; cases this | false => rfl
    subst this
    exact slice _ _ cap hsl hv hK
 ·rename_i hp
  split at h
  case isTrue => cases h
  rename_i hsl
  simp at h; obtain ⟨rfl, rfl⟩ := h
  have hr := (H.x' hg hx hp (by simp [IOp.opds])).ofP
  generalize hv : a.eval _ = v at hr
  cases hr with
  | nilf => exact func _ true (by simpa using hsl) hv (.inl ⟨rfl, rfl⟩) (by cases n <;> exact hK)
 ·rename_i f cs hp
  split at h
  case isTrue => cases h
  rename_i hsl
  simp at h; obtain ⟨rfl, rfl⟩ := h
  have hr := (H.x' hg hx hp (by simp [IOp.opds])).ofP
  generalize hv : a.eval _ = v at hr
  cases hr with
  | fn f vs cs hl hh => exact func _ false (by simpa using hsl) hv (.inr ⟨⟨_, _, _, rfl⟩, rfl⟩) (by cases n <;> exact hK)
 ·rename_i f cs hp
  split at h
  case isTrue => cases h
  rename_i hsl
  simp at h; obtain ⟨rfl, rfl⟩ := h
  have hr := H.x' hg hx hp (by simp [IOp.opds])
  generalize hv : a.eval _ = v at hr
  cases hr with
  | fn f vs cs hl hh => exact func _ false (by simpa using hsl) hv (.inr ⟨⟨_, _, _, rfl⟩, rfl⟩) (by cases n <;> exact hK)
 ·cases h
theorem Zcu {v : Value} {sz : Nat} {nl : Option Bool} {l : List PV} (h : Rep w X v (.sl sz nl l)) : ∃ b cap, v = .slice b l.length cap := by
 cases h with
 | slE b cap => exact ⟨b, cap, rfl⟩
 | slC b o cap => exact ⟨_, cap, rfl⟩
theorem row_len {h : Value} {lent : Bool} {nl : Option Bool} {T sz : Nat} {l : List PV} (hb : BlkOk P γ w X h (.row lent T sz nl l)) (hz : h ≠ zc) : ∃ b cap, h = .slice b l.length cap := by
 obtain ⟨xs, hr⟩ := hb
 rcases (hr.rows hz).2 with ⟨rfl, hn⟩ | ⟨g', oo, cap, cur, rfl, _⟩
 ·exact ⟨none, 0, by rw [hn]⟩
 ·exact ⟨_, cap, rfl⟩
theorem ok_len (str : Bool) (x : Opd) : PureOk P C π (.len str x) := by
 intro K Q a o γ w X s e s0 g d av news h hm hg H hs sub hK
 obtain ⟨dst, op, type, pos, after, guard⟩ := o
 simp only [evA] at h
 simp only [mop] at hm
 split at hm
 case h_2 => cases hm
 rename_i c
 split at hm
 case h_2 => cases hm
 rename_i t x' hc1 hc2 hc3
 simp only [Bool.and_eq_true] at hm
 obtain ⟨ht, hx⟩ := hm
 obtain ⟨cal, args, ats⟩ := c
 simp only at hc1 hc2 hc3
 have ha : args = #[x'] := by cases args; simp_all
 have ht' : ats = #[t] := by cases ats; simp_all
 subst hc1; subst ha; subst ht'
 have slice : ∀ (b : Option Addr) (n cap : Nat), str = false → a.eval x' = .slice b n cap → KA P K a ⟨dst, .call ⟨.builtin .len, #[x'], #[t]⟩, type, pos, after, guard⟩ γ w X s [] (.p (.int .i64 n)) →
   Oper.wp P ⟨dst, .call ⟨.builtin .len, #[x'], #[t]⟩, type, pos, after, guard⟩ a w K Q := by
  intro b n cap hst hv hK
  subst hst
  split at ht
  ·simp at ht
  ·rename_i el hu
   refine Zt (v := .int .i64 n) hs ?_ (.p (.int _ _)) hK
   simp [execOp, resolve, invoke, builtin, Builtin.len_, run_underlying hu, hv, goInt]
  ·cases ht
 split at h
 ·rename_i sz nl l hp
  split at h
  case isTrue => cases h
  rename_i hst
  simp at h; obtain ⟨rfl, rfl⟩ := h
  have hr := (H.x' hg hx hp (by simp [IOp.opds])).ofP
  obtain ⟨b, cap, hv⟩ := Zcu hr
  exact slice b _ cap (by simpa using hst) hv hK
 ·rename_i bs hp
  split at h
  case isFalse => cases h
  rename_i hst
  subst hst
  simp at h; obtain ⟨rfl, rfl⟩ := h
  have hv := (H.x' hg hx hp (by simp [IOp.opds])).ofP.strI
  split at ht
  ·rename_i hu
   refine Zt (v := .int .i64 bs.size) hs ?_ (.p (.int _ _)) hK
   simp [execOp, resolve, invoke, builtin, Builtin.len_, run_underlying hu, hv, goInt]
  ·simp at ht
  ·cases ht
 ·rename_i id hp
  split at h
  case h_2 => cases h
  rename_i l1 l2 l3 l4 l hl
  split at h
  case isTrue => cases h
  rename_i hst
  simp at h; obtain ⟨rfl, rfl⟩ := h
  have hr := H.x' hg hx hp (by simp [IOp.opds])
  generalize hv : a.eval _ = v at hr
  cases hr with
  | ap0 id a hγ =>
   obtain ⟨blk, hb1, hb2⟩ := hs.blk id _ hγ
   rw [sub id _ hl] at hb1
   simp at hb1
   subst hb1
   obtain ⟨xs, hrow⟩ := hb2
   obtain ⟨rfl, rfl⟩ := hrow.zero
   exact slice a 0 0 (by simpa using hst) hv hK
  | ap id v hγ hz =>
   obtain ⟨blk, hb1, hb2⟩ := hs.blk id _ hγ
   rw [sub id _ hl] at hb1
   simp at hb1
   subst hb1
   obtain ⟨b, cap, rfl⟩ := row_len hb2 hz
   exact slice b _ cap (by simpa using hst) hv hK
 ·cases h
theorem ok_mm (mx : Bool) (x y : Opd) : PureOk P C π (.mm mx x y) := by
 intro K Q a o γ w X s e s0 g d av news h hm hg H hs sub hK
 obtain ⟨dst, op, type, pos, after, guard⟩ := o
 simp only [evA] at h
 simp only [mop] at hm
 split at hm
 case h_2 => cases hm
 rename_i c
 split at hm
 case h_2 => cases hm
 rename_i b x' y' hc1 hc3
 simp only [Bool.and_eq_true, beq_iff_eq] at hm
 obtain ⟨⟨rfl, hx⟩, hy⟩ := hm
 obtain ⟨cal, args, ats⟩ := c
 simp only at hc1 hc3
 have ha : args = #[x', y'] := by cases args; simp_all
 subst hc1; subst ha
 split at h
 case h_2 => cases h
 rename_i k m k' n hp hq
 split at h
 case isFalse => cases h
 rename_i hk
 subst hk
 simp at h; obtain ⟨rfl, rfl⟩ := h
 have h1 := (H.pv hg hx hp (by simp [IOp.opds])).intI
 have h2 := (H.pv hg hy hq (by simp [IOp.opds])).intI
 refine Zt (v := .int k _) hs ?_ (.p (.int _ _)) hK
 cases mx <;> simp [execOp, resolve, invoke, builtin, Builtin.max_, Builtin.min_, Builtin.max2, Builtin.min2, h1, h2]
theorem run_index {t : TypeId} {el : TypeId} {sz : Nat} (hu : P.underlying t = some (.slice el)) (hsz : szB P el = some sz) (b o len cap : Nat) (k : IntKind) (i : Int) (h0 : 0 ≤ i) (h1 : i.toNat < len) :
  (Instr.indexAt t (.slice (some ⟨b, o, none⟩) len cap) (.int k i)).run P w = .ok (.pointer (some ⟨b, o + i.toNat * sz, none⟩)) w := by
 have : i < (len : Int) := by omega
 simp [Instr.indexAt, asIntOf, run_underlying hu, Wy hsz, h0, this, Addr.add_lit]
theorem ok_ia (x i : Opd) (sz : Nat) : PureOk P C π (.ia x i sz) := by
 intro K Q a o γ w X s e s0 g d av news h hm hg H hs sub hK
 obtain ⟨dst, op, type, pos, after, guard⟩ := o
 simp only [evA] at h
 simp only [mop] at hm
 split at hm
 case h_2 => cases hm
 rename_i t x' i'
 simp only [Bool.and_eq_true] at hm
 obtain ⟨⟨ht, hx⟩, hi⟩ := hm
 split at ht
 case h_2 => cases ht
 rename_i el hel
 have hu := Z3b hel
 have hsz : szB P el = some sz := by simpa using ht
 split at h
 ·rename_i sz' nl l n hp hn
  split at h
  case isFalse => cases h
  rename_i hsz'
  subst hsz'
  obtain ⟨p, hp', he⟩ := map_some h
  simp at he; obtain ⟨rfl, rfl⟩ := he
  obtain ⟨k, j, hj, hj0, rfl⟩ := nat?_some hn
  have hiv := (H.pv hg hi hj (by simp [IOp.opds])).intI
  have hr := (H.x' hg hx hp (by simp [IOp.opds])).ofP
  generalize hv : a.eval _ = v at hr
  cases hr with
  | slE b' cap sz nl h1 h2 h0 hm => simp at hp'
  | slC bb oo cap sz nl l f h1 hn hM hz hc hh =>
   have hlt := (List.getElem?_eq_some_iff.1 hp').1
   refine Zt (v := .pointer (some ⟨bb, oo + j.toNat * sz', none⟩)) hs (by simp only [execOp, hv, hiv, Sem.run_bind, run_index hu hsz bb oo l.length cap k j hj0 hlt, Result.andThen_ok, Sem.run_pure]) (.p (.ptr bb _ _ (fun q => f (j.toNat * sz' + q)) (fun q c hq => ?_) fun q c hq => hh _ _ hp' q c hq)) hK
   rw [Nat.add_assoc]
   exact hc _ _ hp' q c hq
 ·rename_i id n hp hn
  split at h
  case h_2 => cases h
  rename_i l1 l2 sz' l4 l hl
  split at h
  case isFalse => cases h
  rename_i hsz'
  subst hsz'
  split at h
  case isFalse => cases h
  rename_i hlt
  simp at h; obtain ⟨rfl, rfl⟩ := h
  obtain ⟨k, j, hj, hj0, rfl⟩ := nat?_some hn
  have hiv := (H.pv hg hi hj (by simp [IOp.opds])).intI
  have hr := H.x' hg hx hp (by simp [IOp.opds])
  generalize hv : a.eval _ = v at hr
  cases hr with
  | ap0 id a hγ =>
   obtain ⟨blk, hb1, hb2⟩ := hs.blk id _ hγ
   rw [sub id _ hl] at hb1
   simp at hb1
   subst hb1
   obtain ⟨xs, hrow⟩ := hb2
   obtain ⟨rfl, rfl⟩ := hrow.zero
   simp at hlt
  | ap id v hγ hz =>
   obtain ⟨blk, hb1, hb2⟩ := hs.blk id _ hγ
   rw [sub id _ hl] at hb1
   simp at hb1
   subst hb1
   obtain ⟨xs, hrow⟩ := hb2
   rcases (hrow.rows hz).2 with ⟨rfl, hn0⟩ | ⟨g', oo, cap, cur, rfl, _⟩
   ·omega
   ·refine Zt (v := .pointer (some ⟨g', oo + j.toNat * sz', none⟩)) hs (by simp only [execOp, hv, hiv, Sem.run_bind, run_index hu hsz g' oo l.length cap k j hj0 hlt, Result.andThen_ok, Sem.run_pure]) ?_ hK
    exact .er id sz' j.toNat 0 g' oo _ cap hγ
 ·cases h
theorem ok_iaa (x i : Opd) (n sz : Nat) : PureOk P C π (.iaa x i n sz) := by
 intro K Q a o γ w X s e s0 g d av news h hm hg H hs sub hK
 obtain ⟨dst, op, type, pos, after, guard⟩ := o
 simp only [evA] at h
 simp only [mop] at hm
 split at hm
 case h_2 => cases hm
 rename_i t x' i'
 simp only [Bool.and_eq_true] at hm
 obtain ⟨⟨ht, hx⟩, hi⟩ := hm
 split at ht
 case h_2 => cases ht
 rename_i n' el hu
 simp at ht
 obtain ⟨rfl, hsz⟩ := ht
 have run : ∀ (b o' : Nat) (k : IntKind) (j : Int), a.eval x' = .pointer (some ⟨b, o', none⟩) → a.eval i' = .int k j → 0 ≤ j → j.toNat < n' →
   (execOp a.eval ⟨dst, .indexAddr t x' i', type, pos, after, guard⟩).run P w = .ok (.value (.pointer (some ⟨b, o' + j.toNat * sz, none⟩))) w := by
  intro b o' k j hv hiv hj0 hlt
  have : j < (n' : Int) := by omega
  simp [execOp, hv, hiv, Instr.indexAt, asIntOf, run_underlying hu, Wy hsz, hj0, this, Addr.add_lit, Instr.sureAddr]
 split at h
 ·rename_i cs j hp hn
  split at h
  case isFalse => cases h
  rename_i hlt
  simp at h; obtain ⟨rfl, rfl⟩ := h
  obtain ⟨k, j, hj, hj0, rfl⟩ := nat?_some hn
  have hiv := (H.pv hg hi hj (by simp [IOp.opds])).intI
  have hr := (H.x' hg hx hp (by simp [IOp.opds])).ofP
  generalize hv : a.eval _ = v at hr
  cases hr with
  | ptr b o' cs f' hc hh =>
   refine Zt hs (run b o' k j hv hiv hj0 hlt) (.p (.ptr b _ _ (fun q => f' (j.toNat * sz + q)) (fun q c hq => ?_) fun q c hq => ?_)) hK
   ·rw [List.getElem?_drop] at hq
    rw [Nat.add_assoc]; exact hc _ c hq
   ·rw [List.getElem?_drop] at hq
    exact hh _ c hq
 ·rename_i id o' j hp hn
  split at h
  case isFalse => cases h
  rename_i hlt
  simp at h; obtain ⟨rfl, rfl⟩ := h
  obtain ⟨k, j, hj, hj0, rfl⟩ := nat?_some hn
  have hiv := (H.pv hg hi hj (by simp [IOp.opds])).intI
  have hr := H.x' hg hx hp (by simp [IOp.opds])
  generalize hv : a.eval _ = v at hr
  cases hr with
  | ref id off b hb => exact Zt hs (run b o' k j hv hiv hj0 hlt) (.ref id _ b hb) hK
 ·rename_i id z q o' j hp hn
  split at h
  case isFalse => cases h
  rename_i hlt
  simp at h; obtain ⟨rfl, rfl⟩ := h
  obtain ⟨k, j, hj, hj0, rfl⟩ := nat?_some hn
  have hiv := (H.pv hg hi hj (by simp [IOp.opds])).intI
  have hr := H.x' hg hx hp (by simp [IOp.opds])
  generalize hv : a.eval _ = v at hr
  cases hr with
  | er id sz i off b oo len cap hb =>
   refine Zt hs (run b _ k j hv hiv hj0 hlt) ?_ hK
   rw [Nat.add_assoc, Nat.add_assoc]
   exact .er id z _ _ b oo len cap hb
 ·cases h
theorem ok_idx (x i : Opd) : PureOk P C π (.idx x i) := by
 intro K Q a o γ w X s e s0 g d av news h hm hg H hs sub hK
 obtain ⟨dst, op, type, pos, after, guard⟩ := o
 simp only [evA] at h
 simp only [mop] at hm
 split at hm
 case h_2 => cases hm
 rename_i t x' i'
 simp only [Bool.and_eq_true] at hm
 obtain ⟨⟨ht, hx⟩, hi⟩ := hm
 split at ht
 case h_2 => cases ht
 rename_i hu
 split at h
 case h_2 => cases h
 rename_i bs n hp hn
 obtain ⟨c, hc, he⟩ := map_some h
 simp at he; obtain ⟨rfl, rfl⟩ := he
 obtain ⟨k, j, hj, hj0, rfl⟩ := nat?_some hn
 have hiv := (H.pv hg hi hj (by simp [IOp.opds])).intI
 have hv := (H.x' hg hx hp (by simp [IOp.opds])).ofP.strI
 refine Zt (v := .int .u8 c.toNat) hs ?_ (.p (.int _ _)) hK
 simp [execOp, hv, hiv, Instr.index, asIntOf, run_underlying hu, hj0, hc]
theorem ok_xag (x i : Opd) (n : Nat) : PureOk P C π (.xag x i n) := by
 intro K Q a o γ w X s e s0 g d av news h hm hg H hs sub hK
 obtain ⟨dst, op, type, pos, after, guard⟩ := o
 simp only [evA] at h
 simp only [mop] at hm
 split at hm
 case h_2 => cases hm
 rename_i t x' i'
 simp only [Bool.and_eq_true] at hm
 obtain ⟨⟨ht, hx⟩, hi⟩ := hm
 split at ht
 case h_2 => cases ht
 rename_i n' el hu
 simp only [Bool.and_eq_true, beq_iff_eq] at ht
 obtain ⟨⟨rfl, hsz⟩, hag⟩ := ht
 have run : ∀ us (k : IntKind) (j : Int) z, a.eval x' = .agg us → a.eval i' = .int k j → 0 ≤ j → j.toNat < n' → (part el us j.toNat).run P w = .ok z w → (execOp a.eval ⟨dst, .index t x' i', type, pos, after, guard⟩).run P w = .ok (.value z) w := by
  intro us k j z hv hiv h0 hlt hp
  have : j < n' := by omega
  simp [execOp, hv, hiv, Instr.index, asIntOf, run_underlying hu, Wy hsz, h0, this, hp]
 split at h
 ·rename_i cs m hp hn
  split at h
  case isFalse => cases h
  rename_i hlt
  obtain ⟨c, hc, he⟩ := map_some h
  simp at he; obtain ⟨rfl, rfl⟩ := he
  obtain ⟨k, j, hj, hj0, rfl⟩ := nat?_some hn
  have hiv := (H.pv hg hi hj (by simp [IOp.opds])).intI
  have hr := (H.x' hg hx hp (by simp [IOp.opds])).ofP
  generalize hv : a.eval _ = v at hr
  cases hr with
  | agg us cs hl hh =>
   obtain ⟨z, hz, hz2⟩ := Zcc (P := P) (γ := γ) (w := w) (X := X) (us := us) (cs := cs.map .p) (off := j.toNat) (by simpa using hl) (fun i v c hv hc => by
    simp only [List.getElem?_map, Option.map_eq_some_iff] at hc
    obtain ⟨c', hc', rfl⟩ := hc
    exact .p (hh i v c' hv hc')) hsz hag (by have := (List.getElem?_eq_some_iff.1 hc).1; simp; omega) (.inr rfl)
   rcases hz2 with ⟨hf, _⟩ | ⟨_, hz2⟩
   ·cases hf
   ·exact Zt hs (run us k j _ hv hiv hj0 hlt hz) (hz2 _ (by simp [hc])) hK
 ·rename_i cs m hp hn
  split at h
  case isFalse => cases h
  rename_i hlt
  obtain ⟨c, hc, he⟩ := map_some h
  simp at he; obtain ⟨rfl, rfl⟩ := he
  obtain ⟨k, j, hj, hj0, rfl⟩ := nat?_some hn
  have hiv := (H.pv hg hi hj (by simp [IOp.opds])).intI
  have hr := H.x' hg hx hp (by simp [IOp.opds])
  generalize hv : a.eval _ = v at hr
  cases hr with
  | agg us cs hl hh =>
   obtain ⟨z, hz, hz2⟩ := Zcc (P := P) (γ := γ) (w := w) (X := X) (us := us) (cs := cs) (off := j.toNat) hl hh hsz hag (by have := (List.getElem?_eq_some_iff.1 hc).1; omega) (.inr rfl)
   rcases hz2 with ⟨hf, _⟩ | ⟨_, hz2⟩
   ·cases hf
   ·exact Zt hs (run us k j _ hv hiv hj0 hlt hz) (hz2 _ hc) hK
 ·cases h
theorem ok_mkf (f : Nat) (caps : List Opd) : PureOk P C π (.mkf f caps) := by
 intro K Q a o γ w X s e s0 g d av news h hm hg H hs sub hK
 obtain ⟨dst, op, type, pos, after, guard⟩ := o
 simp only [evA] at h
 obtain ⟨l, hl, he⟩ := map_some h
 simp at he; obtain ⟨rfl, rfl⟩ := he
 simp only [mop] at hm
 split at hm
 case h_2 => cases hm
 rename_i fn first cs
 simp only [Bool.and_eq_true] at hm
 obtain ⟨⟨hf, h1⟩, hcs⟩ := hm
 split at hf
 case h_2 => cases hf
 simp at hf; subst hf
 have hfirst : first = #[] := by simpa using h1
 subst hfirst
 have key : ∀ (xs : List Operand) (ys : List Opd) (l : List AV), mopdL xs ys = true → ys.mapM (evA.x' e g) = some l → (∀ y ∈ ys, y ∈ caps) →
   (xs.map a.eval).length = l.length ∧ ∀ (i : Nat) v c, (xs.map a.eval)[i]? = some v → l[i]? = some c → RepA γ w X v c := by
  intro xs
  induction xs with
  | nil =>
   intro ys l hm hl hsub
   cases ys with
   | nil => simp at hl; subst hl; simp
   | cons => simp [mopdL] at hm
  | cons x xs ih =>
   intro ys l hm hl hsub
   cases ys with
   | nil => simp [mopdL] at hm
   | cons y ys =>
    simp only [mopdL, Bool.and_eq_true] at hm
    obtain ⟨b, l', hb, hl', rfl⟩ := Nb hl
    obtain ⟨h1, h2⟩ := ih ys l' hm.2 hl' fun y hy => hsub y (List.mem_cons_of_mem _ hy)
    refine ⟨by simpa using h1, fun i v c hv hc => ?_⟩
    cases i with
    | zero =>
     simp at hv hc; subst hv; subst hc
     exact H.x' hg hm.1 hb (by simpa [IOp.opds] using hsub y (List.mem_cons_self))
    | succ i => exact h2 i v c (by simpa using hv) (by simpa using hc)
 obtain ⟨k1, k2⟩ := key cs.toList caps l hcs hl fun y hy => hy
 refine Zt (v := .func (.func _) #[] (cs.map a.eval)) hs (by simp [execOp, Instr.makeFunc]) (RepA.mkFn (by simpa using k1) fun i v c hv hc => k2 i v c ?_ hc) hK
 simpa using hv
theorem ok_ld (x : Opd) (sz : Nat) (ag : Bool) : PureOk P C π (.ld x sz ag) := by
 intro K Q a o γ w X s e s0 g d av news h hm hg H hs sub hK
 obtain ⟨dst, op, type, pos, after, guard⟩ := o
 simp only [evA] at h
 simp only [mop] at hm
 split at hm
 case h_2 => cases hm
 rename_i t x'
 simp only [Bool.and_eq_true, beq_iff_eq] at hm
 obtain ⟨⟨hsz, hag⟩, hx⟩ := hm
 have runA : ∀ (b o' : Nat) (f : Nat → Value), ag = true → a.eval x' = .pointer (some ⟨b, o', none⟩) → (∀ j, j < sz → w.cell? ⟨b, o' + j, none⟩ = some (f j)) →
   (execOp a.eval ⟨dst, .load t x', type, pos, after, guard⟩).run P w = .ok (.value (.agg ((List.range sz).map f).toArray)) w := by
  intro b o' f ha hv hf
  subst ha
  simp [execOp, hv, Instr.loadAt, Instr.sureAddr, Z2h hsz hag w b o' f hf]
 have run1 : ∀ (b o' : Nat) (v : Value), ag = false → a.eval x' = .pointer (some ⟨b, o', none⟩) → w.cell? ⟨b, o', none⟩ = some v →
   (execOp a.eval ⟨dst, .load t x', type, pos, after, guard⟩).run P w = .ok (.value v) w := by
  intro b o' v ha hv hf
  subst ha
  simp [execOp, hv, Instr.loadAt, Instr.sureAddr, Z4x hag w b o' v hf]
 have arr : ∀ (f : Nat → Value) (cs : List PV), cs.length = sz → (∀ (j : Nat) c, cs[j]? = some c → Rep w X (f j) c) → Rep w X (.agg ((List.range sz).map f).toArray) (.agg cs) := by
  intro f cs hl hh
  refine .agg _ cs (by simp [hl]) fun i v c hv hc => ?_
  have hlt : i < sz := by have := (List.getElem?_eq_some_iff.1 hc).1; omega
  simp [hlt] at hv
  subst hv
  exact hh i c hc
 split at h
 ·rename_i cs hp
  have hr := (H.x' hg hx hp (by simp [IOp.opds])).ofP
  generalize hv : a.eval _ = v at hr
  cases hr with
  | ptr b o' cs f' hc hh =>
   cases hag' : ag with
   | true =>
    subst hag'
    simp only [cond_true] at h
    split at h
    case isFalse => cases h
    rename_i hle
    simp at h; obtain ⟨rfl, rfl⟩ := h
    refine Zt hs (runA b o' f' rfl hv fun j hj => ?_) (.p (arr f' _ (by simp; omega) fun j c hj => ?_)) hK
    ·exact (hc j _ (List.getElem?_eq_getElem (by omega))).cell
    ·rw [List.getElem?_take] at hj
     split at hj
     ·exact hh j c hj
     ·cases hj
   | false =>
    subst hag'
    simp at h
    obtain ⟨c, hc', rfl, rfl⟩ := h
    have h0 : cs[0]? = some c := by rw [← List.head?_eq_getElem?]; exact hc'
    exact Zt hs (run1 b o' (f' 0) rfl hv (hc 0 c h0).cell) (.p (hh 0 c h0)) hK
 ·rename_i id o' hp
  split at h
  case h_2 => cases h
  rename_i lent cs hl
  have hr := H.x' hg hx hp (by simp [IOp.opds])
  generalize hv : a.eval _ = v at hr
  cases hr with
  | ref id off b hb =>
   obtain ⟨blk, hb1, hb2⟩ := hs.blk id _ hb
   rw [sub id _ hl] at hb1
   simp at hb1
   subst hb1
   obtain ⟨b', c, T, hbox⟩ := hb2
   have hbb := hbox.hand
   simp at hbb
   subst hbb
   have hcell : ∀ j, j < cs.length → ∃ u, c[j]? = some u ∧ w.cell? ⟨b, j, none⟩ = some u ∧ ∀ q, cs[j]? = some q → RepA γ w X u q := by
    intro j hj
    have hj' : j < c.size := by rw [hbox.size]; exact hj
    refine ⟨c[j], Array.getElem?_eq_getElem hj', ?_, fun q hq => hbox.rep j _ q (Array.getElem?_eq_getElem hj') hq⟩
    rw [cell_of_row w b j c T (0, 0) hbox.heap]
    exact Array.getElem?_eq_getElem hj'
   cases hag' : ag with
   | true =>
    subst hag'
    simp only [cond_true] at h
    split at h
    case isFalse => cases h
    rename_i hle
    simp at h; obtain ⟨rfl, rfl⟩ := h
    refine Zt hs (runA b o' (fun j => c.getD (o' + j) undef) rfl hv fun j hj => ?_) (RepA.mkAgg ?_ fun i v q hv' hq => ?_) hK
    ·obtain ⟨u, hu, hcu, _⟩ := hcell (o' + j) (by omega)
     rw [hcu]; simp [hu]
    ·rw [Z2g hle (by omega)]; simp
    ·obtain ⟨hq1, hq2⟩ := Z73 hq
     obtain ⟨u, hu, hcu, hrep⟩ := hcell (o' + i) (by omega)
     have hlt : i < sz := by omega
     simp [hlt, hu] at hv'
     subst hv'
     exact hrep q hq1
   | false =>
    subst hag'
    simp at h
    obtain ⟨q, hq, rfl, rfl⟩ := h
    obtain ⟨u, hu, hcu, hrep⟩ := hcell o' ((List.getElem?_eq_some_iff.1 hq).1)
    exact Zt hs (run1 b o' u rfl hv hcu) (hrep q hq) hK
 ·rename_i id z i o' hp
  split at h
  case h_2 => cases h
  rename_i lent T z' nl l hl
  split at h
  case h_2 => cases h
  rename_i p hp'
  split at hp'
  case isFalse => cases hp'
  rename_i hz
  subst hz
  have hr := H.x' hg hx hp (by simp [IOp.opds])
  generalize hv : a.eval _ = v at hr
  cases hr with
  | er id sz' i off b oo len cap hb =>
   obtain ⟨blk, hb1, hb2⟩ := hs.blk id _ hb
   rw [sub id _ hl] at hb1
   simp at hb1
   subst hb1
   obtain ⟨xs, hrow⟩ := hb2
   have hcell : ∀ (j : Nat) c, p.cells[j]? = some c → ∃ u, xs[i * z' + j]? = some u ∧ w.cell? ⟨b, oo + (i * z' + j), none⟩ = some u ∧ Rep w X u c := by
    intro j c hj
    obtain ⟨b', oo', cap', u, hv', hu, hc, hrep⟩ := hrow.cell hp' hj
    simp at hv'
    obtain ⟨⟨rfl, rfl⟩, _, rfl⟩ := hv'
    exact ⟨u, hu, hc, hrep⟩
   cases hag' : ag with
   | true =>
    subst hag'
    simp only [cond_true] at h
    split at h
    case isFalse => cases h
    rename_i hle
    simp at h; obtain ⟨rfl, rfl⟩ := h
    refine Zt hs (runA b _ (fun j => xs.getD (i * z' + (o' + j)) undef) rfl hv fun j hj => ?_) (.p (arr _ _ (by rw [Z2g hle (by omega)]; omega) fun j c hj => ?_)) hK
    ·obtain ⟨u, hu, hcu, _⟩ := hcell (o' + j) _ (List.getElem?_eq_getElem (by omega))
     rw [show oo + (i * z' + o') + j = oo + (i * z' + (o' + j)) by omega, hcu]; simp [List.getD, hu]
    ·obtain ⟨hq1, hq2⟩ := Z73 hj
     obtain ⟨u, hu, hcu, hrep⟩ := hcell _ c hq1
     have : xs.getD (i * z' + (o' + j)) undef = u := by simp [List.getD, hu]
     show Rep w X (xs.getD (i * z' + (o' + j)) undef) c
     rw [this]; exact hrep
   | false =>
    subst hag'
    simp at h
    obtain ⟨q, hq, rfl, rfl⟩ := h
    obtain ⟨u, hu, hcu, hrep⟩ := hcell o' q hq
    exact Zt hs (run1 b _ u rfl hv hcu) (.p hrep) hK
 ·cases h
theorem ok_nck (x : Opd) : PureOk P C π (.nck x) := by
 intro K Q a o γ w X s e s0 g d av news h hm hg H hs sub hK
 obtain ⟨dst, op, type, pos, after, guard⟩ := o
 simp only [evA] at h
 simp only [mop] at hm
 split at hm
 case h_2 => cases hm
 rename_i x'
 have run : ∀ ad, a.eval x' = .pointer (some ad) → (execOp a.eval ⟨dst, .nilCheck x', type, pos, after, guard⟩).run P w = .ok (.value (.pointer (some ad))) w := by
  intro ad hv
  simp [execOp, hv]
 split at h
 ·rename_i cs hp
  simp at h; obtain ⟨rfl, rfl⟩ := h
  have hr := (H.x' hg hm hp (by simp [IOp.opds])).ofP
  generalize hv : a.eval _ = v at hr
  cases hr with
  | ptr b o cs f hc hh => exact Zt hs (run _ hv) (.p (.ptr b o cs f hc hh)) hK
 ·rename_i id o' hp
  simp at h; obtain ⟨rfl, rfl⟩ := h
  have hr := H.x' hg hm hp (by simp [IOp.opds])
  generalize hv : a.eval _ = v at hr
  cases hr with
  | ref id off b h => exact Zt hs (run _ hv) (.ref _ _ _ h) hK
 ·rename_i id z i o' hp
  simp at h; obtain ⟨rfl, rfl⟩ := h
  have hr := H.x' hg hm hp (by simp [IOp.opds])
  generalize hv : a.eval _ = v at hr
  cases hr with
  | er id sz i off b oo len cap h => exact Zt hs (run _ hv) (.er _ _ _ _ _ _ _ _ h) hK
 ·cases h
end
theorem Zbg : ∀ (vs : List Value) (k off : Nat) (cs : Array Value), ((vs.zipIdx k).foldl (fun cs (x : Value × Nat) => cs.setIfInBounds (off + x.2) x.1) cs).size = cs.size ∧
  ∀ i, ((vs.zipIdx k).foldl (fun cs (x : Value × Nat) => cs.setIfInBounds (off + x.2) x.1) cs)[i]? = if off + k ≤ i ∧ i < off + k + vs.length ∧ i < cs.size then vs[i - (off + k)]? else cs[i]?
 | [], k, off, cs => by
  refine ⟨rfl, fun i => ?_⟩
  have : ¬ (off + k ≤ i ∧ i < off + k + ([] : List Value).length ∧ i < cs.size) := by simp; omega
  rw [if_neg this]; rfl
 | v :: vs, k, off, cs => by
  obtain ⟨h1, h2⟩ := Zbg vs (k + 1) off (cs.setIfInBounds (off + k) v)
  simp only [List.zipIdx_cons, List.foldl_cons]
  refine ⟨by rw [h1]; simp, fun i => ?_⟩
  rw [h2]
  simp only [Array.size_setIfInBounds, List.length_cons]
  by_cases hi : i = off + k
  ·subst hi
   rw [if_neg (by omega)]
   by_cases hlt : off + k < cs.size
   ·rw [if_pos ⟨by omega, by omega, hlt⟩]
    simp [hlt]
   ·rw [if_neg (by omega)]
    simp [hlt]
  ·by_cases hc : off + k ≤ i ∧ i < off + k + (vs.length + 1) ∧ i < cs.size
   ·rw [if_pos hc, if_pos ⟨by omega, by omega, hc.2.2⟩]
    have : i - (off + k) = (i - (off + (k + 1))) + 1 := by omega
    rw [this, List.getElem?_cons_succ]
   ·rw [if_neg hc, if_neg (by omega)]
    rw [Array.getElem?_setIfInBounds_ne (by omega)]
theorem fill_get (vs cs : Array Value) (off : Nat) : (vs.zipIdx.foldl (fun cs (c, j) => cs.setIfInBounds (off + j) c) cs).size = cs.size ∧
  ∀ i, (vs.zipIdx.foldl (fun cs (c, j) => cs.setIfInBounds (off + j) c) cs)[i]? = if off ≤ i ∧ i < off + vs.size ∧ i < cs.size then vs[i - off]? else cs[i]? := by
 have h := Zbg vs.toList 0 off cs
 have e : vs.zipIdx.foldl (fun cs (c, j) => cs.setIfInBounds (off + j) c) cs = (vs.toList.zipIdx 0).foldl (fun cs (x : Value × Nat) => cs.setIfInBounds (off + x.2) x.1) cs := by
  rw [← Array.foldl_toList]
  simp [Array.toList_zipIdx]
 rw [e]
 simpa using h
section
variable {P : Program} {K : Act → World → Prop} {Q : Exit → Act → World → Prop} {a : Act} {o : Oper} {γ : Hand} {w : World} {X : Own} {s : Sto}
variable {C : Call} {π : Id} {e : Env} {s0 : Sto} {g : Bool} {d : Nat} {av : AV} {news : Sto} {iop : IOp}
def Z9q (γ : Hand) (w : World) (X : Own) (pl : Nat → Option (Nat × Nat)) : List (Nat × Value) → List (Nat × Nat × Option AV) → Prop
 | [], [] => True
 | (i, v) :: r, (off, sz, x) :: r' => pl i = some (off, sz) ∧ (∀ av, x = some av → RepA γ w X v av) ∧ Z9q γ w X pl r r'
 | _, _ => False
theorem Qj {α : Type} (cs vs : List α) (off : Nat) (h : off + vs.length ≤ cs.length) (i : Nat) : (Zr cs off vs)[i]? = if off ≤ i ∧ i < off + vs.length then vs[i - off]? else cs[i]? := by
 unfold Zr
 by_cases h1 : i < off
 ·rw [if_neg (by omega), List.append_assoc, List.getElem?_append_left (by simp; omega)]
  simp [h1]
 ·by_cases h2 : i < off + vs.length
  ·rw [if_pos ⟨by omega, h2⟩, List.append_assoc, List.getElem?_append_right (by simp; omega), List.getElem?_append_left (by simp; omega)]
   congr 1; simp; omega
  ·rw [if_neg (by omega), List.getElem?_append_right (by simp; omega), List.getElem?_drop]
   congr 1; simp; omega
theorem Qi {α : Type} (cs vs : List α) (off : Nat) (h : off + vs.length ≤ cs.length) : (Zr cs off vs).length = cs.length := by
 simp [Zr]; omega
theorem fill_rep (h1 : ∀ id v, γ id = some v → v.oneCell' = true) {pl : Nat → Option (Nat × Nat)} : ∀ (parts : List (Nat × Value)) (ap : List (Nat × Nat × Option AV)) (us : Array Value) (cs cs' : List AV),
  Z9q γ w X pl parts ap → us.size = cs.length → (∀ (i : Nat) u c, us[i]? = some u → cs[i]? = some c → RepA γ w X u c) → Zdh cs ap = some cs' →
  ∃ us', Instr.fill pl us parts = some us' ∧ us'.size = cs'.length ∧ ∀ (i : Nat) u c, us'[i]? = some u → cs'[i]? = some c → RepA γ w X u c
 | [], [], us, cs, cs', _, hl, hh, h => by simp [Zdh] at h; subst h; exact ⟨us, by simp [Instr.fill], hl, hh⟩
 | (i, v) :: r, (off, sz, x) :: r', us, cs, cs', hp, hl, hh, h => by
  obtain ⟨hpl, hx, hr⟩ := hp
  cases x with
  | none => simp [Zdh] at h
  | some av =>
   simp only [Zdh] at h
   split at h
   case isFalse => cases h
   rename_i hc
   obtain ⟨hc1, hc2, hc3⟩ := hc
   obtain ⟨k1, k2, k3⟩ := (hx av rfl).cells h1 (by simpa using hc3)
   obtain ⟨f1, f2⟩ := fill_get v.cells us off
   have hle : off + v.cells.size ≤ us.size := by omega
   have := fill_rep h1 (pl := pl) r r' (v.cells.zipIdx.foldl (fun cs (c, j) => cs.setIfInBounds (off + j) c) us) (Zr cs off av.cells) cs' hr
    (by rw [f1, Qi _ _ _ (by omega)]; exact hl) (fun i u c hu hc => by
     rw [f2] at hu
     rw [Qj _ _ _ (by omega)] at hc
     by_cases hi : off ≤ i ∧ i < off + av.cells.length
     ·rw [if_pos hi] at hc
      rw [if_pos ⟨hi.1, by omega, by omega⟩] at hu
      exact k2 _ u c hu hc
     ·rw [if_neg hi] at hc
      rw [if_neg (by omega)] at hu
      exact hh i u c hu hc) h
   obtain ⟨us', g1, g2⟩ := this
   refine ⟨us', ?_, g2⟩
   simp only [Instr.fill, hpl]
   have n1 : ¬ (v.cells.size ≠ sz || off + v.cells.size > us.size) = true := by simp; omega
   rw [if_neg n1]
   exact g1
 | [], _ :: _, _, _, _, hp, _, _, _ => by simp [Z9q] at hp
 | _ :: _, [], _, _, _, hp, _, _, _ => by simp [Z9q] at hp
theorem parts_rel {pl : Nat → Option (Nat × Nat)} {l : List Opd} (H : OpsOk γ w X a e l) (hg : g = true) : ∀ (ps : List (Nat × Operand)) (ip : List (Nat × Nat × Opd)), Z8q pl ps ip = true → (∀ x ∈ ip, x.2.2 ∈ l) →
  Z9q γ w X pl (ps.map fun x => (x.1, a.eval x.2)) (ip.map fun x => (x.1, x.2.1, evA.x' e g x.2.2))
 | [], [], _, _ => trivial
 | (i, x) :: r, (off, sz, y) :: r', h, hl => by
  simp only [Z8q, Bool.and_eq_true, beq_iff_eq] at h
  exact ⟨h.1.1, fun av hav => H.x' hg h.1.2 hav (hl _ (List.mem_cons_self)), parts_rel H hg r r' h.2 fun x hx => hl x (List.mem_cons_of_mem _ hx)⟩
 | [], _ :: _, h, _ => by simp [Z8q] at h
 | _ :: _, [], h, _ => by simp [Z8q] at h
theorem zero_rep {us : List Value} {cs : List PV} (h : cstL us cs = true) : us.toArray.size = (cs.map AV.p).length ∧ ∀ (i : Nat) u c, us.toArray[i]? = some u → (cs.map AV.p)[i]? = some c → RepA γ w X u c := by
 obtain ⟨h1, h2⟩ := Z6c h
 refine ⟨by simpa using h1, fun i u c hu hc => ?_⟩
 simp only [List.getElem?_map, Option.map_eq_some_iff] at hc
 obtain ⟨c', hc', rfl⟩ := hc
 exact .p (h2 w X i u c' (by simpa using hu) hc').1
theorem ok_build (zero : List PV) (parts : List (Nat × Nat × Opd)) : PureOk P C π (.build zero parts) := by
 intro K Q a o γ w X s e s0 g d av news h hm hg H hs sub hK
 obtain ⟨dst, op, type, pos, after, guard⟩ := o
 simp only [evA] at h
 obtain ⟨cs, hcs, he⟩ := map_some h
 simp at he; obtain ⟨rfl, rfl⟩ := he
 simp only [mop] at hm
 split at hm
 case h_2 => cases hm
 rename_i t ps
 split at hm
 case h_2 => cases hm
 rename_i z pl hpl
 simp only [Bool.and_eq_true] at hm
 obtain ⟨hz, hp⟩ := hm
 obtain ⟨z1, z2⟩ := zero_rep (γ := γ) (w := w) (X := X) hz
 obtain ⟨us', f1, f2, f3⟩ := fill_rep hs.one _ _ _ _ _ (parts_rel H hg ps.toList parts hp fun x hx => by simp only [IOp.opds]; exact List.mem_map.2 ⟨x, hx, rfl⟩) z1 z2 hcs
 have hb := built_of hpl (ps.toList.map fun x => (x.1, a.eval x.2))
 have hr := run_build (P := P) w t (ps.map fun x => (x.1, a.eval x.2)) us' (by rw [Array.toList_map, hb]; simpa using f1)
 exact Zt (v := .agg us') hs (by simp only [execOp, Sem.run_bind]; rw [hr]; rfl) (RepA.mkAgg f2 f3) hK
def NewOk (P : Program) (C : Call) (π : Id) (iop : IOp) : Prop :=
 ∀ (K : Act → World → Prop) (Q : Exit → Act → World → Prop) (a : Act) (o : Oper) (γ : Hand) (w : World) (X : Own) (s : Sto) (e : Env) (s0 : Sto) (g : Bool) (d : Nat) (av : AV) (news : Sto),
  evA C π e s0 g d iop = some (av, news) → mop P o.op iop = true → g = true → OpsOk γ w X a e iop.opds → StoOk P γ w X s → (∀ id b, s0.lookup id = some b → s.lookup id = some b) →
  (∀ id b, news.lookup id = some b → γ id = none ∧ s.lookup id = some b) → KA P K a o γ w X s news av → o.wp P a w K Q
theorem PureOk.new (h : PureOk P C π iop) : NewOk P C π iop := fun K Q a o γ w X s e s0 g d av news h1 h2 h3 h4 h5 h6 _ h8 => h K Q a o γ w X s e s0 g d av news h1 h2 h3 h4 h5 h6 h8
def addH (γ : Hand) (id : Id) (h : Value) : Hand := fun i => if i = id then some h else γ i
def addX (X : Own) (n : Nat) : Own := fun b o => X b o ∨ b = n
theorem CellAt.grow {w w' : World} {X : Own} (hb : Below w.heap.size w w') {b o : Nat} {v : Value} (h : CellAt w X b o v) : CellAt w' (addX X w.heap.size) b o v :=
 ⟨(Y5 (hb.block b h.lt)).trans h.cell, fun hx => hx.elim h.free fun he => by have := h.lt; omega⟩
theorem Zd4 {w1 : World} {id : Id} {h v : Value} {blk : Blk} (hs : StoOk P γ w X s) (hb : Below w.heap.size w w1) (hlt : w.heap.size < w1.heap.size) (hid : γ id = none) (hl : s.lookup id = some blk)
  (hk : hblk h = some w.heap.size) (hok : BlkOk P (addH γ id h) w1 (addX X w.heap.size) h blk) (hr : (execOp a.eval o).run P w = .ok (.value v) w1)
  (hv : RepA (addH γ id h) w1 (addX X w.heap.size) v av) (hK : KA P K a o γ w X s [(id, blk)] av) : o.wp P a w K Q := by
 unfold Oper.wp
 rw [hr]
 obtain ⟨g1, g2⟩ := grow (γ := γ) (γ' := addH γ id h) (w := w) (w' := w1) (X := X) (X' := addX X w.heap.size) hs hb
  (fun i h' hi => by unfold addH; rw [if_neg (fun he => by subst he; rw [hid] at hi; cases hi)]; exact hi)
  (fun b o hb' => ⟨fun hx => hx.elim (fun h => h) (fun he => by omega), .inl⟩)
  (fun b o hx => hx.elim (fun h => Nat.lt_of_lt_of_le (hs.lt b o h) hb.size) (fun he => by omega))
  (fun i h' hi hn => by
   unfold addH at hi
   split at hi
   ·rename_i he; subst he; simp at hi; subst hi
    exact ⟨⟨blk, hl, hok⟩, fun k hk' => by rw [hk] at hk'; simp at hk'; omega⟩
   ·rw [hn] at hi; cases hi)
  (fun i j h' k b hi hj hi' hj' _ _ => by
   unfold addH at hi' hj'
   split at hi'
   ·split at hj'
    ·simp_all
    ·rw [hj] at hj'; cases hj'
   ·rw [hi] at hi'; cases hi')
 refine hK v _ _ _ g2 g1 (fun i h' hi => ?_) (fun i h' hi => ?_) (fun i b hib => ?_) hv
 ·unfold addH; rw [if_neg (fun he => by subst he; rw [hid] at hi; cases hi)]; exact hi
 ·unfold addH at hi
  split at hi
  ·rename_i he; subst he; exact .inr ⟨blk, Mj _ _⟩
  ·exact .inl hi
 ·obtain ⟨rfl, rfl⟩ := Zey hib; simp [addH]
theorem Yr (w : World) (o : Obj) : Below w.heap.size w (w.alloc o) := (Below.refl _ _).alloc (Nat.le_refl _) o
theorem box_ok {id : Id} {us : Array Value} {cs : List AV} {t : TypeId} (hid : γ id = none) (hl : us.size = cs.length) (h1 : ∀ u ∈ us, u.oneCell' = true)
  (hh : ∀ (i : Nat) u c, us[i]? = some u → cs[i]? = some c → RepA γ w X u c) :
  BlkOk P (addH γ id (.pointer (some ⟨w.heap.size, 0, none⟩))) (w.alloc (.cells us t)) (addX X w.heap.size) (.pointer (some ⟨w.heap.size, 0, none⟩)) (.box false cs) := by
 refine ⟨w.heap.size, us, t, rfl, heap_alloc_new w _, hl, fun i v hv => h1 v (Array.mem_of_getElem? hv), fun i v c hv hc => (hh i v c hv hc).mono (fun b o v h => h.grow (Yr w _)) (fun j _ u hu => ?_), fun o => ⟨fun _ => rfl, fun _ => .inr rfl⟩⟩
 unfold addH
 rw [if_neg (fun he => by subst he; rw [hid] at hu; cases hu)]
 exact hu
theorem ok_alloc (zero : List PV) : NewOk P C π (.alloc zero) := by
 intro K Q a o γ w X s e s0 g d av news h hm hg H hs sub hnew hK
 obtain ⟨dst, op, type, pos, after, guard⟩ := o
 simp only [evA] at h
 split at h
 ·cases h
 simp at h; obtain ⟨rfl, rfl⟩ := h
 simp only [mop] at hm
 split at hm
 case h_2 => cases hm
 rename_i t
 split at hm
 case h_2 => cases hm
 rename_i z hz
 obtain ⟨i, v, hi, hiz, rfl⟩ := Z87 hz
 obtain ⟨hid, hl⟩ := hnew _ _ (Mj _ _)
 obtain ⟨z1, z2⟩ := zero_rep (γ := γ) (w := w) (X := X) hm
 simp only [Array.toArray_toList] at z1 z2
 obtain ⟨_, c2⟩ := Z6c hm
 have hone : ∀ u ∈ v.cells, u.oneCell' = true := fun u hu => by
  obtain ⟨i, hi⟩ := Array.getElem?_of_mem hu
  have hlt : i < zero.length := by have := (Array.getElem?_eq_some_iff.1 hi).1; simp at z1; omega
  obtain ⟨r1, r2⟩ := c2 w X i u zero[i] (by simpa using hi) (List.getElem?_eq_getElem hlt)
  exact r1.oneCell r2
 refine Zd4 (w1 := w.alloc (.cells v.cells t)) (v := .pointer (some ⟨w.heap.size, 0, none⟩)) (h := .pointer (some ⟨w.heap.size, 0, none⟩)) hs (Yr w _) (by simp) hid hl rfl (box_ok hid z1 hone z2) ?_ (.ref _ 0 _ (by simp [addH])) hK
 simp [execOp, Instr.alloc, zeroValue, typeInfo, hi, hiz, newVar, newRow]
theorem ok_alt (n : Nat) : NewOk P C π (.alt n) := by
 intro K Q a o γ w X s e s0 g d av news h hm hg H hs sub hnew hK
 obtain ⟨dst, op, type, pos, after, guard⟩ := o
 simp only [evA] at h
 split at h
 ·cases h
 simp at h; obtain ⟨rfl, rfl⟩ := h
 simp only [mop] at hm
 split at hm
 case h_2 => cases hm
 rename_i t
 split at hm
 case h_2 => cases hm
 rename_i z hz
 obtain ⟨i, v, hi, hiz, rfl⟩ := Z87 hz
 obtain ⟨hid, hl⟩ := hnew _ _ (Mj _ _)
 simp only [Bool.and_eq_true, beq_iff_eq, List.all_eq_true] at hm
 refine Zd4 (w1 := w.alloc (.cells v.cells t)) (v := .pointer (some ⟨w.heap.size, 0, none⟩)) (h := .pointer (some ⟨w.heap.size, 0, none⟩)) hs (Yr w _) (by simp) hid hl rfl (box_ok hid (by simpa using hm.1) (fun u hu => hm.2 u (by simpa using hu)) (fun i u c _ hc => ?_)) ?_ (.ref _ 0 _ (by simp [addH])) hK
 ·have : c = .top := by
   rw [List.getElem?_replicate] at hc
   split at hc
   ·simpa using hc.symm
   ·cases hc
  rw [this]
  exact .top u
 ·simp [execOp, Instr.alloc, zeroValue, typeInfo, hi, hiz, newVar, newRow]
theorem ok_box (x : Opd) (sz : Nat) : NewOk P C π (.box x sz) := by
 intro K Q a o γ w X s e s0 g d av news h hm hg H hs sub hnew hK
 obtain ⟨dst, op, type, pos, after, guard⟩ := o
 simp only [evA] at h
 split at h
 case h_2 => cases h
 rename_i v hv
 split at h
 case isFalse => cases h
 rename_i hc
 split at h
 ·cases h
 simp at h; obtain ⟨rfl, rfl⟩ := h
 simp only [mop] at hm
 split at hm
 case h_2 => cases hm
 rename_i t x'
 simp only [Bool.and_eq_true] at hm
 obtain ⟨hid, hl⟩ := hnew _ _ (Mj _ _)
 have hr := H.x' hg hm.2 hv (by simp [IOp.opds])
 obtain ⟨k1, k2, k3⟩ := hr.cells hs.one (by simpa using hc.2)
 refine Zd4 (w1 := w.alloc (.cells (a.eval x').cells t)) (v := .pointer (some ⟨w.heap.size, 0, none⟩)) (h := .pointer (some ⟨w.heap.size, 0, none⟩)) hs (Yr w _) (by simp) hid hl rfl (box_ok hid k1 k3 k2) ?_ (.ref _ 0 _ (by simp [addH])) hK
 simp [execOp, Instr.box, newVar, newRow]
end
end Go.Proofs.YteecfnfjlclhdaaGreat.V
