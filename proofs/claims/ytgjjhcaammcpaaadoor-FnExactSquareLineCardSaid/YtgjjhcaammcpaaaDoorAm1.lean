/- THE ABSTRACT MACHINE (AM): a small deterministic evaluator for the program's code. Values are told by lists; a call has a heap of its own that holds the blocks it owns. No condition. -/
import GoSem.Machine.Return
import Derived.Orders
import Derived.Tactics
import Derived.RowKit3
import Derived.Laws.OwnMore
import Derived.ArgAppend
import Derived.Laws.Strings
import Derived.Laws.StructEq
import Derived.Laws.BytesString
import Derived.Lib.ConvBytes
namespace Go.Am

/-- A value. 'sl': a slice that is only read (w: may it be handed back?); 'un': one that its place alone owns; 'ref': a view of a block of the heap;
'ptr': an address in the heap; 'rp': the address of (a part of) a row that is only read; 'junk': whatever. -/
inductive AV where
  | i (k : IntKind) (n : Int)
  | b (x : Bool)
  | s (x : ByteArray)
  | sl (sz : Nat) (w : Bool) (l : List AV)
  | un (sz : Nat) (l : List AV)
  | ref (id : Nat) (p : Option (Nat × Nat)) (off len cap : Nat) (ex : Bool)
  | nil
  | emp
  | ptr (id : Nat) (p : Option (Nat × Nat)) (r c : Nat)
  | rp (row : AV) (c : Nat)
  | nilp
  | agg (l : List AV)
  | tup (l : List AV)
  | fn (f : Nat) (caps : List AV)
  | nilf
  | map (id : Nat)
  | nilm
  | junk
  deriving Inhabited

/-- A block of the heap: a variable's cells; a slice's rows (sz cells each); a map. -/
inductive Blk where
  | box (cs : List AV)
  | arr (sz : Nat) (rows : List AV)
  | mp (es : List (AV × AV))
  deriving Inhabited

abbrev Temps := List (Nat × AV)
abbrev Heap := List (Nat × Blk)

def get : Temps → Nat → AV
  | [], _ => .junk
  | (i, v) :: t, j => if i = j then v else get t j
def find : Heap → Nat → Option Blk
  | [], _ => none
  | (i, b) :: h, j => if i = j then some b else find h j
/-- What stands at j now. -/
def setH : Heap → Nat → Blk → Heap
  | [], j, b => [(j, b)]
  | (i, x) :: h, j, b => if i = j then (i, b) :: h else (i, x) :: setH h j b
def delH : Heap → Nat → Heap
  | [], _ => []
  | (i, x) :: h, j => if i = j then delH h j else (i, x) :: delH h j

/-! ### Names of blocks -/
def nameOf : List (Nat × Nat) → Nat → Option Nat
  | [], _ => none
  | (i, j) :: l, x => if i = x then some j else nameOf l x

mutual
def AV.ren (ρ : List (Nat × Nat)) : AV → AV
  | .ref id p o l c e => match nameOf ρ id with | some j => .ref j p o l c e | none => .junk
  | .ptr id p r c => match nameOf ρ id with | some j => .ptr j p r c | none => .junk
  | .map id => match nameOf ρ id with | some j => .map j | none => .junk
  | .agg l => .agg (AV.renL ρ l)
  | .tup l => .tup (AV.renL ρ l)
  | .fn f l => .fn f (AV.renL ρ l)
  | v => v
def AV.renL (ρ : List (Nat × Nat)) : List AV → List AV
  | [] => []
  | v :: l => v.ren ρ :: AV.renL ρ l
end
mutual
def AV.ids : AV → List Nat
  | .ref id _ _ _ _ _ => [id]
  | .ptr id _ _ _ => [id]
  | .map id => [id]
  | .agg l => AV.idsL l
  | .tup l => AV.idsL l
  | .fn _ l => AV.idsL l
  | _ => []
def AV.idsL : List AV → List Nat
  | [] => []
  | v :: l => v.ids ++ AV.idsL l
end
/- The tags of what is only read, anew. -/
mutual
def AV.tag (w : Bool) : AV → AV
  | .sl sz _ l => .sl sz w l
  | .agg l => .agg (AV.tagL w l)
  | .tup l => .tup (AV.tagL w l)
  | .fn f l => .fn f (AV.tagL w l)
  | v => v
def AV.tagL (w : Bool) : List AV → List AV
  | [] => []
  | v :: l => v.tag w :: AV.tagL w l
end
/- Are all slices that are only read such as may be handed back? -/
mutual
def AV.mayB : AV → Bool
  | .sl _ w _ => w
  | .rp _ _ => false
  | .agg l => AV.mayBL l
  | .tup l => AV.mayBL l
  | .fn _ l => AV.mayBL l
  | _ => true
def AV.mayBL : List AV → Bool
  | [] => true
  | v :: l => v.mayB && AV.mayBL l
end
def Blk.ids : Blk → List Nat
  | .box cs => AV.idsL cs
  | _ => []
def Blk.ren (ρ : List (Nat × Nat)) : Blk → Blk
  | .box cs => .box (AV.renL ρ cs)
  | b => b
def Blk.tag (w : Bool) : Blk → Blk
  | .box cs => .box (AV.tagL w cs)
  | b => b
def mem : List Nat → Nat → Bool
  | [], _ => false
  | x :: l, y => if x = y then true else mem l y
/-- The blocks that are met from some on, in order. -/
def reach (h : Heap) : Nat → List Nat → List Nat → List Nat
  | 0, _, acc => acc
  | _ + 1, [], acc => acc
  | k + 1, x :: ws, acc => bif mem acc x then reach h k ws acc else match find h x with
    | none => reach h k ws acc
    | some b => reach h k (b.ids ++ ws) (acc ++ [x])
def fuel : Nat := 200
def numbered : List Nat → Nat → List (Nat × Nat)
  | [], _ => []
  | x :: l, k => (x, k) :: numbered l (k + 1)
def upTo : Nat → List Nat
  | 0 => []
  | k + 1 => upTo k ++ [k]
/-- The blocks of a list, by new names. -/
def pickH (h : Heap) (ρ : List (Nat × Nat)) : List (Nat × Nat) → Heap
  | [] => []
  | (x, j) :: l => match find h x with
    | some b => (j, b.ren ρ) :: pickH h ρ l
    | none => pickH h ρ l
def idsOf (h : Heap) : List Nat → List Nat
  | [] => []
  | x :: l => match find h x with
    | some b => b.ids ++ idsOf h l
    | none => idsOf h l

structure St where
  t : Temps
  h : Heap
  n : Nat
  deriving Inhabited

def maskT (ρ : List (Nat × Nat)) (t : Temps) : List Nat → Temps
  | [] => []
  | i :: l => (i, (get t i).ren ρ) :: maskT ρ t l
def idsT (t : Temps) : List Nat → List Nat
  | [] => []
  | i :: l => (get t i).ids ++ idsT t l
/-- At a loop's head: the slots that are read later, the blocks that they lead to, under names in order; the first k blocks stay. -/
def norm (k : Nat) (live : List Nat) (st : St) : St :=
  let acc := reach st.h fuel (idsOf st.h (upTo k) ++ idsT st.t live) (upTo k)
  let ρ := numbered acc 0
  { t := maskT ρ st.t live, h := pickH st.h ρ ρ, n := acc.length }

/-! ### The code -/
inductive Opd where
  | t (i : Nat)
  | c (v : AV)
  deriving Inhabited
def Opd.ev (t : Temps) : Opd → AV
  | .t i => get t i
  | .c v => v
def evL (t : Temps) : List Opd → List AV
  | [] => []
  | x :: l => x.ev t :: evL t l

/-- A zero value's cells: (how many, what). -/
abbrev Zero := List (Nat × AV)
def zcells : Zero → List AV
  | [] => []
  | (n, v) :: z => List.replicate n v ++ zcells z
def zrow (a : Bool) (z : Zero) : AV := if a then .agg (zcells z) else match zcells z with
  | [v] => v
  | _ => .junk

/-- Operations. 'a': is the type one of many cells (a struct, an array)? 'd': do an element's cells lead to slices? -/
inductive SOp where
  | mov (x : Opd)
  | pick (c x y : Opd)
  | alloc (z : Zero)
  | box (m : Nat) (x : Opd)
  | load (m : Nat) (a : Bool) (x : Opd)
  | store (m : Nat) (x v : Opd)
  | bin (op : BinOp) (x y : Opd)
  | eqs (neg : Bool) (cells : List (Nat × Nat)) (x y : Opd)
  | beq (neg : Bool) (x y : Opd)
  | isnil (p neg : Bool) (x : Opd)
  | un (op : UnOp) (x : Opd)
  | conv (k : IntKind) (x : Opd)
  | sid (x : Opd)
  | str (x : Opd)
  | bytes (x : Opd)
  | build (z : Zero) (parts : List (Nat × Nat × Opd))
  | bsl (sz : Nat) (a : Bool) (z : Zero) (len : Nat) (parts : List (Nat × Opd))
  | msl (sz bytes : Nat) (a : Bool) (z : Zero) (len cap : Opd)
  | slice (sz : Nat) (x : Opd) (lo hi mx : Option Opd)
  | sub (x : Opd) (lo hi : Option Opd)
  | faddr (off : Nat) (x : Opd)
  | field (off m : Nat) (a : Bool) (x : Opd)
  | iaddr (sz : Nat) (x ix : Opd)
  | iaddrA (n sz : Nat) (x ix : Opd)
  | at (x ix : Opd)
  | atA (n sz m : Nat) (a : Bool) (x ix : Opd)
  | mkfn (f : Nat) (caps : List Opd)
  | extract (x : Opd) (j : Nat)
  | call (f : Nat) (args : List Opd) (mt : List Bool)
  | callv (x : Opd) (args : List Opd) (mt : List Bool)
  | len (s : Bool) (x : Opd)
  | cap (x : Opd)
  | app (sz bytes : Nat) (d : Bool) (x y : Opd)
  | copy (sz : Nat) (x y : Opd)
  | min (l : List Opd)
  | max (l : List Opd)
  | clear (a : Bool) (z : Zero) (x : Opd)
  | nilchk (x : Opd)
  | mkmap
  | look (z : Zero) (a ok : Bool) (x k : Opd)
  | mupd (x k v : Opd)
  | mlen (x : Opd)
  | del (x k : Opd)
  | unknown
  | fail
  deriving Inhabited

structure SOper where
  dst : Option Nat
  guard : Option (Nat × Bool)
  op : SOp
  deriving Inhabited

/-- 'draw': of each operation, which others of the region it may come before or behind. -/
inductive SCode where
  | skip
  | region (ops : List SOper)
  | draw (ops : List SOper) (free : List (List Nat))
  | seq (a b : SCode)
  | cond (c : Opd) (a b : SCode)
  | block (id : Nat) (a : SCode)
  | loop (f l : Nat) (live : List Nat)
  | exit (id : Nat)
  | ret
  deriving Inhabited

inductive Ex where
  | norm
  | exit (id : Nat)
  | ret
  deriving DecidableEq, Inhabited

inductive Res where
  | tmp (t : Nat)
  | cell (t m : Nat) (a : Bool)
  deriving Inhabited

structure SFunc where
  nargs : Nat
  results : List Res
  body : SCode
  deriving Inhabited

/-! ### Rows, cells, places -/
/-- A part of a row's cells. -/
def cellsOf : AV → List AV
  | .agg l => l
  | v => [v]
def mkVal (a : Bool) : List AV → Option AV
  | [v] => some (if a then .agg [v] else v)
  | l => if a then some (.agg l) else none
def sub? {α : Type} (l : List α) (c m : Nat) : Option (List α) := if c + m ≤ l.length then some ((l.drop c).take m) else none
def putAt (l : List AV) (c : Nat) (vs : List AV) : List AV := l.take c ++ vs ++ l.drop (c + vs.length)

/-- What a cell of an owned row tells: a slice in it is a view of it. -/
def openCell (id r c : Nat) : AV → AV
  | .un _ l => .ref id (some (r, c)) 0 l.length l.length false
  | .i k n => .i k n
  | .b x => .b x
  | .s x => .s x
  | .nil => .nil
  | .emp => .emp
  | _ => .junk
def openCells (id r : Nat) : Nat → List AV → List AV
  | _, [] => []
  | c, v :: l => openCell id r c v :: openCells id r (c + 1) l
/- What a cell of a row that is only read tells. -/
mutual
def AV.read (w : Bool) : AV → AV
  | .un sz l => .sl sz w l
  | .sl sz _ l => .sl sz w l
  | .agg l => .agg (AV.readL w l)
  | .i k n => .i k n
  | .b x => .b x
  | .s x => .s x
  | .nil => .nil
  | .emp => .emp
  | _ => .junk
def AV.readL (w : Bool) : List AV → List AV
  | [] => []
  | v :: l => v.read w :: AV.readL w l
end
/-- A cell of a row within a row: no slices any more. -/
def flatCell : AV → AV
  | .i k n => .i k n
  | .b x => .b x
  | .s x => .s x
  | _ => .junk
def flatCells : List AV → List AV
  | [] => []
  | v :: l => flatCell v :: flatCells l

/-- The rows behind a view: of a block, or of a slice in one of its rows. -/
def rowsAt (h : Heap) (id : Nat) (p : Option (Nat × Nat)) : Option (Nat × List AV) :=
  match find h id, p with
  | some (.arr sz rows), none => some (sz, rows)
  | some (.arr _ rows), some (r, c) => match rows[r]? with
    | some row => match (cellsOf row)[c]? with
      | some (.un sz l) => some (sz, l)
      | _ => none
    | none => none
  | _, _ => none
def view (rows : List AV) (off len : Nat) : Option (List AV) :=
  if off = 0 ∧ len = rows.length then some rows else if off + len ≤ rows.length then some ((rows.drop off).take len) else none
def setRows (h : Heap) (id : Nat) (p : Option (Nat × Nat)) (rows' : List AV) : Option Heap :=
  match find h id, p with
  | some (.arr sz _), none => some (setH h id (.arr sz rows'))
  | some (.arr sz rows), some (r, c) => match rows[r]? with
    | some (.agg cs) => match cs[c]? with
      | some (.un sz' _) => some (setH h id (.arr sz (rows.set r (.agg (cs.set c (.un sz' rows'))))))
      | _ => none
    | some (.un sz' _) => if c = 0 then some (setH h id (.arr sz (rows.set r (.un sz' rows')))) else none
    | _ => none
  | _, _ => none
end Go.Am
/- THE ABSTRACT MACHINE (AM): what its operations, calls and code come to. No condition. -/
namespace Go.Am

abbrev Oracle := Nat → List AV → Heap → Option (AV × Heap)
abbrev LOracle := Nat → Nat → Nat → St → Option (Ex × St)

/-! ### Numbers, strings -/
def bitsOf (op : BinOp) (k : IntKind) (x y : Int) : Int :=
  let a := BitVec.ofInt k.bits x
  let b := BitVec.ofInt k.bits y
  match op with
  | .and => k.wrap (a &&& b).toNat
  | .or => k.wrap (a ||| b).toNat
  | .xor => k.wrap (a ^^^ b).toNat
  | _ => k.wrap (a &&& ~~~b).toNat
def binInt (op : BinOp) (k : IntKind) (a b : Int) : Option AV :=
  match op with
  | .add => some (.i k (k.wrap (a + b)))
  | .sub => some (.i k (k.wrap (a - b)))
  | .mul => some (.i k (k.wrap (a * b)))
  | .quo => if b = 0 then none else some (.i k (k.wrap (a.tdiv b)))
  | .rem => if b = 0 then none else some (.i k (a.tmod b))
  | .and => some (.i k (bitsOf .and k a b))
  | .or => some (.i k (bitsOf .or k a b))
  | .xor => some (.i k (bitsOf .xor k a b))
  | .andNot => some (.i k (bitsOf .andNot k a b))
  | .eql => some (.b (decide (a = b)))
  | .neq => some (.b (!decide (a = b)))
  | .lss => some (.b (decide (a < b)))
  | .leq => some (.b (decide (a ≤ b)))
  | .gtr => some (.b (decide (b < a)))
  | .geq => some (.b (decide (b ≤ a)))
  | _ => none
def shiftInt (op : BinOp) (k : IntKind) (a b : Int) : Option AV :=
  if b < 0 then none else match op with
  | .shl => some (.i k (k.wrap (a * 2 ^ (min b.toNat k.bits))))
  | .shr => some (.i k (a.fdiv (2 ^ (min b.toNat k.bits))))
  | _ => none
def strOp (op : BinOp) (x y : ByteArray) : Option AV :=
  match op with
  | .add => if x.size + y.size ≤ 9223372036854775807 then some (.s (x ++ y)) else none
  | .eql => some (.b (decide (x = y)))
  | .neq => some (.b (!decide (x = y)))
  | .lss => some (.b (Op.bytesLess x.toList y.toList))
  | .geq => some (.b (!Op.bytesLess x.toList y.toList))
  | _ => none
def binOp (op : BinOp) (x y : AV) : Option AV :=
  match x, y with
  | .i k a, .i k' b => match op with
    | .shl => shiftInt .shl k a b
    | .shr => shiftInt .shr k a b
    | op => if k = k' then binInt op k a b else none
  | .s a, .s b => strOp op a b
  | _, _ => none
/-- Two cells are equal (numbers: 0; bools: 1; strings: 2). -/
def cellEq : Nat → AV → AV → Option Bool
  | 0, .i k a, .i k' b => if k = k' then some (decide (a = b)) else none
  | 1, .b a, .b b => some (a == b)
  | 2, .s a, .s b => some (decide (a = b))
  | _, _, _ => none
def cellsEq (xs ys : List AV) : List (Nat × Nat) → Option Bool
  | [] => some true
  | (c, kd) :: cs => match xs[c]?, ys[c]? with
    | some x, some y => match cellEq kd x y with
      | some e => match cellsEq xs ys cs with
        | some r => some (e && r)
        | none => none
      | none => none
    | _, _ => none
def unOp (op : UnOp) (x : AV) : Option AV :=
  match op, x with
  | .neg, .i k n => some (.i k (k.wrap (0 - n)))
  | .xor, .i k n => some (.i k (bitsOf .xor k (if k.signed then -1 else k.max) n))
  | .not, .b x => some (.b (!x))
  | _, _ => none
def maxAV : AV → List AV → Option AV
  | v, [] => some v
  | .i k x, .i k' y :: l => if k = k' then maxAV (.i k (if y > x then y else x)) l else none
  | _, _ => none
def minAV : AV → List AV → Option AV
  | v, [] => some v
  | .i k x, .i k' y :: l => if k = k' then minAV (.i k (if y < x then y else x)) l else none
  | _, _ => none

/-! ### Cells and rows -/
/-- May it stand in a variable's cell? -/
def boxable : AV → Bool
  | .agg _ | .tup _ | .un _ _ | .junk => false
  | _ => true
def boxableL : List AV → Bool
  | [] => true
  | v :: l => boxable v && boxableL l
def flatC : AV → Bool
  | .i _ _ | .b _ | .s _ => true
  | _ => false
def flatCL : List AV → Bool
  | [] => true
  | v :: l => flatC v && flatCL l
def flatR : AV → Bool
  | .agg l => flatCL l
  | v => flatC v
/-- Rows of numbers, bools, strings alone. -/
def flatL : List AV → Bool
  | [] => true
  | v :: l => flatR v && flatL l
/-- A value that becomes a cell of a row: a slice is moved there. -/
def takeCell (h : Heap) : AV → Option (AV × Heap)
  | .i k n => some (.i k n, h)
  | .b x => some (.b x, h)
  | .s x => some (.s x, h)
  | .nil => some (.nil, h)
  | .emp => some (.emp, h)
  | .ref id none off len _ _ => match rowsAt h id none with
    | some (sz, rows) => match view rows off len with
      | some l => some (.un sz l, delH h id)
      | none => none
    | none => none
  | _ => none
def takeCells (h : Heap) : List AV → Option (List AV × Heap)
  | [] => some ([], h)
  | v :: l => match takeCell h v with
    | some (x, h') => match takeCells h' l with
      | some (xs, h'') => some (x :: xs, h'')
      | none => none
    | none => none
def takeRow (h : Heap) (sz : Nat) : AV → Option (AV × Heap)
  | .agg l => if l.length = sz then match takeCells h l with
      | some (xs, h') => some (.agg xs, h')
      | none => none
    else none
  | v => if sz = 1 then takeCell h v else none
def takeRows (h : Heap) (sz : Nat) (rows : List AV) : List (Nat × AV) → Option (List AV × Heap)
  | [] => some (rows, h)
  | (j, v) :: l => match takeRow h sz v with
    | some (x, h') => if j < rows.length then takeRows h' sz (rows.set j x) l else none
    | none => none

def loadVal (h : Heap) (m : Nat) (a : Bool) : AV → Option AV
  | .ptr id none r c => match find h id with
    | some (.box cs) => if r = 0 then (sub? cs c m).bind (mkVal a) else none
    | some (.arr _ rows) => match rows[r]? with
      | some row => (sub? (cellsOf row) c m).bind fun l => mkVal a (openCells id r c l)
      | none => none
    | _ => none
  | .ptr id (some p) r c => match rowsAt h id (some p) with
    | some (_, rows) => match rows[r]? with
      | some row => (sub? (cellsOf row) c m).bind fun l => mkVal a (flatCells l)
      | none => none
    | none => none
  | .rp row c => (sub? (cellsOf row) c m).bind (mkVal a)
  | _ => none
/-- A row with other cells from c on. -/
def putRow (row : AV) (c : Nat) (vs : List AV) : Option AV :=
  match row with
  | .agg l => if c + vs.length ≤ l.length then some (.agg (putAt l c vs)) else none
  | _ => match vs with
    | [v] => if c = 0 then some v else none
    | _ => none
def storeVal (h : Heap) (m : Nat) (v : AV) : AV → Option Heap
  | .ptr id none r c => match find h id with
    | some (.box cs) => if r = 0 ∧ c + m ≤ cs.length ∧ (cellsOf v).length = m ∧ boxableL (cellsOf v) = true then some (setH h id (.box (putAt cs c (cellsOf v)))) else none
    | some (.arr sz rows) => match rows[r]? with
      | some row => if flatR row = true ∧ (cellsOf v).length = m ∧ flatCL (cellsOf v) = true then match putRow row c (cellsOf v) with
          | some row' => some (setH h id (.arr sz (rows.set r row')))
          | none => none
        else none
      | none => none
    | _ => none
  | .ptr id (some p) r c => match rowsAt h id (some p) with
    | some (_, rows) => match rows[r]? with
      | some row => if flatR row = true ∧ (cellsOf v).length = m ∧ flatCL (cellsOf v) = true then match putRow row c (cellsOf v) with
          | some row' => setRows h id (some p) (rows.set r row')
          | none => none
        else none
      | none => none
    | none => none
  | _ => none

/-! ### Slices -/
def evO (t : Temps) : Option Opd → Option (Option Int)
  | none => some none
  | some x => match x.ev t with
    | .i _ n => some (some n)
    | _ => none
def sliceVal (h : Heap) (sz' : Nat) (x : AV) (lo hi mx : Option Int) : Option AV :=
  match x with
  | .sl sz w l =>
    let i := lo.getD 0
    let j := hi.getD l.length
    let k := mx.getD l.length
    if sz = sz' ∧ 0 ≤ i ∧ i ≤ j ∧ j ≤ k ∧ k ≤ l.length then
      (if mx.isSome ∧ k = i then some .emp else some (.sl sz w ((l.drop i.toNat).take (j - i).toNat)))
    else none
  | .ref id p off len cap ex =>
    let i := lo.getD 0
    let j := hi.getD len
    let k := mx.getD cap
    match rowsAt h id p with
    | some (sz, _) => if sz = sz' ∧ 0 ≤ i ∧ i ≤ j ∧ j ≤ k ∧ k ≤ cap then some (.ref id p (off + i.toNat) (j - i).toNat (k - i).toNat (mx.isSome || ex)) else none
    | none => none
  | .nil => if lo.getD 0 = 0 ∧ hi.getD 0 = 0 ∧ mx.getD 0 = 0 then some .nil else none
  | .emp => if lo.getD 0 = 0 ∧ hi.getD 0 = 0 ∧ mx.getD 0 = 0 then some .emp else none
  | _ => none
def subVal (x : AV) (lo hi : Option Int) : Option AV :=
  match x with
  | .s s =>
    let i := lo.getD 0
    let j := hi.getD s.size
    if 0 ≤ i ∧ i ≤ j ∧ j ≤ s.size then some (.s (s.extract i.toNat j.toNat)) else none
  | _ => none
def lenVal : AV → Option Int
  | .sl _ _ l => some l.length
  | .ref _ _ _ n _ _ => some n
  | .nil => some 0
  | .emp => some 0
  | .s x => some x.size
  | _ => none
/-- A slice's rows, told anew: numbers, bools, strings. -/
def elems (h : Heap) (sz : Nat) : AV → Option (List AV)
  | .nil => some []
  | .emp => some []
  | .sl sz' _ l => if sz = sz' ∧ flatL l = true then some l else none
  | .ref id p off len _ _ => match rowsAt h id p with
    | some (sz', rows) => match view rows off len with
      | some l => if sz = sz' ∧ flatL l = true then some l else none
      | none => none
    | none => none
  | _ => none
/-- Rows that are moved out of a block. -/
def moved (h : Heap) (sz : Nat) : AV → Option (List AV × Heap)
  | .nil => some ([], h)
  | .emp => some ([], h)
  | .ref id none off len _ _ => match rowsAt h id none with
    | some (sz', rows) => match view rows off len with
      | some l => if sz = sz' then some (l, delH h id) else none
      | none => none
    | none => none
  | _ => none
def appOnto (h : Heap) (n sz bytes : Nat) (x : AV) (ys : List AV) : Option (AV × Heap × Nat) :=
  match x with
  | .nil => if ys.length = 0 then some (.nil, h, n) else if ys.length * bytes ≤ 140737488355328 then
      some (.ref n none 0 ys.length ys.length false, (n, .arr sz ys) :: h, n + 1) else none
  | .emp => if ys.length = 0 then some (.emp, h, n) else if ys.length * bytes ≤ 140737488355328 then
      some (.ref n none 0 ys.length ys.length false, (n, .arr sz ys) :: h, n + 1) else none
  | .ref id none off len cap ex => match rowsAt h id none with
    | some (sz', rows) =>
      if sz = sz' then
        if ys.length = 0 then some (.ref id none off len cap ex, h, n)
        else if len + ys.length ≤ cap then
          (if flatL rows = true ∧ flatL ys = true ∧ off + len + ys.length ≤ rows.length then
            some (.ref id none off (len + ys.length) cap ex, setH h id (.arr sz (rows.take (off + len) ++ ys ++ rows.drop (off + len + ys.length))), n)
          else none)
        else if (len + ys.length) * bytes ≤ 140737488355328 then match view rows off len with
          | some l => some (.ref n none 0 (len + ys.length) (len + ys.length) false, (n, .arr sz (l ++ ys)) :: (if ex = true ∧ flatL rows = true then h else delH h id), n + 1)
          | none => none
        else none
      else none
    | none => none
  | _ => none
def appVal (h : Heap) (n sz bytes : Nat) (d : Bool) (x y : AV) : Option (AV × Heap × Nat) :=
  if d then match moved h sz y with
    | some (ys, h') => appOnto h' n sz bytes x ys
    | none => none
  else match elems h sz y with
    | some ys => appOnto h n sz bytes x ys
    | none => none
/-- Rows of a view, anew. -/
def putRows (h : Heap) (sz : Nat) (ys : List AV) : AV → Option Heap
  | .ref id p off _ _ _ => match rowsAt h id p with
    | some (sz', rows) => if sz = sz' ∧ flatL rows = true ∧ flatL ys = true ∧ off + ys.length ≤ rows.length then
        setRows h id p (rows.take off ++ ys ++ rows.drop (off + ys.length)) else none
    | none => none
  | _ => none
def byteC : AV → Bool
  | .i .u8 n => decide (0 ≤ n ∧ n < 256)
  | _ => false
def bytesL : List AV → Bool
  | [] => true
  | v :: l => byteC v && bytesL l
def byteAt : AV → UInt8
  | .i _ n => n.toNat.toUInt8
  | _ => 0
def strOf (l : List AV) : ByteArray := ⟨(l.map byteAt).toArray⟩
def ofStr (s : ByteArray) : List AV := s.toList.map fun x => .i .u8 x.toNat

/-! ### Calls -/
/-- The blocks that a call may write: those behind addresses, closures, maps, and slices that are marked. -/
def placesOf : List AV → List Bool → List Nat
  | [], _ => []
  | .ref id none _ _ _ _ :: l, m => (if m.headD true then [id] else []) ++ placesOf l m.tail
  | .ptr id none _ _ :: l, m => id :: placesOf l m.tail
  | .map id :: l, m => id :: placesOf l m.tail
  | .fn _ caps :: l, m => AV.idsL caps ++ placesOf l m.tail
  | _ :: l, m => placesOf l m.tail
/-- What a call is handed in a value's place. -/
def lend (h : Heap) (acc : List Nat) (ρ : List (Nat × Nat)) : AV → Option AV
  | .ref id p off len c e => bif mem acc id then (match p with
      | none => some (AV.ren ρ (.ref id none off len c e))
      | some _ => none)
    else match rowsAt h id p with
      | some (sz, rows) => match view rows off len with
        | some l => some (.sl sz false l)
        | none => none
      | none => none
  | .sl sz _ l => some (.sl sz true l)
  | .ptr id none r c => bif mem acc id then some (AV.ren ρ (.ptr id none r c)) else none
  | .map id => bif mem acc id then some (AV.ren ρ (.map id)) else none
  | .fn f caps => some (.fn f (AV.tagL true (AV.renL ρ caps)))
  | .i k n => some (.i k n)
  | .b x => some (.b x)
  | .s x => some (.s x)
  | .nil => some .nil
  | .emp => some .emp
  | .nilp => some .nilp
  | .nilf => some .nilf
  | .nilm => some .nilm
  | .rp row c => some (.rp row c)
  | _ => none
def lendL (h : Heap) (acc : List Nat) (ρ : List (Nat × Nat)) : List AV → Option (List AV)
  | [] => some []
  | v :: l => match lend h acc ρ v with
    | some x => match lendL h acc ρ l with
      | some xs => some (x :: xs)
      | none => none
    | none => none
def lendA (h : Heap) (acc : List Nat) (ρ : List (Nat × Nat)) : List AV → Option (List AV)
  | [] => some []
  | .agg l :: vs => match lendL h acc ρ l with
    | some xs => match lendA h acc ρ vs with
      | some ys => some (.agg xs :: ys)
      | none => none
    | none => none
  | v :: vs => match lend h acc ρ v with
    | some x => match lendA h acc ρ vs with
      | some ys => some (x :: ys)
      | none => none
    | none => none
/-- What comes back: a slice that the callee made becomes a block of the caller's. -/
def giveC (w : Bool) (ρ : List (Nat × Nat)) (h : Heap) (n : Nat) : AV → AV × Heap × Nat
  | .un sz l => (.ref n none 0 l.length l.length false, (n, .arr sz l) :: h, n + 1)
  | v => ((v.ren ρ).tag w, h, n)
def giveL (w : Bool) (ρ : List (Nat × Nat)) (h : Heap) (n : Nat) : List AV → List AV × Heap × Nat
  | [] => ([], h, n)
  | v :: l =>
    let (x, h1, n1) := giveC w ρ h n v
    let (xs, h2, n2) := giveL w ρ h1 n1 l
    (x :: xs, h2, n2)
def giveR (w : Bool) (ρ : List (Nat × Nat)) (h : Heap) (n : Nat) : AV → AV × Heap × Nat
  | .agg l => let (xs, h', n') := giveL w ρ h n l; (.agg xs, h', n')
  | v => giveC w ρ h n v
def giveT (w : Bool) (ρ : List (Nat × Nat)) (h : Heap) (n : Nat) : List AV → List AV × Heap × Nat
  | [] => ([], h, n)
  | v :: l =>
    let (x, h1, n1) := giveR w ρ h n v
    let (xs, h2, n2) := giveT w ρ h1 n1 l
    (x :: xs, h2, n2)
def give (w : Bool) (ρ : List (Nat × Nat)) (h : Heap) (n : Nat) : AV → AV × Heap × Nat
  | .tup l => let (xs, h', n') := giveT w ρ h n l; (.tup xs, h', n')
  | v => giveR w ρ h n v
def delAll (h : Heap) : List Nat → Heap
  | [] => h
  | x :: l => delAll (delH h x) l
/-- The names behind a call of the blocks that it hands back. -/
def backNames (acc : List Nat) (k n : Nat) : Heap → List (Nat × Nat)
  | [] => []
  | (j, _) :: h' => (j, if j < k then acc.getD j 0 else n + (j - k)) :: backNames acc k n h'
def backH (w : Bool) (ρ : List (Nat × Nat)) : Heap → Heap
  | [] => []
  | (j, b) :: h' => match nameOf ρ j with
    | some x => (x, (b.ren ρ).tag w) :: backH w ρ h'
    | none => backH w ρ h'
def tagH : Heap → Heap
  | [] => []
  | (j, b) :: h => (j, b.tag true) :: tagH h
def mayH : Heap → Bool
  | [] => true
  | (_, .box cs) :: h => AV.mayBL cs && mayH h
  | _ :: h => mayH h
def callOn (C : Oracle) (h : Heap) (n f : Nat) (args : List AV) (mt : List Bool) : Option (AV × Heap × Nat) :=
  let acc := reach h fuel (placesOf args mt) []
  let ρ := numbered acc 0
  match lendA h acc ρ args with
  | none => none
  | some args' =>
    let h0 := pickH h ρ ρ
    let w := AV.mayBL args && mayH h0
    match C f args' (tagH h0) with
    | none => none
    | some (r, h') =>
      let ρ' := backNames acc acc.length n h'
      let (v, h'', n') := give w ρ' (backH w ρ' h' ++ delAll h acc) (n + h'.length) r
      some (v, h'', n')
/-- The one argument that is a slice in a row and is marked: what the call is handed; its place. -/
def nestArgs (h : Heap) : List AV → List Bool → Option (List AV × Nat × Nat × Nat × Nat × List AV)
  | .ref id (some (r, c)) off len cap ex :: l, m => if m.headD false = true then
      match rowsAt h id (some (r, c)) with
      | some (sz, rows) => match lendA (delH h id) [] [] l with
        | some l' => if (placesOf l m.tail).length = 0 then some (.ref 0 none off len cap ex :: l', id, r, c, sz, rows) else none
        | none => none
      | none => none
    else none
  | _, _ => none
def scalarR : AV → Bool
  | .i _ _ | .b _ | .s _ => true
  | .tup l => flatCL l
  | _ => false
def callNest (C : Oracle) (h : Heap) (n f : Nat) (args : List AV) (mt : List Bool) : Option (AV × Heap × Nat) :=
  match nestArgs h args mt with
  | none => none
  | some (args', id, r, c, sz, rows) => match C f args' [(0, .arr sz rows)] with
    | some (v, [(0, .arr sz' rows')]) =>
      if scalarR v = true ∧ 0 < sz ∧ sz = sz' ∧ rows.length = rows'.length then match setRows h id (some (r, c)) rows' with
        | some h' => some (v, h', n)
        | none => none
      else none
    | _ => none
def isNest : List AV → List Bool → Bool
  | .ref _ (some _) _ _ _ _ :: _, m => m.headD false
  | _, _ => false
def doCall (C : Oracle) (h : Heap) (n f : Nat) (args : List AV) (mt : List Bool) : Option (AV × Heap × Nat) :=
  if isNest args mt then callNest C h n f args mt else callOn C h n f args mt

/-! ### Operations -/
def vhn (v : Option AV) (h : Heap) (n : Nat) : Option (AV × Heap × Nat) :=
  match v with
  | some v => some (v, h, n)
  | none => none
def isNilS : AV → Option Bool
  | .nil => some true
  | .ref _ _ _ n _ _ => if 0 < n then some false else none
  | .sl _ _ l => if 0 < l.length then some false else none
  | _ => none
def isNilP : AV → Option Bool
  | .nilp => some true
  | .ptr _ _ _ _ => some false
  | .rp _ _ => some false
  | _ => none
def lenIf (s : Bool) (x : AV) : Option Int :=
  match x with
  | .s _ => if s then lenVal x else none
  | _ => if s then none else lenVal x
def fillParts (t : Temps) (cs : List AV) : List (Nat × Nat × Opd) → Option (List AV)
  | [] => some cs
  | (off, m, x) :: l => if off + m ≤ cs.length ∧ (cellsOf (x.ev t)).length = m ∧ boxableL (cellsOf (x.ev t)) = true then
      fillParts t (putAt cs off (cellsOf (x.ev t))) l else none
def onesB : List AV → Bool
  | [] => true
  | .agg _ :: _ => false
  | _ :: l => onesB l
def evParts (t : Temps) : List (Nat × Opd) → List (Nat × AV)
  | [] => []
  | (j, x) :: l => (j, x.ev t) :: evParts t l
def opRun (C : Oracle) (t : Temps) (h : Heap) (n : Nat) : SOp → Option (AV × Heap × Nat)
  | .mov x => some (x.ev t, h, n)
  | .pick c x y => match c.ev t with
    | .b true => some (x.ev t, h, n)
    | .b false => some (y.ev t, h, n)
    | _ => none
  | .alloc z => some (.ptr n none 0 0, (n, .box (zcells z)) :: h, n + 1)
  | .box m x => if (cellsOf (x.ev t)).length = m ∧ boxableL (cellsOf (x.ev t)) = true then some (.ptr n none 0 0, (n, .box (cellsOf (x.ev t))) :: h, n + 1) else none
  | .load m a x => vhn (loadVal h m a (x.ev t)) h n
  | .store m x v => match storeVal h m (v.ev t) (x.ev t) with
    | some h' => some (.tup [], h', n)
    | none => none
  | .bin op x y => vhn (binOp op (x.ev t) (y.ev t)) h n
  | .eqs neg cells x y => match x.ev t, y.ev t with
    | .agg xs, .agg ys => match cellsEq xs ys cells with
      | some e => some (.b (if neg then !e else e), h, n)
      | none => none
    | _, _ => none
  | .beq neg x y => match x.ev t, y.ev t with
    | .b a, .b b => some (.b (if neg then !(a == b) else a == b), h, n)
    | _, _ => none
  | .isnil p neg x => match (if p then isNilP (x.ev t) else isNilS (x.ev t)) with
    | some e => some (.b (if neg then !e else e), h, n)
    | none => none
  | .un op x => vhn (unOp op (x.ev t)) h n
  | .conv k x => match x.ev t with
    | .i _ m => some (.i k (k.wrap m), h, n)
    | _ => none
  | .sid x => match x.ev t with
    | .s s => some (.s s, h, n)
    | _ => none
  | .str x => match elems h 1 (x.ev t) with
    | some l => if bytesL l = true then some (.s (strOf l), h, n) else none
    | none => none
  | .bytes x => match x.ev t with
    | .s s => if 0 < s.size ∧ s.size ≤ 140737488355328 then some (.ref n none 0 s.size s.size false, (n, .arr 1 (ofStr s)) :: h, n + 1) else none
    | _ => none
  | .build z parts => match fillParts t (zcells z) parts with
    | some cs => some (.agg cs, h, n)
    | none => none
  | .bsl sz a z len parts => match takeRows h sz (List.replicate len (zrow a z)) (evParts t parts) with
    | some (rows, h') => some (.ref n none 0 len len true, (n, .arr sz rows) :: h', n + 1)
    | none => none
  | .msl sz bytes a z l c => match l.ev t, c.ev t with
    | .i .i64 l, .i .i64 c => if 0 ≤ l ∧ l ≤ c ∧ c * bytes ≤ 140737488355328 then
        some (.ref n none 0 l.toNat c.toNat true, (n, .arr sz (List.replicate c.toNat (zrow a z))) :: h, n + 1) else none
    | _, _ => none
  | .slice sz x lo hi mx => match evO t lo, evO t hi, evO t mx with
    | some lo, some hi, some mx => vhn (sliceVal h sz (x.ev t) lo hi mx) h n
    | _, _, _ => none
  | .sub x lo hi => match evO t lo, evO t hi with
    | some lo, some hi => vhn (subVal (x.ev t) lo hi) h n
    | _, _ => none
  | .faddr off x => match x.ev t with
    | .ptr id p r c => some (.ptr id p r (c + off), h, n)
    | .rp row c => some (.rp row (c + off), h, n)
    | _ => none
  | .field off m a x => match x.ev t with
    | .agg l => vhn ((sub? l off m).bind (mkVal a)) h n
    | _ => none
  | .iaddr sz x ix => match x.ev t, ix.ev t with
    | .sl sz' w l, .i _ i => if sz = sz' ∧ 0 ≤ i then match l[i.toNat]? with
        | some v => some (.rp (v.read w) 0, h, n)
        | none => none
      else none
    | .ref id p off len _ _, .i _ i => if 0 ≤ i ∧ i < len then match rowsAt h id p with
        | some (sz', _) => if sz = sz' then some (.ptr id p (off + i.toNat) 0, h, n) else none
        | none => none
      else none
    | _, _ => none
  | .iaddrA m sz x ix => match x.ev t, ix.ev t with
    | .ptr id p r c, .i _ i => if 0 ≤ i ∧ i < m then some (.ptr id p r (c + i.toNat * sz), h, n) else none
    | .rp row c, .i _ i => if 0 ≤ i ∧ i < m then some (.rp row (c + i.toNat * sz), h, n) else none
    | _, _ => none
  | .at x ix => match x.ev t, ix.ev t with
    | .s s, .i _ i => if 0 ≤ i then match s[i.toNat]? with
        | some b => some (.i .u8 b.toNat, h, n)
        | none => none
      else none
    | _, _ => none
  | .atA k sz m a x ix => match x.ev t, ix.ev t with
    | .agg l, .i _ i => if 0 ≤ i ∧ i < k then vhn ((sub? l (i.toNat * sz) m).bind (mkVal a)) h n else none
    | _, _ => none
  | .mkfn f caps => if boxableL (evL t caps) = true then some (.fn f (evL t caps), h, n) else none
  | .extract x j => match x.ev t with
    | .tup l => vhn l[j]? h n
    | _ => none
  | .call f args mt => doCall C h n f (evL t args) mt
  | .callv x args mt => match x.ev t with
    | .fn f caps => if onesB caps = true then callOn C h n f (evL t args ++ caps) (mt ++ List.replicate caps.length true) else none
    | _ => none
  | .len s x => match lenIf s (x.ev t) with
    | some m => some (.i .i64 m, h, n)
    | none => none
  | .cap x => match x.ev t with
    | .ref _ _ _ _ c true => some (.i .i64 c, h, n)
    | .nil => some (.i .i64 0, h, n)
    | .emp => some (.i .i64 0, h, n)
    | _ => none
  | .app sz bytes d x y => appVal h n sz bytes d (x.ev t) (y.ev t)
  | .copy sz x y => match elems h sz (y.ev t), lenVal (x.ev t) with
    | some ys, some m => match putRows h sz (ys.take m.toNat) (x.ev t) with
      | some h' => some (.i .i64 (min ys.length m), h', n)
      | none => none
    | _, _ => none
  | .min l => match evL t l with
    | v :: vs => vhn (minAV v vs) h n
    | [] => none
  | .max l => match evL t l with
    | v :: vs => vhn (maxAV v vs) h n
    | [] => none
  | .clear a z x => match lenVal (x.ev t), zrow a z with
    | some m, v => if flatR v = true then match putRows h (cellsOf v).length (List.replicate m.toNat v) (x.ev t) with
        | some h' => some (.tup [], h', n)
        | none => none
      else none
    | _, _ => none
  | .nilchk x => match x.ev t with
    | .ptr id p r c => some (.ptr id p r c, h, n)
    | .rp row c => some (.rp row c, h, n)
    | .fn f caps => some (.fn f caps, h, n)
    | _ => none
  | .unknown => some (.junk, h, n)
  | _ => none

/-! ### Code -/
def putT (t : Temps) : Option Nat → AV → Temps
  | some d, v => (d, v) :: t
  | none, _ => t
/-- Is the operation carried out? -/
def wanted (t : Temps) : Option (Nat × Bool) → Option Bool
  | none => some true
  | some (g, want) => match get t g with
    | .b x => some (x == want)
    | .tup [] => some false
    | _ => none
def stepOp (C : Oracle) (st : St) (o : SOper) : Option St :=
  match wanted st.t o.guard with
  | none => none
  | some false => some { st with t := putT st.t o.dst (.tup []) }
  | some true => match opRun C st.t st.h st.n o.op with
    | some (v, h, n) => some { t := putT st.t o.dst v, h, n }
    | none => none
def runOps (C : Oracle) : List SOper → St → Option St
  | [], st => some st
  | o :: l, st => match stepOp C st o with
    | some st' => runOps C l st'
    | none => none
/-! ### A region that may come in several orders -/
def opdIds (t : Temps) : List Opd → List Nat
  | [] => []
  | x :: l => (x.ev t).ids ++ opdIds t l
def oL : Option Opd → List Opd
  | some x => [x]
  | none => []
def sndL : List (Nat × Opd) → List Opd
  | [] => []
  | (_, x) :: l => x :: sndL l
def trdL : List (Nat × Nat × Opd) → List Opd
  | [] => []
  | (_, _, x) :: l => x :: trdL l
def SOp.opds : SOp → List Opd
  | .mov x | .box _ x | .load _ _ x | .isnil _ _ x | .un _ x | .conv _ x | .sid x | .str x | .bytes x | .faddr _ x | .field _ _ _ x | .extract x _ | .len _ x | .cap x | .clear _ _ x | .nilchk x | .mlen x => [x]
  | .pick c x y => [c, x, y]
  | .alloc _ | .mkmap | .unknown | .fail => []
  | .store _ x v => [x, v]
  | .bin _ x y | .beq _ x y | .eqs _ _ x y | .app _ _ _ x y | .copy _ x y | .del x y => [x, y]
  | .build _ ps => trdL ps
  | .bsl _ _ _ _ ps => sndL ps
  | .msl _ _ _ _ l c => [l, c]
  | .slice _ x lo hi mx => x :: (oL lo ++ oL hi ++ oL mx)
  | .sub x lo hi => x :: (oL lo ++ oL hi)
  | .iaddr _ x ix | .iaddrA _ _ x ix | .at x ix | .atA _ _ _ _ x ix => [x, ix]
  | .mkfn _ caps => caps
  | .call _ args _ => args
  | .callv x args _ => x :: args
  | .min l | .max l => l
  | .look _ _ _ x k => [x, k]
  | .mupd x k v => [x, k, v]
/-- The values whose blocks an operation looks into. -/
def SOp.looks : SOp → List Opd
  | .load _ _ x | .str x | .clear _ _ x | .mlen x => [x]
  | .store _ x v => [x, v]
  | .app _ _ _ x y | .copy _ x y | .del x y => [x, y]
  | .bsl _ _ _ _ ps => sndL ps
  | .slice _ x _ _ _ => [x]
  | .iaddr _ x _ => [x]
  | .call _ args _ => args
  | .callv x args _ => x :: args
  | .look _ _ _ x k => [x, k]
  | .mupd x k v => [x, k, v]
  | _ => []
/-- 0: it leaves the heap; 1: it adds blocks; 2: it may write. -/
def opKind (t : Temps) : SOp → Nat
  | .alloc _ | .box _ _ | .msl _ _ _ _ _ _ | .bytes _ => 1
  | .bsl _ _ _ _ ps => match opdIds t (sndL ps) with
    | [] => 1
    | _ => 2
  | .store _ _ _ | .app _ _ _ _ _ | .copy _ _ _ | .clear _ _ _ | .mupd _ _ _ | .del _ _ | .mkmap => 2
  | .call _ args mt => if isNest (evL t args) mt then 2 else match placesOf (evL t args) mt with
    | [] => 1
    | _ => 2
  | .callv x args mt => match x.ev t with
    | .fn _ caps => match placesOf (evL t args ++ caps) (mt ++ List.replicate caps.length true) with
      | [] => 1
      | _ => 2
    | _ => 2
  | _ => 0
def keepH (h : Heap) : List Nat → Heap
  | [] => []
  | x :: l => match find h x with
    | some b => (x, b) :: keepH h l
    | none => keepH h l
/-- What an operation did: its blocks, its kind. -/
abbrev Rec := List Nat × Nat
def apartB (l : List Nat) : List Nat → Bool
  | [] => true
  | x :: r => !mem l x && apartB l r
def recOk (recs : List Rec) (r : Rec) : List Nat → Bool
  | [] => true
  | j :: l => (match recs[j]? with
    | some q => if q.2 = 2 then apartB q.1 r.1 else if r.2 = 2 then apartB q.1 r.1 else true
    | none => false) && recOk recs r l
def belowB (b : Nat) : List Nat → Bool
  | [] => true
  | x :: l => decide (x < b) && belowB b l
/-- No block of a list is one that some operations made. -/
def freshOk (n0 : Nat) (fp : List Nat) : List Nat → Bool
  | [] => true
  | i :: l => fp.all (fun x => decide (x < n0 + 64 * i) || decide (n0 + 64 * i + 64 ≤ x)) && freshOk n0 fp l
/-- The blocks of a list, and the new ones. -/
def only (fp : List Nat) (b : Nat) : Heap → Heap
  | [] => []
  | (i, x) :: h => if mem fp i || (decide (b ≤ i) && decide (i < b + 64)) then (i, x) :: only fp b h else only fp b h
def stepD (C : Oracle) (n0 : Nat) (recs : List Rec) (free : List Nat) (st : St) (o : SOper) : Option (St × Rec) :=
  match wanted st.t o.guard with
  | none => none
  | some false => some ({ st with t := putT st.t o.dst (.tup []) }, ([], 0))
  | some true =>
    let fp := reach st.h fuel (opdIds st.t o.op.looks) []
    let kd := opKind st.t o.op
    let base := n0 + 64 * recs.length
    if recOk recs (fp, kd) free = true ∧ belowB base (opdIds st.t o.op.opds) = true ∧ belowB base (idsOf st.h fp) = true ∧ belowB base fp = true ∧ freshOk n0 fp free = true then
      match opRun C st.t (keepH st.h fp) base o.op with
      | some (v, h', n') => if n' ≤ base + 64 then
          some ({ t := putT st.t o.dst v, h := match kd with
            | 0 => st.h
            | 1 => only [] base h' ++ st.h
            | _ => only fp base h' ++ delAll st.h fp, n := st.n }, (fp, kd)) else none
      | none => none
    else none
def runD (C : Oracle) (n0 : Nat) : List SOper → List (List Nat) → List Rec → St → Option St
  | [], _, recs, st => some { st with n := n0 + 64 * recs.length }
  | o :: l, fr, recs, st => match stepD C n0 recs (fr.headD []) st o with
    | some (st', r) => runD C n0 l fr.tail (recs ++ [r]) st'
    | none => none

def evalCode (C : Oracle) (L : LOracle) (k : Nat) : SCode → St → Option (Ex × St)
  | .skip, st => some (.norm, st)
  | .region ops, st => match runOps C ops st with
    | some st' => some (.norm, st')
    | none => none
  | .draw ops free, st => match runD C st.n ops free [] st with
    | some st' => some (.norm, st')
    | none => none
  | .seq a b, st => match evalCode C L k a st with
    | some (.norm, st') => evalCode C L k b st'
    | some (.exit id, st') => some (.exit id, st')
    | some (.ret, st') => some (.ret, st')
    | none => none
  | .cond c a b, st => match c.ev st.t with
    | .b true => evalCode C L k a st
    | .b false => evalCode C L k b st
    | _ => none
  | .block id a, st => match evalCode C L k a st with
    | some (.exit id', st') => if id' = id then some (.norm, st') else some (.exit id', st')
    | some (.norm, st') => some (.norm, st')
    | some (.ret, st') => some (.ret, st')
    | none => none
  | .loop f l live, st => L f l k (norm k live st)
  | .exit id, st => some (.exit id, st)
  | .ret, st => some (.ret, st)

/-! ### A call's end -/
def expC (k : Nat) (h : Heap) : AV → Option (AV × Heap)
  | .ref id none off len cap ex => if id < k then some (.ref id none off len cap ex, h) else match rowsAt h id none with
    | some (sz, rows) => match view rows off len with
      | some l => some (.un sz l, delH h id)
      | none => none
    | none => none
  | .ref _ (some _) _ _ _ _ => none
  | .sl sz true l => some (.sl sz true l, h)
  | .sl _ false _ => none
  | .rp _ _ => none
  | .ptr id none r c => some (.ptr id none r c, h)
  | .ptr _ (some _) _ _ => none
  | .un _ _ => none
  | .agg _ => none
  | .tup _ => none
  | .i kd n => some (.i kd n, h)
  | .b x => some (.b x, h)
  | .s x => some (.s x, h)
  | .nil => some (.nil, h)
  | .emp => some (.emp, h)
  | .nilp => some (.nilp, h)
  | .nilf => some (.nilf, h)
  | .nilm => some (.nilm, h)
  | .map id => some (.map id, h)
  | .fn _ _ => none
  | .junk => none
def expL (k : Nat) (h : Heap) : List AV → Option (List AV × Heap)
  | [] => some ([], h)
  | v :: l => match expC k h v with
    | some (x, h') => match expL k h' l with
      | some (xs, h'') => some (x :: xs, h'')
      | none => none
    | none => none
def expR (k : Nat) (h : Heap) : AV → Option (AV × Heap)
  | .agg l => match expL k h l with
    | some (xs, h') => some (.agg xs, h')
    | none => none
  | v => expC k h v
def expT (k : Nat) (h : Heap) : List AV → Option (List AV × Heap)
  | [] => some ([], h)
  | v :: l => match expR k h v with
    | some (x, h') => match expT k h' l with
      | some (xs, h'') => some (x :: xs, h'')
      | none => none
    | none => none
def resVals (t : Temps) (h : Heap) : List Res → Option (List AV)
  | [] => some []
  | .tmp x :: l => match resVals t h l with
    | some vs => some (get t x :: vs)
    | none => none
  | .cell x m a :: l => match loadVal h m a (get t x), resVals t h l with
    | some v, some vs => some (v :: vs)
    | _, _ => none
def finish (k : Nat) (rs : List Res) (st : St) : Option (AV × Heap) :=
  match resVals st.t st.h rs with
  | none => none
  | some vs => match expT k st.h vs with
    | none => none
    | some (xs, h) =>
      let acc := reach h fuel (idsOf h (upTo k) ++ AV.idsL xs) (upTo k)
      let ρ := numbered acc 0
      let h' := pickH h ρ ρ
      if mayH h' = true then some ((match AV.renL ρ xs with
        | [v] => v
        | vs => .tup vs), h') else none
def argTemps : List AV → Nat → Temps
  | [], _ => []
  | v :: l, i => (i, v) :: argTemps l (i + 1)
abbrev Funcs := Nat → Option (SFunc × List (List Nat × SCode))
abbrev Ext := Nat → Option (List AV → Heap → Option (AV × Heap))
/-- The blocks that a call is handed have the names 0, 1, .. -/
def namedH : Heap → Nat → Bool
  | [], _ => true
  | (i, _) :: h, k => decide (i = k) && namedH h (k + 1)
def evalFn (C : Oracle) (L : LOracle) (F : Funcs) (f : Nat) (args : List AV) (h : Heap) : Option (AV × Heap) :=
  match F f with
  | none => none
  | some (fn, _) => if args.length = fn.nargs ∧ namedH h 0 = true then
      match evalCode C L h.length fn.body { t := argTemps args 0, h := h, n := h.length } with
      | some (.norm, st) => finish h.length fn.results st
      | some (.ret, st) => finish h.length fn.results st
      | _ => none
    else none
def evalLoop (C : Oracle) (L : LOracle) (F : Funcs) (f l k : Nat) (st : St) : Option (Ex × St) :=
  match F f with
  | none => none
  | some (_, ls) => match ls[l]? with
    | none => none
    | some (live, body) => match evalCode C L k body st with
      | some (.norm, st') => L f l k (norm k live st')
      | some (.exit id, st') => some (.exit id, st')
      | some (.ret, st') => some (.ret, st')
      | none => none
def iter (E : Ext) (F : Funcs) : Nat → Oracle × LOracle
  | 0 => (fun _ _ _ => none, fun _ _ _ _ => none)
  | n + 1 => (fun f args h => match E f with
      | some g => g args h
      | none => evalFn (iter E F n).1 (iter E F n).2 F f args h,
    fun f l k st => evalLoop (iter E F n).1 (iter E F n).2 F f l k st)
end Go.Am
/- THE ABSTRACT MACHINE (AM): the program's code in its form. No condition. -/
namespace Go.Am

/-! ### From the program's code -/
def avOf : Value → Option AV
  | .bool b => some (.b b)
  | .int k n => some (.i k n)
  | .string s => some (.s s)
  | .pointer none => some .nilp
  | .slice none 0 0 => some .nil
  | .map none => some .nilm
  | .nilFunc => some .nilf
  | _ => none
def avsOf : List Value → Option (List AV)
  | [] => some []
  | v :: l => match avOf v, avsOf l with
    | some x, some xs => some (x :: xs)
    | _, _ => none
def avTop : Value → Option AV
  | .agg cs => match avsOf cs.toList with
    | some l => some (.agg l)
    | none => none
  | .tuple vs => match vs.toList with
    | [] => some (.tup [])
    | _ => none
  | v => avOf v
def sameC : AV → AV → Bool
  | .i k a, .i k' b => decide (k = k') && decide (a = b)
  | .b a, .b b => a == b
  | _, _ => false
def rle : List AV → Zero
  | [] => []
  | v :: l => match rle l with
    | (n, w) :: z => if sameC v w then (n + 1, w) :: z else (1, v) :: (n, w) :: z
    | [] => [(1, v)]
def isAggB (P : Program) (t : TypeId) : Option Bool :=
  match P.underlying t with
  | some (.struct _) => some true
  | some (.array _ _) => some true
  | some _ => some false
  | none => none
/-- How many cells a type's values have. -/
def szOf (P : Program) (t : TypeId) : Option Nat := (P.info? t).map (·.size)
/-- A type's zero value: its cells. -/
def zeroOf (P : Program) (t : TypeId) : Option Zero :=
  match P.info? t with
  | some i => match i.zero with
    | some z => match avsOf z.cells.toList with
      | some l => if l.length = i.size then some (rle l) else none
      | none => none
    | none => none
  | none => none
def slimX : Operand → Option Opd
  | .tmp t => some (.t t)
  | .const v => match avTop v with
    | some x => some (.c x)
    | none => none
  | .func f => some (.c (.fn f []))
  | .global _ => none
def slimXs : List Operand → Option (List Opd)
  | [] => some []
  | x :: l => match slimX x, slimXs l with
    | some y, some ys => some (y :: ys)
    | _, _ => none
def slimO : Option Operand → Option (Option Opd)
  | none => some none
  | some x => match slimX x with
    | some y => some (some y)
    | none => none
def slimParts : List (Nat × Operand) → Option (List (Nat × Opd))
  | [] => some []
  | (j, x) :: l => match slimX x, slimParts l with
    | some y, some ys => some ((j, y) :: ys)
    | _, _ => none
/-- A struct's fields: where their cells are, how many. -/
def fieldPlaces (P : Program) : List Field → Option (List (Nat × Nat))
  | [] => some []
  | f :: l => match szOf P f.type, fieldPlaces P l with
    | some m, some r => some ((f.offset, m) :: r)
    | _, _ => none
def slimFields (pl : List (Nat × Nat)) : List (Nat × Operand) → Option (List (Nat × Nat × Opd))
  | [] => some []
  | (j, x) :: l => match pl[j]?, slimX x, slimFields pl l with
    | some (off, m), some y, some ys => some ((off, m, y) :: ys)
    | _, _, _ => none
def slimElems (sz : Nat) : List (Nat × Operand) → Option (List (Nat × Nat × Opd))
  | [] => some []
  | (j, x) :: l => match slimX x, slimElems sz l with
    | some y, some ys => some ((j * sz, sz, y) :: ys)
    | _, _ => none
def isNilSl : Operand → Bool
  | .const (.slice none 0 0) => true
  | _ => false
def isNilPt : Operand → Bool
  | .const (.pointer none) => true
  | _ => false
/-- The cells that '==' of a struct looks at: all of numbers, bools, strings. -/
def eqCells (P : Program) : List Field → Option (List (Nat × Nat))
  | [] => some []
  | f :: l => match eqCells P l with
    | none => none
    | some cs => if f.name = "_" then some cs else match P.underlying f.type with
      | some (.int _) => some ((f.offset, 0) :: cs)
      | some .bool => some ((f.offset, 1) :: cs)
      | some .string => some ((f.offset, 2) :: cs)
      | _ => none
def eqCellsOf (P : Program) (t : TypeId) : Option (List (Nat × Nat)) :=
  match P.underlying t with
  | some (.struct fs) => if P.stoodInHeld t || P.eqGuardType P.depth t then none else eqCells P fs.toList
  | _ => none
def hasSl : List AV → Bool
  | [] => false
  | .nil :: _ => true
  | _ :: l => hasSl l
def sliceElem (P : Program) (t : TypeId) : Option TypeId :=
  match P.underlying t with
  | some (.slice e) => some e
  | _ => none
def slimBuiltin (P : Program) (b : Builtin) (argTypes : Array TypeId) (args : List Operand) : Option SOp :=
  match b, args with
  | .len, [x] => match (argTypes[0]?).bind P.underlying with
    | some (.slice _) => (slimX x).map (.len false)
    | some .string => (slimX x).map (.len true)
    | some (.map _ _) => (slimX x).map .mlen
    | _ => none
  | .cap, [x] => match (argTypes[0]?).bind P.underlying with
    | some (.slice _) => (slimX x).map .cap
    | _ => none
  | .append, [x, y] => match argTypes.toList with
    | [t, u] => match sliceElem P t, P.underlying u with
      | some e, some (.slice e') => match zeroOf P e, P.info? e, slimX x, slimX y with
        | some z, some i, some x, some y => if szOf P e' = some i.size ∧ 0 < i.size ∧ 0 < i.bytes ∧ i.bytes ≤ 4096 then some (.app i.size i.bytes (hasSl (zcells z)) x y) else none
        | _, _, _, _ => none
      | _, _ => none
    | _ => none
  | .copy, [x, y] => match argTypes.toList with
    | [t, u] => match sliceElem P t, sliceElem P u, slimX x, slimX y with
      | some e, some e', some x, some y => match szOf P e with
        | some m => if szOf P e' = some m ∧ 0 < m then some (.copy m x y) else none
        | none => none
      | _, _, _, _ => none
    | _ => none
  | .min, xs => (slimXs xs).map .min
  | .max, xs => (slimXs xs).map .max
  | .clear, [x] => match (argTypes[0]?).bind (sliceElem P) with
    | some e => match zeroOf P e, isAggB P e, szOf P e, slimX x with
      | some z, some a, some m, some x => if 0 < m ∧ (a = true ∨ m = 1) then some (.clear a z x) else none
      | _, _, _, _ => none
    | none => none
  | _, _ => none
/-- One operation. 'ann': which of a function's parameters are slices that it may write. -/
def slimOp (P : Program) (ann : Nat → List Bool) (op : Op) : Option SOp :=
  match op with
  | .move x => (slimX x).map .mov
  | .assign x => (slimX x).map .mov
  | .pick c x y => match slimX c, slimX x, slimX y with
    | some c, some x, some y => some (.pick c x y)
    | _, _, _ => none
  | .alloc e => (zeroOf P e).map .alloc
  | .box e x => match szOf P e, slimX x with
    | some m, some x => some (.box m x)
    | _, _ => none
  | .load t x => match isAggB P t, szOf P t, slimX x with
    | some a, some m, some x => some (.load (if a then m else 1) a x)
    | _, _, _ => none
  | .store t x v => match szOf P t, slimX x, slimX v with
    | some m, some x, some v => some (.store m x v)
    | _, _, _ => none
  | .binOp op t x y _ => match slimX x, slimX y with
    | some x', some y' => match P.underlying t with
      | some (.int _) => some (.bin op x' y')
      | some .string => some (.bin op x' y')
      | some .bool => match op with
        | .eql => some (.beq false x' y')
        | .neq => some (.beq true x' y')
        | _ => none
      | some (.struct _) => match op, eqCellsOf P t with
        | .eql, some cs => some (.eqs false cs x' y')
        | .neq, some cs => some (.eqs true cs x' y')
        | _, _ => none
      | some (.slice _) => match op with
        | .eql => if isNilSl y then some (.isnil false false x') else none
        | .neq => if isNilSl y then some (.isnil false true x') else none
        | _ => none
      | some (.pointer _) => match op with
        | .eql => if isNilPt y then some (.isnil true false x') else none
        | .neq => if isNilPt y then some (.isnil true true x') else none
        | _ => none
      | _ => none
    | _, _ => none
  | .unOp op _ x => (slimX x).map (.un op)
  | .convert src dst x => match P.underlying src, P.underlying dst, slimX x with
    | some (.int _), some (.int k), some x => some (.conv k x)
    | some .string, some .string, some x => some (.sid x)
    | some (.slice e), some .string, some x => match P.underlying e with
      | some (.int .u8) => some (.str x)
      | _ => none
    | some .string, some (.slice e), some x => match P.underlying e with
      | some (.int .u8) => some (.bytes x)
      | _ => none
    | _, _, _ => none
  | .build t parts => match P.underlying t, zeroOf P t with
    | some (.struct fs), some z => match fieldPlaces P fs.toList with
      | some pl => (slimFields pl parts.toList).map (.build z)
      | none => none
    | some (.array _ e), some z => match szOf P e with
      | some m => (slimElems m parts.toList).map (.build z)
      | none => none
    | _, _ => none
  | .buildSlice t len parts => match sliceElem P t with
    | some e => match zeroOf P e, isAggB P e, szOf P e, slimParts parts.toList with
      | some z, some a, some m, some ps => if len * m ≤ 16777216 ∧ 0 < m ∧ (a = true ∨ m = 1) then some (.bsl m a z len ps) else none
      | _, _, _, _ => none
    | none => none
  | .makeSlice t l c => match sliceElem P t with
    | some e => match zeroOf P e, isAggB P e, P.info? e, slimX l, slimX c with
      | some z, some a, some i, some l, some c => if 0 < i.size ∧ 0 < i.bytes ∧ (a = true ∨ i.size = 1) then some (.msl i.size i.bytes a z l c) else none
      | _, _, _, _, _ => none
    | none => none
  | .slice t x lo hi mx => match P.underlying t, slimX x, slimO lo, slimO hi, slimO mx with
    | some .string, some x, some lo, some hi, some none => some (.sub x lo hi)
    | some (.slice e), some x, some lo, some hi, some mx => match szOf P e with
      | some m => if mx.isSome && hi.isNone then none else some (.slice m x lo hi mx)
      | none => none
    | _, _, _, _, _ => none
  | .fieldAddr s x f => match P.underlying s, slimX x with
    | some (.struct fs), some x => match fs[f]? with
      | some fd => match szOf P fd.type with
        | some (_ + 1) => some (.faddr fd.offset x)
        | _ => none
      | none => none
    | _, _ => none
  | .field t x f => match P.underlying t, slimX x with
    | some (.struct fs), some x => match fs[f]? with
      | some fd => match isAggB P fd.type, szOf P fd.type with
        | some a, some m => some (.field fd.offset (if a then m else 1) a x)
        | _, _ => none
      | none => none
    | _, _ => none
  | .indexAddr t x ix => match P.underlying t, slimX x, slimX ix with
    | some (.slice e), some x, some ix => match szOf P e with
      | some m => some (.iaddr m x ix)
      | none => none
    | some (.array n e), some x, some ix => match szOf P e with
      | some m => some (.iaddrA n m x ix)
      | none => none
    | _, _, _ => none
  | .index t x ix => match P.underlying t, slimX x, slimX ix with
    | some .string, some x, some ix => some (.at x ix)
    | some (.array n e), some x, some ix => match isAggB P e, szOf P e with
      | some a, some m => some (.atA n m (if a then m else 1) a x ix)
      | _, _ => none
    | _, _, _ => none
  | .makeFunc fn first captured => match fn with
    | .func f => if first.isEmpty then (slimXs captured.toList).map (.mkfn f) else none
    | _ => none
  | .extract x j => (slimX x).map (.extract · j)
  | .nilCheck x => (slimX x).map .nilchk
  | .makeInterface t _ => match P.underlying t with
    | some (.interface _) => none
    | some _ => some .unknown
    | none => none
  | .panic _ => some .fail
  | .call c => match c.callee with
    | .value (.func f) => (slimXs c.args.toList).map fun xs => .call f xs (ann f)
    | .value (.tmp t) => (slimXs c.args.toList).map fun xs => .callv (.t t) xs (List.replicate xs.length false)
    | .value _ => none
    | .invoke _ _ => none
    | .builtin b => slimBuiltin P b c.argTypes c.args.toList
  | _ => none
def slimGuard (ops : Array Oper) : Option (Nat × Bool) → Option (Option (Nat × Bool))
  | none => some none
  | some (j, w) => match ops[j]? with
    | some o => match o.dst with
      | some d => some (some (d, w))
      | none => none
    | none => none
def dstOk (nt : Nat) : Option Nat → Bool
  | some d => decide (d < nt)
  | none => true
/-- 'nt': how many temporaries there are. -/
def slimOper (P : Program) (ann : Nat → List Bool) (nt : Nat) (ops : Array Oper) (o : Oper) : Option SOper :=
  match slimGuard ops o.guard, slimOp P ann o.op with
  | some g, some p => if dstOk nt o.dst then some { dst := o.dst, guard := g, op := p } else none
  | _, _ => none
def slimOpers (P : Program) (ann : Nat → List Bool) (nt : Nat) (ops : Array Oper) : List Oper → Option (List SOper)
  | [] => some []
  | o :: l => match slimOper P ann nt ops o, slimOpers P ann nt ops l with
    | some x, some xs => some (x :: xs)
    | _, _ => none
/-- Which operations ahead of number j are not bound to come before it. -/
def freeOf (ops : Array Oper) : List (List Nat) :=
  let b := Region.before ops
  (List.range ops.size).map fun j => (List.range j).filter fun i => !(b.getD j 0).testBit i
def tmpsOf : List Opd → List Nat
  | [] => []
  | .t i :: l => i :: tmpsOf l
  | .c _ :: l => tmpsOf l
/-- The temporaries that an operation looks at. -/
def looksS (o : SOper) : List Nat := tmpsOf o.op.opds ++ (match o.guard with
  | some (g, _) => [g]
  | none => [])
def notIn (d : Option Nat) (l : List Nat) : Bool := match d with
  | some d => !mem l d
  | none => true
def apartS (x y : SOper) : Bool := notIn x.dst (looksS y) && notIn y.dst (looksS x) && (match x.dst, y.dst with
  | some d, some e => decide (d ≠ e)
  | _, _ => true)
/-- What is needed of a region that may come in several orders. -/
def apartAll (ops : Array Oper) (l : List SOper) (free : List (List Nat)) : Bool :=
  (free.zipIdx.all fun (fr, j) => fr.all fun i => match l[i]?, l[j]? with
    | some x, some y => apartS x y
    | _, _ => false) &&
  (ops.toList.zipIdx.all fun (o, j) => o.after.all fun e => !Region.binds .any e || decide (e.on < j))
/-- The code; the loops' bodies in the text's order. 'lives': what each loop's head reads on. -/
def slimC (P : Program) (ann : Nat → List Bool) (nt f : Nat) (lives : List (List Nat)) : Code → Nat → Option (SCode × List (List Nat × SCode) × Nat)
  | .skip, n => some (.skip, [], n)
  | .region _ ops draw, n => match slimOpers P ann nt ops ops.toList with
    | some l => if draw then
        (let free := freeOf ops
        if apartAll ops l free then some (.draw l free, [], n) else none)
      else some (.region l, [], n)
    | none => none
  | .seq a b, n => match slimC P ann nt f lives a n with
    | some (a', la, m) => match slimC P ann nt f lives b m with
      | some (b', lb, k) => some (.seq a' b', la ++ lb, k)
      | none => none
    | none => none
  | .cond c a b, n => match slimX c, slimC P ann nt f lives a n with
    | some c, some (a', la, m) => match slimC P ann nt f lives b m with
      | some (b', lb, k) => some (.cond c a' b', la ++ lb, k)
      | none => none
    | _, _ => none
  | .block id a, n => match slimC P ann nt f lives a n with
    | some (a', la, m) => some (.block id a', la, m)
    | none => none
  | .loop a, n => match slimC P ann nt f lives a (n + 1) with
    | some (a', la, m) => some (.loop f n (lives.getD n []), (lives.getD n [], a') :: la, m)
    | none => none
  | .exit id, n => some (.exit id, [], n)
  | .ret, n => some (.ret, [], n)
  | _, _ => none
def slimR (P : Program) : List ResultVar → Option (List Res)
  | [] => some []
  | .tmp t :: l => (slimR P l).map (.tmp t :: ·)
  | .cell x t :: l => match isAggB P t, szOf P t with
    | some a, some m => (slimR P l).map (.cell x (if a then m else 1) a :: ·)
    | _, _ => none
def slimF (P : Program) (ann : Nat → List Bool) (lives : List (List Nat)) (f : Nat) : Option (SFunc × List (List Nat × SCode)) :=
  match P.funcs[f]? with
  | some fn => match fn.body, slimR P fn.results.toList with
    | some c, some rs => if fn.name = "runtime.NumGoroutine" then none else match slimC P ann fn.ntmps f lives c 0 with
      | some (s, ls, _) => some ({ nargs := fn.params.size + fn.nfree, results := rs, body := s }, ls)
      | none => none
    | _, _ => none
  | none => none
end Go.Am
/- THE ABSTRACT MACHINE (AM): what its values and blocks say of the machine's memory. No condition. -/
namespace Go.Am

/-- Where a block's rows lie: from cell o0 of block g on; room for capT rows of sz cells. -/
structure Loc where
  g : Nat
  o0 : Nat
  capT : Nat
  sz : Nat
abbrev Place := Nat → Option (Nat × Nat) → Option Loc
def noPlace : Place := fun _ _ => none
def cellsAt (W : World) (g o0 : Nat) (cs : List Value) : Prop := ∀ k v, cs[k]? = some v → W.cell? ⟨g, o0 + k, none⟩ = some v
/-- Cells that may be written. -/
def openAt (W : World) (g o0 n : Nat) : Prop := ∀ k, k < n → (∃ v, W.cell? ⟨g, o0 + k, none⟩ = some v) ∧ W.frozen? ⟨g, o0 + k, none⟩ = false

mutual
def AV.width : AV → Nat
  | .agg l => AV.widthL l
  | _ => 1
def AV.widthL : List AV → Nat
  | [] => 0
  | v :: l => v.width + AV.widthL l
end
def uni (sz : Nat) : List AV → Prop
  | [] => True
  | v :: l => v.width = sz ∧ uni sz l

/-- Values of one cell each. -/
def ones : List AV → Prop
  | [] => True
  | v :: l => (∀ m, v ≠ .agg m) ∧ ones l

/-- What cells of memory tell values. F: blocks that nobody writes; Fr: those of them that may be handed back; o: the blocks that the values own. -/
inductive RL (W : World) : (Nat → Prop) → (Nat → Prop) → Place → List AV → List Value → List Nat → Prop
  | nil {F Fr μ} : RL W F Fr μ [] [] []
  | i {F Fr μ k n vs cs o} : RL W F Fr μ vs cs o → RL W F Fr μ (.i k n :: vs) (.int k n :: cs) o
  | b {F Fr μ x vs cs o} : RL W F Fr μ vs cs o → RL W F Fr μ (.b x :: vs) (.bool x :: cs) o
  | s {F Fr μ x vs cs o} : RL W F Fr μ vs cs o → RL W F Fr μ (.s x :: vs) (.string x :: cs) o
  | junk {F Fr μ vs cs o} (c : Value) (hc : c.oneCell' = true) : RL W F Fr μ vs cs o → RL W F Fr μ (.junk :: vs) (c :: cs) o
  | niL {F Fr μ vs cs o} : RL W F Fr μ vs cs o → RL W F Fr μ (.nil :: vs) (.slice none 0 0 :: cs) o
  | emp {F Fr μ vs cs o} (A : Option Addr) : RL W F Fr μ vs cs o → RL W F Fr μ (.emp :: vs) (.slice A 0 0 :: cs) o
  | nilp {F Fr μ vs cs o} : RL W F Fr μ vs cs o → RL W F Fr μ (.nilp :: vs) (.pointer none :: cs) o
  | nilf {F Fr μ vs cs o} : RL W F Fr μ vs cs o → RL W F Fr μ (.nilf :: vs) (.nilFunc :: cs) o
  | nilm {F Fr μ vs cs o} : RL W F Fr μ vs cs o → RL W F Fr μ (.nilm :: vs) (.map none :: cs) o
  | agg {F Fr μ l c1 o1 vs cs o} (hone : ones l) : RL W F Fr μ l c1 o1 → RL W F Fr μ vs cs o → RL W F Fr μ (.agg l :: vs) (c1 ++ cs) (o1 ++ o)
  | sl0 {F Fr μ vs cs o} (sz : Nat) (w : Bool) (A : Option Addr) (c : Nat) : RL W F Fr μ vs cs o → RL W F Fr μ (.sl sz w [] :: vs) (.slice A 0 c :: cs) o
  | sl1 {F Fr μ vs cs o} (sz : Nat) (w : Bool) (l : List AV) (g o0 c : Nat) (G : Nat → Prop) (cs1 : List Value) (o1 : List Nat) (hl : 0 < l.length) (hG : G = if w then Fr else F)
      (hc : l.length ≤ c) (hu : uni sz l) (hg : G g) (ho : ∀ x ∈ o1, G x) (hcell : cellsAt W g o0 cs1) :
      RL W G G noPlace l cs1 o1 → RL W F Fr μ vs cs o → RL W F Fr μ (.sl sz w l :: vs) (.slice (some ⟨g, o0, none⟩) l.length c :: cs) o
  | un0 {F Fr μ vs cs o} (sz : Nat) (A : Option Addr) : RL W F Fr μ vs cs o → RL W F Fr μ (.un sz [] :: vs) (.slice A 0 0 :: cs) o
  | un1 {F Fr μ vs cs o} (sz : Nat) (l : List AV) (g o0 c : Nat) (cs1 : List Value) (o1 : List Nat) (h0 : 0 < c)
      (hc : l.length ≤ c) (hu : uni sz l) (hcell : cellsAt W g o0 cs1) (hopen : openAt W g o0 (c * sz)) :
      RL W F Fr noPlace l cs1 o1 → RL W F Fr μ vs cs o → RL W F Fr μ (.un sz l :: vs) (.slice (some ⟨g, o0, none⟩) l.length c :: cs) (g :: (o1 ++ o))
  | ref {F Fr μ vs cs o} (id : Nat) (p : Option (Nat × Nat)) (off len cap : Nat) (ex : Bool) (L : Loc) (A : Option Addr) (c : Nat) (hμ : μ id p = some L)
      (hl : len ≤ cap) (hcap : cap ≤ c) (hex : ex = true → cap = c) (hfit : off + c ≤ L.capT) (hA : 0 < c → A = some ⟨L.g, L.o0 + off * L.sz, none⟩) :
      RL W F Fr μ vs cs o → RL W F Fr μ (.ref id p off len cap ex :: vs) (.slice A len c :: cs) o
  | ptr {F Fr μ vs cs o} (id : Nat) (p : Option (Nat × Nat)) (r c : Nat) (L : Loc) (hμ : μ id p = some L) :
      RL W F Fr μ vs cs o → RL W F Fr μ (.ptr id p r c :: vs) (.pointer (some ⟨L.g, L.o0 + r * L.sz + c, none⟩) :: cs) o
  | rp {F Fr μ vs cs o} (row : AV) (c g o0 : Nat) (cs1 : List Value) (hg : F g) (hcell : cellsAt W g o0 cs1) :
      RL W F Fr noPlace [row] cs1 [] → RL W F Fr μ vs cs o → RL W F Fr μ (.rp row c :: vs) (.pointer (some ⟨g, o0 + c, none⟩) :: cs) o
  | fn {F Fr μ vs cs o} (f : Nat) (caps : List AV) (capsv : Array Value) : RL W F Fr μ caps capsv.toList [] → RL W F Fr μ vs cs o → RL W F Fr μ (.fn f caps :: vs) (.func (.func f) #[] capsv :: cs) o
  | map {F Fr μ vs cs o} (id : Nat) (L : Loc) (hμ : μ id none = some L) : RL W F Fr μ vs cs o → RL W F Fr μ (.map id :: vs) (.map (some L.g) :: cs) o

/-- No block. -/
def no : Nat → Prop := fun _ => False
/-- Two worlds have the same block. -/
def Same (W W' : World) (x : Nat) : Prop := W'.heap[x]? = W.heap[x]?
theorem Same.cell {W W' : World} {g : Nat} (h : Same W W' g) (o : Nat) : W'.cell? ⟨g, o, none⟩ = W.cell? ⟨g, o, none⟩ := by
  simp only [World.cell?]; rw [h]
theorem Same.frozen {W W' : World} {g : Nat} (h : Same W W' g) (o : Nat) : W'.frozen? ⟨g, o, none⟩ = W.frozen? ⟨g, o, none⟩ := by
  simp only [World.frozen?]; rw [h]
theorem cellsAt.same {W W' : World} {g o0 : Nat} {cs : List Value} (h : cellsAt W g o0 cs) (hs : Same W W' g) : cellsAt W' g o0 cs :=
  fun k v hk => by rw [hs.cell]; exact h k v hk
theorem openAt.same {W W' : World} {g o0 n : Nat} (h : openAt W g o0 n) (hs : Same W W' g) : openAt W' g o0 n :=
  fun k hk => by rw [hs.cell, hs.frozen]; exact h k hk

/-- What is told hangs on the blocks that nobody writes and on those that the values own alone. -/
theorem RL.same {W W' : World} {F Fr : Nat → Prop} {μ : Place} {vs : List AV} {cs : List Value} {o : List Nat} (h : RL W F Fr μ vs cs o)
    (hFr : ∀ x, Fr x → F x) (hF : ∀ x, F x → Same W W' x) (ho : ∀ x ∈ o, Same W W' x) : RL W' F Fr μ vs cs o := by
  induction h with
  | nil => exact .nil
  | i _ ih => exact .i (ih hFr hF ho)
  | b _ ih => exact .b (ih hFr hF ho)
  | s _ ih => exact .s (ih hFr hF ho)
  | junk c hc _ ih => exact .junk c hc (ih hFr hF ho)
  | niL _ ih => exact .niL (ih hFr hF ho)
  | emp A _ ih => exact .emp A (ih hFr hF ho)
  | nilp _ ih => exact .nilp (ih hFr hF ho)
  | nilf _ ih => exact .nilf (ih hFr hF ho)
  | nilm _ ih => exact .nilm (ih hFr hF ho)
  | agg hone _ _ ih1 ih2 => exact .agg hone (ih1 hFr hF fun x hx => ho x (List.mem_append_left _ hx)) (ih2 hFr hF fun x hx => ho x (List.mem_append_right _ hx))
  | sl0 sz w A c _ ih => exact .sl0 sz w A c (ih hFr hF ho)
  | sl1 sz w l g o0 c G cs1 o1 hl hG hc hu hg ho1 hcell _ _ ih1 ih2 =>
    have hGF : ∀ x, G x → Same W W' x := fun x hx => hF x (by subst hG; cases w <;> simp_all)
    exact .sl1 sz w l g o0 c G cs1 o1 hl hG hc hu hg ho1 (hcell.same (hGF g hg)) (ih1 (fun _ h => h) hGF fun x hx => hGF x (ho1 x hx)) (ih2 hFr hF ho)
  | un0 sz A _ ih => exact .un0 sz A (ih hFr hF ho)
  | un1 sz l g o0 c cs1 o1 h0 hc hu hcell hopen _ _ ih1 ih2 =>
    have hg := ho g (by simp)
    exact .un1 sz l g o0 c cs1 o1 h0 hc hu (hcell.same hg) (hopen.same hg) (ih1 hFr hF fun x hx => ho x (by simp [hx])) (ih2 hFr hF fun x hx => ho x (by simp [hx]))
  | ref id p off len cap ex L A c hμ hl hcap hex hfit hA _ ih => exact .ref id p off len cap ex L A c hμ hl hcap hex hfit hA (ih hFr hF ho)
  | ptr id p r c L hμ _ ih => exact .ptr id p r c L hμ (ih hFr hF ho)
  | rp row c g o0 cs1 hg hcell _ _ ih1 ih2 => exact .rp row c g o0 cs1 hg (hcell.same (hF g hg)) (ih1 hFr hF (by simp)) (ih2 hFr hF ho)
  | fn f caps capsv _ _ ih1 ih2 => exact .fn f caps capsv (ih1 hFr hF (by simp)) (ih2 hFr hF ho)
  | map id L hμ _ ih => exact .map id L hμ (ih hFr hF ho)

/-- More blocks that nobody writes, more places: what was told is told. -/
theorem RL.more {W : World} {F Fr : Nat → Prop} {μ : Place} {vs : List AV} {cs : List Value} {o : List Nat} (h : RL W F Fr μ vs cs o) :
    ∀ {F' Fr' : Nat → Prop} {μ' : Place}, (∀ x, F x → F' x) → (∀ x, Fr x → Fr' x) → (∀ id p L, μ id p = some L → μ' id p = some L) → RL W F' Fr' μ' vs cs o := by
  induction h with
  | nil => intros; exact .nil
  | i _ ih => intro F' Fr' μ' a b c; exact .i (ih a b c)
  | b _ ih => intro F' Fr' μ' a b c; exact .b (ih a b c)
  | s _ ih => intro F' Fr' μ' a b c; exact .s (ih a b c)
  | junk c hc _ ih => intro F' Fr' μ' x y z; exact .junk c hc (ih x y z)
  | niL _ ih => intro F' Fr' μ' a b c; exact .niL (ih a b c)
  | emp A _ ih => intro F' Fr' μ' a b c; exact .emp A (ih a b c)
  | nilp _ ih => intro F' Fr' μ' a b c; exact .nilp (ih a b c)
  | nilf _ ih => intro F' Fr' μ' a b c; exact .nilf (ih a b c)
  | nilm _ ih => intro F' Fr' μ' a b c; exact .nilm (ih a b c)
  | agg hone _ _ ih1 ih2 => intro F' Fr' μ' a b c; exact .agg hone (ih1 a b c) (ih2 a b c)
  | sl0 sz w A c _ ih => intro F' Fr' μ' x y z; exact .sl0 sz w A c (ih x y z)
  | @sl1 F Fr μ vs cs o sz w l g o0 c G cs1 o1 hl hG hc hu hg ho1 hcell h1 h2 ih1 ih2 =>
    intro F' Fr' μ' x y z
    have hGG : ∀ q, G q → (if w then Fr' else F') q := fun q hq => by subst hG; cases w <;> simp_all
    exact .sl1 sz w l g o0 c _ cs1 o1 hl rfl hc hu (hGG g hg) (fun q hq => hGG q (ho1 q hq)) hcell (ih1 hGG hGG (fun _ _ _ h => h)) (ih2 x y z)
  | un0 sz A _ ih => intro F' Fr' μ' x y z; exact .un0 sz A (ih x y z)
  | un1 sz l g o0 c cs1 o1 h0 hc hu hcell hopen _ _ ih1 ih2 => intro F' Fr' μ' x y z; exact .un1 sz l g o0 c cs1 o1 h0 hc hu hcell hopen (ih1 x y (fun _ _ _ h => h)) (ih2 x y z)
  | ref id p off len cap ex L A c hμ hl hcap hex hfit hA _ ih => intro F' Fr' μ' x y z; exact .ref id p off len cap ex L A c (z _ _ _ hμ) hl hcap hex hfit hA (ih x y z)
  | ptr id p r c L hμ _ ih => intro F' Fr' μ' x y z; exact .ptr id p r c L (z _ _ _ hμ) (ih x y z)
  | rp row c g o0 cs1 hg hcell _ _ ih1 ih2 => intro F' Fr' μ' x y z; exact .rp row c g o0 cs1 (x g hg) hcell (ih1 x y (fun _ _ _ h => h)) (ih2 x y z)
  | fn f caps capsv _ _ ih1 ih2 => intro F' Fr' μ' x y z; exact .fn f caps capsv (ih1 x y z) (ih2 x y z)
  | map id L hμ _ ih => intro F' Fr' μ' x y z; exact .map id L (z _ _ _ hμ) (ih x y z)

theorem RL.up {W : World} {F Fr : Nat → Prop} {μ : Place} {vs : List AV} {cs : List Value} {o : List Nat} (h : RL W no no μ vs cs o) : RL W F Fr μ vs cs o := h.more (fun _ h => h.elim) (fun _ h => h.elim) (fun _ _ _ h => h)
theorem RL.same0 {W W' : World} {μ : Place} {vs : List AV} {cs : List Value} {o : List Nat} (h : RL W no no μ vs cs o) (ho : ∀ x ∈ o, Same W W' x) : RL W' no no μ vs cs o := h.same (fun _ h => h) (fun _ h => h.elim) ho
theorem RL.width {W : World} {F Fr : Nat → Prop} {μ : Place} {vs : List AV} {cs : List Value} {o : List Nat} (h : RL W F Fr μ vs cs o) : cs.length = AV.widthL vs := by
  induction h <;> simp_all [AV.widthL, AV.width] <;> omega

/-! ### Lists -/
theorem uni_append {sz : Nat} : ∀ {l m : List AV}, uni sz (l ++ m) ↔ uni sz l ∧ uni sz m
  | [], m => by simp [uni]
  | v :: l, m => by simp [uni, uni_append (l := l), and_assoc]
theorem uni_mem {sz : Nat} : ∀ {l : List AV}, uni sz l → ∀ v ∈ l, v.width = sz
  | [], _ => by simp
  | v :: l, h => by
    intro x hx
    rcases List.mem_cons.1 hx with rfl | hx
    · exact h.1
    · exact uni_mem h.2 x hx
theorem uni_of {sz : Nat} : ∀ {l : List AV}, (∀ v ∈ l, v.width = sz) → uni sz l
  | [], _ => trivial
  | v :: l, h => ⟨h v (by simp), uni_of fun x hx => h x (by simp [hx])⟩
theorem uni_sub {sz : Nat} {l m : List AV} (h : uni sz l) (hs : ∀ v ∈ m, v ∈ l) : uni sz m := uni_of fun v hv => uni_mem h v (hs v hv)
theorem ones_mem : ∀ {l : List AV}, ones l → ∀ v ∈ l, ∀ m, v ≠ .agg m
  | [], _ => by simp
  | v :: l, h => by
    intro x hx
    rcases List.mem_cons.1 hx with rfl | hx
    · exact h.1
    · exact ones_mem h.2 x hx
theorem ones_of : ∀ {l : List AV}, (∀ v ∈ l, ∀ m, v ≠ .agg m) → ones l
  | [], _ => trivial
  | v :: l, h => ⟨h v (by simp), ones_of fun x hx => h x (by simp [hx])⟩
theorem ones_sub {l m : List AV} (h : ones l) (hs : ∀ v ∈ m, v ∈ l) : ones m := ones_of fun v hv => ones_mem h v (hs v hv)
theorem width_one {v : AV} (h : ∀ m, v ≠ .agg m) : v.width = 1 := by cases v <;> simp_all [AV.width]
theorem ones_widthL : ∀ {l : List AV}, ones l → AV.widthL l = l.length
  | [], _ => by simp [AV.widthL]
  | v :: l, h => by simp only [AV.widthL, width_one h.1, ones_widthL h.2, List.length_cons]; omega
theorem ones_append {l m : List AV} : ones l → ones m → ones (l ++ m) := fun h h' => ones_of fun v hv => by
  rcases List.mem_append.1 hv with hv | hv
  · exact ones_mem h v hv
  · exact ones_mem h' v hv
theorem uni_widthL {sz : Nat} : ∀ {l : List AV}, uni sz l → AV.widthL l = l.length * sz
  | [], _ => by simp [AV.widthL]
  | v :: l, h => by simp only [AV.widthL, h.1, uni_widthL h.2, List.length_cons, Nat.add_mul]; omega

section
variable {W : World} {F Fr : Nat → Prop} {μ : Place}
theorem RL.append {l1 : List AV} {c1 : List Value} {o1 : List Nat} (h1 : RL W F Fr μ l1 c1 o1) {l2 : List AV} {c2 : List Value} {o2 : List Nat} (h2 : RL W F Fr μ l2 c2 o2) :
    RL W F Fr μ (l1 ++ l2) (c1 ++ c2) (o1 ++ o2) := by
  induction h1 with
  | nil => simpa using h2
  | i _ ih => exact .i (ih h2)
  | b _ ih => exact .b (ih h2)
  | s _ ih => exact .s (ih h2)
  | junk c hc _ ih => exact .junk c hc (ih h2)
  | niL _ ih => exact .niL (ih h2)
  | emp A _ ih => exact .emp A (ih h2)
  | nilp _ ih => exact .nilp (ih h2)
  | nilf _ ih => exact .nilf (ih h2)
  | nilm _ ih => exact .nilm (ih h2)
  | agg hone h _ _ ih2 => simp only [List.cons_append, List.append_assoc]; exact .agg hone h (ih2 h2)
  | sl0 sz w A c _ ih => exact .sl0 sz w A c (ih h2)
  | sl1 sz w l g o0 c G cs1 o1 hl hG hc hu hg ho1 hcell h _ _ ih2 => exact .sl1 sz w l g o0 c G cs1 o1 hl hG hc hu hg ho1 hcell h (ih2 h2)
  | un0 sz A _ ih => exact .un0 sz A (ih h2)
  | un1 sz l g o0 c cs1 o1 h0 hc hu hcell hopen h _ _ ih2 => simp only [List.cons_append, List.append_assoc]; exact .un1 sz l g o0 c cs1 o1 h0 hc hu hcell hopen h (ih2 h2)
  | ref id p off len cap ex L A c hμ hl hcap hex hfit hA _ ih => exact .ref id p off len cap ex L A c hμ hl hcap hex hfit hA (ih h2)
  | ptr id p r c L hμ _ ih => exact .ptr id p r c L hμ (ih h2)
  | rp row c g o0 cs1 hg hcell h _ _ ih2 => exact .rp row c g o0 cs1 hg hcell h (ih2 h2)
  | fn f caps capsv h _ _ ih2 => exact .fn f caps capsv h (ih2 h2)
  | map id L hμ _ ih => exact .map id L hμ (ih h2)
/-- The first value, and the rest. -/
theorem RL.uncons {v : AV} {vs : List AV} {cs : List Value} {o : List Nat} (h : RL W F Fr μ (v :: vs) cs o) :
    ∃ c1 c2 o1 o2, cs = c1 ++ c2 ∧ o = o1 ++ o2 ∧ RL W F Fr μ [v] c1 o1 ∧ RL W F Fr μ vs c2 o2 := by
  cases h with
  | i h => exact ⟨[_], _, [], _, rfl, rfl, .i .nil, h⟩
  | b h => exact ⟨[_], _, [], _, rfl, rfl, .b .nil, h⟩
  | s h => exact ⟨[_], _, [], _, rfl, rfl, .s .nil, h⟩
  | junk c hc h => exact ⟨[_], _, [], _, rfl, rfl, .junk c hc .nil, h⟩
  | niL h => exact ⟨[_], _, [], _, rfl, rfl, .niL .nil, h⟩
  | emp A h => exact ⟨[_], _, [], _, rfl, rfl, .emp A .nil, h⟩
  | nilp h => exact ⟨[_], _, [], _, rfl, rfl, .nilp .nil, h⟩
  | nilf h => exact ⟨[_], _, [], _, rfl, rfl, .nilf .nil, h⟩
  | nilm h => exact ⟨[_], _, [], _, rfl, rfl, .nilm .nil, h⟩
  | agg hone h h2 => exact ⟨_, _, _, _, rfl, rfl, by simpa using RL.agg hone h .nil, h2⟩
  | sl0 sz w A c h => exact ⟨[_], _, [], _, rfl, rfl, .sl0 sz w A c .nil, h⟩
  | sl1 sz w l g o0 c G cs1 o1 hl hG hc hu hg ho1 hcell h h2 => exact ⟨[_], _, [], _, rfl, rfl, .sl1 sz w l g o0 c G cs1 o1 hl hG hc hu hg ho1 hcell h .nil, h2⟩
  | un0 sz A h => exact ⟨[_], _, [], _, rfl, rfl, .un0 sz A .nil, h⟩
  | @un1 _ _ _ _ _ o sz l g o0 c cs1 o1 h0 hc hu hcell hopen h h2 => exact ⟨[_], _, g :: (o1 ++ []), o, rfl, by simp, .un1 sz l g o0 c cs1 o1 h0 hc hu hcell hopen h .nil, h2⟩
  | ref id p off len cap ex L A c hμ hl hcap hex hfit hA h => exact ⟨[_], _, [], _, rfl, rfl, .ref id p off len cap ex L A c hμ hl hcap hex hfit hA .nil, h⟩
  | ptr id p r c L hμ h => exact ⟨[_], _, [], _, rfl, rfl, .ptr id p r c L hμ .nil, h⟩
  | rp row c g o0 cs1 hg hcell h h2 => exact ⟨[_], _, [], _, rfl, rfl, .rp row c g o0 cs1 hg hcell h .nil, h2⟩
  | fn f caps capsv h h2 => exact ⟨[_], _, [], _, rfl, rfl, .fn f caps capsv h .nil, h2⟩
  | map id L hμ h => exact ⟨[_], _, [], _, rfl, rfl, .map id L hμ .nil, h⟩
theorem RL.split : ∀ {l1 l2 : List AV} {cs : List Value} {o : List Nat}, RL W F Fr μ (l1 ++ l2) cs o →
    ∃ c1 c2 o1 o2, cs = c1 ++ c2 ∧ o = o1 ++ o2 ∧ RL W F Fr μ l1 c1 o1 ∧ RL W F Fr μ l2 c2 o2
  | [], l2, cs, o, h => ⟨[], cs, [], o, rfl, rfl, .nil, h⟩
  | v :: l1, l2, cs, o, h => by
    obtain ⟨c1, c2, o1, o2, rfl, rfl, h1, h2⟩ := RL.uncons h
    obtain ⟨c3, c4, o3, o4, rfl, rfl, h3, h4⟩ := RL.split h2
    exact ⟨c1 ++ c3, c4, o1 ++ o3, o4, by simp, by simp, by simpa using h1.append h3, h4⟩
theorem RL.cons {v : AV} {vs : List AV} {c1 c2 : List Value} {o1 o2 : List Nat} (h1 : RL W F Fr μ [v] c1 o1) (h2 : RL W F Fr μ vs c2 o2) : RL W F Fr μ (v :: vs) (c1 ++ c2) (o1 ++ o2) := by
  simpa using h1.append h2
theorem RL.oneCell {vs : List AV} {cs : List Value} {o : List Nat} (h : RL W F Fr μ vs cs o) : ∀ c ∈ cs, c.oneCell' = true := by
  induction h <;> simp_all [Value.oneCell']
  rename_i ih1 ih2
  intro c hc
  rcases hc with hc | hc
  · exact ih1 c hc
  · exact ih2 c hc
theorem RL.inAgg {l : List AV} {cs : List Value} {o : List Nat} (h : RL W F Fr μ [.agg l] cs o) : ones l ∧ RL W F Fr μ l cs o := by
  cases h with
  | agg hone h h2 => cases h2; simpa using ⟨hone, h⟩
theorem RL.toAgg {l : List AV} {cs : List Value} {o : List Nat} (hone : ones l) (h : RL W F Fr μ l cs o) : RL W F Fr μ [.agg l] cs o := by
  simpa using RL.agg hone h .nil
/-- A row by its cells. -/
theorem RL.cells {v : AV} {cs : List Value} {o : List Nat} (h : RL W F Fr μ [v] cs o) : ones (cellsOf v) ∧ RL W F Fr μ (cellsOf v) cs o := by
  cases v with
  | agg l => exact h.inAgg
  | tup l => cases h
  | _ => exact ⟨by simp [cellsOf, ones], h⟩
/-- A part of one-cell values. -/
theorem RL.sub {l l' : List AV} {cs : List Value} {o : List Nat} (h : RL W F Fr μ l cs o) (hone : ones l) {c m : Nat} (hs : sub? l c m = some l') :
    ones l' ∧ l'.length = m ∧ c + m ≤ cs.length ∧ ∃ o', RL W F Fr μ l' ((cs.drop c).take m) o' ∧ ∀ x ∈ o', x ∈ o := by
  unfold sub? at hs
  split at hs
  · rename_i hle
    obtain rfl := Option.some.inj hs
    have e : l = l.take c ++ ((l.drop c).take m ++ (l.drop c).drop m) := by rw [List.take_append_drop, List.take_append_drop]
    rw [e] at h
    obtain ⟨c1, c2, o1, o2, rfl, rfl, h1, h2⟩ := h.split
    obtain ⟨c3, c4, o3, o4, rfl, rfl, h3, h4⟩ := h2.split
    have w1 := h1.width
    have w3 := h3.width
    have w4 := h4.width
    have hu : ∀ {m : List AV}, (∀ v ∈ m, v ∈ l) → ones m := fun hm => ones_sub hone hm
    rw [ones_widthL (hu fun v hv => List.mem_of_mem_take hv)] at w1
    rw [ones_widthL (hu fun v hv => List.mem_of_mem_drop (List.mem_of_mem_take hv))] at w3
    simp at w1 w3
    have hc1 : c1.length = c := by omega
    have hc3 : c3.length = m := by omega
    clear w4
    refine ⟨hu fun v hv => List.mem_of_mem_drop (List.mem_of_mem_take hv), by simp; omega, by simp; omega, o3, ?_, fun x hx => by simp [hx]⟩
    rw [List.drop_left' hc1, List.take_left' hc3]
    exact h3
  · cases hs
theorem RL.own_flatC {v : AV} (hf : flatC v = true) {cs : List Value} {o : List Nat} (h : RL W F Fr μ [v] cs o) : o = [] := by
  cases v <;> simp [flatC] at hf
  all_goals (cases h; rename_i h; cases h; rfl)
theorem RL.own_flatCL : ∀ {l : List AV}, flatCL l = true → ∀ {cs : List Value} {o : List Nat}, RL W F Fr μ l cs o → o = []
  | [], _, _, _, h => by cases h; rfl
  | v :: l, hf, _, _, h => by
    simp [flatCL] at hf
    obtain ⟨c1, c2, o1, o2, rfl, rfl, h1, h2⟩ := RL.uncons h
    rw [RL.own_flatC hf.1 h1, RL.own_flatCL hf.2 h2]
    rfl
theorem RL.own_flatR {v : AV} (hf : flatR v = true) {cs : List Value} {o : List Nat} (h : RL W F Fr μ [v] cs o) : o = [] := by
  cases v with
  | agg l => exact RL.own_flatCL (by simpa [flatR] using hf) h.inAgg.2
  | _ => exact RL.own_flatC (by simpa [flatR] using hf) h
theorem RL.own_flatL : ∀ {l : List AV}, flatL l = true → ∀ {cs : List Value} {o : List Nat}, RL W F Fr μ l cs o → o = []
  | [], _, _, _, h => by cases h; rfl
  | v :: l, hf, _, _, h => by
    simp [flatL] at hf
    obtain ⟨c1, c2, o1, o2, rfl, rfl, h1, h2⟩ := RL.uncons h
    rw [RL.own_flatR hf.1 h1, RL.own_flatL hf.2 h2]
    rfl
/-- Numbers, bools and strings are told whatever the memory. -/
theorem RL.ofFlatC {v : AV} (hf : flatC v = true) {cs : List Value} {o : List Nat} (h : RL W F Fr μ [v] cs o) {W' : World} {F' Fr' : Nat → Prop} {μ' : Place} : RL W' F' Fr' μ' [v] cs [] := by
  cases v <;> simp [flatC] at hf
  all_goals (cases h; rename_i h; cases h; constructor; constructor)
theorem RL.ofFlatCL : ∀ {l : List AV}, flatCL l = true → ∀ {cs : List Value} {o : List Nat}, RL W F Fr μ l cs o → ∀ {W' : World} {F' Fr' : Nat → Prop} {μ' : Place}, RL W' F' Fr' μ' l cs []
  | [], _, _, _, h, _, _, _, _ => by cases h; exact .nil
  | v :: l, hf, _, _, h, _, _, _, _ => by
    simp [flatCL] at hf
    obtain ⟨c1, c2, o1, o2, rfl, rfl, h1, h2⟩ := RL.uncons h
    exact RL.cons (RL.ofFlatC hf.1 h1) (RL.ofFlatCL hf.2 h2)
theorem RL.ofFlatR {v : AV} (hf : flatR v = true) {cs : List Value} {o : List Nat} (h : RL W F Fr μ [v] cs o) {W' : World} {F' Fr' : Nat → Prop} {μ' : Place} : RL W' F' Fr' μ' [v] cs [] := by
  cases v with
  | agg l => exact .toAgg h.inAgg.1 (RL.ofFlatCL (by simpa [flatR] using hf) h.inAgg.2)
  | _ => exact RL.ofFlatC (by simpa [flatR] using hf) h
theorem RL.ofFlatL : ∀ {l : List AV}, flatL l = true → ∀ {cs : List Value} {o : List Nat}, RL W F Fr μ l cs o → ∀ {W' : World} {F' Fr' : Nat → Prop} {μ' : Place}, RL W' F' Fr' μ' l cs []
  | [], _, _, _, h, _, _, _, _ => by cases h; exact .nil
  | v :: l, hf, _, _, h, _, _, _, _ => by
    simp [flatL] at hf
    obtain ⟨c1, c2, o1, o2, rfl, rfl, h1, h2⟩ := RL.uncons h
    exact RL.cons (RL.ofFlatR hf.1 h1) (RL.ofFlatL hf.2 h2)
/-- The rows from one on, so many of them. -/
theorem RL.rows {sz : Nat} {l : List AV} {cs : List Value} {o : List Nat} (h : RL W F Fr μ l cs o) (hu : uni sz l) {i m : Nat} (hle : i + m ≤ l.length) :
    ∃ c1 c3 o1 o2 o3, cs = c1 ++ ((cs.drop (i * sz)).take (m * sz) ++ c3) ∧ c1.length = i * sz ∧ ((cs.drop (i * sz)).take (m * sz)).length = m * sz ∧ o = o1 ++ (o2 ++ o3) ∧ RL W F Fr μ (l.take i) c1 o1 ∧
      RL W F Fr μ ((l.drop i).take m) ((cs.drop (i * sz)).take (m * sz)) o2 ∧ RL W F Fr μ (l.drop (i + m)) c3 o3 := by
  have e : l = l.take i ++ ((l.drop i).take m ++ l.drop (i + m)) := by rw [← List.drop_drop, List.take_append_drop, List.take_append_drop]
  rw [e] at h
  obtain ⟨c1, c2, o1, o2, rfl, rfl, h1, h2⟩ := h.split
  obtain ⟨c3, c4, o3, o4, rfl, rfl, h3, h4⟩ := h2.split
  have w1 := h1.width
  have w3 := h3.width
  have hs : ∀ {m : List AV}, (∀ v ∈ m, v ∈ l) → uni sz m := fun hm => uni_sub hu hm
  rw [uni_widthL (hs fun v hv => List.mem_of_mem_take hv)] at w1
  rw [uni_widthL (hs fun v hv => List.mem_of_mem_drop (List.mem_of_mem_take hv))] at w3
  simp only [List.length_take, List.length_drop] at w1 w3
  rw [Nat.min_eq_left (by omega)] at w1 w3
  have ed : (((c1 ++ (c3 ++ c4)).drop (i * sz)).take (m * sz)) = c3 := by
    rw [List.drop_left' w1, List.take_left' w3]
  rw [ed]
  exact ⟨c1, c4, o1, o3, o4, rfl, w1, w3, rfl, h1, h3, h4⟩
end
end Go.Am
/- THE ABSTRACT MACHINE (AM): what holds between its state and the machine's. No condition. -/
namespace Go.Am

section
variable (W : World) (F Fr : Nat → Prop) (μ : Place)
def RV1 (v : AV) (cv : Value) : Prop :=
  match v with
  | .junk => True
  | .agg l => ∃ cs : Array Value, cv = .agg cs ∧ RL W F Fr μ [.agg l] cs.toList []
  | v => RL W F Fr μ [v] [cv] []
/-- A temporary's value. -/
def RV (v : AV) (cv : Value) : Prop :=
  match v with
  | .tup l => ∃ vs : Array Value, cv = .tuple vs ∧ l.length = vs.size ∧ ∀ (j : Nat) x, l[j]? = some x → ∃ c, vs[j]? = some c ∧ RV1 W F Fr μ x c
  | v => RV1 W F Fr μ v cv
def BRel (id : Nat) (b : Blk) (o : List Nat) : Prop :=
  match b with
  | .box cs => ∃ (L : Loc) (csv : List Value), μ id none = some L ∧ ones cs ∧ RL W F Fr μ cs csv [] ∧ cellsAt W L.g L.o0 csv ∧ openAt W L.g L.o0 csv.length ∧ o = [L.g]
  | .arr sz rows => ∃ (L : Loc) (csv : List Value) (o1 : List Nat), μ id none = some L ∧ L.sz = sz ∧ 0 < sz ∧ uni sz rows ∧ RL W no no noPlace rows csv o1 ∧ rows.length ≤ L.capT ∧ cellsAt W L.g L.o0 csv ∧
      openAt W L.g L.o0 (L.capT * sz) ∧ o = (if L.capT = 0 then [] else [L.g]) ++ o1 ∧
      (∀ r c row sz' l, rows[r]? = some row → (cellsOf row)[c]? = some (.un sz' l) → ∃ (L' : Loc) (A : Option Addr), μ id (some (r, c)) = some L' ∧ L'.sz = sz' ∧ csv[r * sz + c]? = some (.slice A l.length L'.capT) ∧ (0 < L'.capT → A = some ⟨L'.g, L'.o0, none⟩))
  | .mp _ => False
structure HInv (h : Heap) (own : Nat → List Nat) (n : Nat) : Prop where
  blk : ∀ id b, find h id = some b → BRel W F Fr μ id b (own id)
  nd : ∀ id b, find h id = some b → (own id).Nodup
  dis : ∀ id id' b b', find h id = some b → find h id' = some b' → id ≠ id' → ∀ x ∈ own id, x ∉ own id'
  out : ∀ id b, find h id = some b → ∀ x ∈ own id, ¬ F x ∧ x < W.heap.size
  lt : ∀ id b, find h id = some b → id < n
  pl : ∀ id p L, μ id p = some L → id < n
  fr : ∀ x, Fr x → F x
  fsz : ∀ x, F x → x < W.heap.size
def TInv (t : Temps) (tmps : Array Value) : Prop := ∀ j, RV W F Fr μ (get t j) (tmps.getD j undef)
end
/-- Is a block one of the heap's own? -/
def Owned (h : Heap) (own : Nat → List Nat) (x : Nat) : Prop := ∃ id b, find h id = some b ∧ x ∈ own id
/-- The world behind a step: whatever the heap does not own is as it was. -/
structure Step (h : Heap) (own : Nat → List Nat) (W W' : World) : Prop where
  os : W'.os = W.os
  tape : W'.tape = W.tape
  output : W'.output = W.output
  size : W.heap.size ≤ W'.heap.size
  same : ∀ x, x < W.heap.size → ¬ Owned h own x → Same W W' x
structure After (W : World) (F Fr : Nat → Prop) (μ : Place) (h : Heap) (own : Nat → List Nat) (n : Nat) (h' : Heap) (n' : Nat) (v : AV) (cv : Value) (W' : World) : Prop where
  step : Step h own W W'
  le : n ≤ n'
  ex : ∃ (μ' : Place) (own' : Nat → List Nat), (∀ id p, id < n → μ' id p = μ id p) ∧ HInv W' F Fr μ' h' own' n' ∧ RV W' F Fr μ' v cv ∧ (∀ x, Owned h' own' x → W.heap.size ≤ x ∨ Owned h own x)

section
variable {W : World} {F Fr : Nat → Prop} {μ : Place}
theorem Step.refl (h : Heap) (own : Nat → List Nat) (W : World) : Step h own W W := ⟨rfl, rfl, rfl, Nat.le_refl _, fun _ _ _ => rfl⟩
theorem Step.drew {h : Heap} {own : Nat → List Nat} {W W' : World} (s : Step h own W W') : Step h own W W'.drew := ⟨s.os, s.tape, s.output, s.size, s.same⟩
theorem Step.alloc {h : Heap} {own : Nat → List Nat} {W W' : World} (s : Step h own W W') (o : Obj) : Step h own W (W'.alloc o) :=
  ⟨s.os, s.tape, s.output, by rw [World.size_alloc]; exact Nat.le_succ_of_le s.size, fun x hx ho => by
    have h1 := s.same x hx ho
    have h2 := s.size
    show (W'.heap.push o)[x]? = _
    rw [Array.getElem?_push, if_neg (by omega)]; exact h1⟩
theorem not_owned {h : Heap} {own : Nat → List Nat} {n : Nat} (H : HInv W F Fr μ h own n) {x : Nat} (hx : F x) : ¬ Owned h own x :=
  fun ⟨id, b, hb, hm⟩ => (H.out id b hb x hm).1 hx
theorem Step.onF {h : Heap} {own : Nat → List Nat} {n : Nat} {W' : World} (s : Step h own W W') (H : HInv W F Fr μ h own n) : ∀ x, F x → Same W W' x :=
  fun x hx => s.same x (H.fsz x hx) (not_owned H hx)
theorem RV1.same {W' : World} {v : AV} {cv : Value} (h : RV1 W F Fr μ v cv) (hFr : ∀ x, Fr x → F x) (hF : ∀ x, F x → Same W W' x) : RV1 W' F Fr μ v cv := by
  cases v with
  | junk => trivial
  | agg l => obtain ⟨cs, rfl, hr⟩ := h; exact ⟨cs, rfl, hr.same hFr hF (by simp)⟩
  | _ => exact RL.same h hFr hF (by simp)
theorem RV.eq1 {v : AV} {cv : Value} (h : ∀ l, v ≠ .tup l) : RV W F Fr μ v cv = RV1 W F Fr μ v cv := by
  cases v <;> first | rfl | exact absurd rfl (h _)
theorem RV.same {W' : World} {v : AV} {cv : Value} (h : RV W F Fr μ v cv) (hFr : ∀ x, Fr x → F x) (hF : ∀ x, F x → Same W W' x) : RV W' F Fr μ v cv := by
  cases v with
  | tup l => obtain ⟨vs, rfl, hl, hr⟩ := h; exact ⟨vs, rfl, hl, fun j x hj => let ⟨c, hc, hr⟩ := hr j x hj; ⟨c, hc, hr.same hFr hF⟩⟩
  | _ => rw [RV.eq1 (by simp)] at h ⊢; exact h.same hFr hF
theorem RV1.more {F' Fr' : Nat → Prop} {μ' : Place} {v : AV} {cv : Value} (h : RV1 W F Fr μ v cv) (a : ∀ x, F x → F' x) (b : ∀ x, Fr x → Fr' x) (c : ∀ id p L, μ id p = some L → μ' id p = some L) : RV1 W F' Fr' μ' v cv := by
  cases v with
  | junk => trivial
  | agg l => obtain ⟨cs, rfl, hr⟩ := h; exact ⟨cs, rfl, hr.more a b c⟩
  | _ => exact RL.more h a b c
theorem RV.more {F' Fr' : Nat → Prop} {μ' : Place} {v : AV} {cv : Value} (h : RV W F Fr μ v cv) (a : ∀ x, F x → F' x) (b : ∀ x, Fr x → Fr' x) (c : ∀ id p L, μ id p = some L → μ' id p = some L) : RV W F' Fr' μ' v cv := by
  cases v with
  | tup l => obtain ⟨vs, rfl, hl, hr⟩ := h; exact ⟨vs, rfl, hl, fun j x hj => let ⟨c', hc, hr⟩ := hr j x hj; ⟨c', hc, hr.more a b c⟩⟩
  | _ => rw [RV.eq1 (by simp)] at h ⊢; exact h.more a b c
theorem TInv.put {t : Temps} {tmps : Array Value} {ds : List Deferred} (h : TInv W F Fr μ t tmps) (dst : Option Nat) {v : AV} {cv : Value} (hv : RV W F Fr μ v cv) (hd : ∀ d, dst = some d → d < tmps.size) :
    TInv W F Fr μ (putT t dst v) (Act.put { tmps, defers := ds } dst cv).tmps := by
  cases dst with
  | none => exact h
  | some d =>
    intro j
    simp only [putT, Act.put, get]
    have hd := hd d rfl
    by_cases e : d = j
    · subst e; simpa [Array.getD_eq_getD_getElem?, hd] using hv
    · have := h j
      simpa [e, Array.getD_eq_getD_getElem?, Array.getElem?_setIfInBounds_ne e] using this
/-- Nothing is done to memory. -/
theorem After.pure {h : Heap} {own : Nat → List Nat} {n : Nat} (H : HInv W F Fr μ h own n) {v : AV} {cv : Value} (hv : RV W F Fr μ v cv) : After W F Fr μ h own n h n v cv W :=
  ⟨.refl _ _ _, Nat.le_refl _, μ, own, fun _ _ _ => rfl, H, hv, fun _ h => .inr h⟩
/-! ### What values tell -/
theorem RL.int1 {k : IntKind} {n : Int} {cs : List Value} {o : List Nat} (h : RL W F Fr μ [.i k n] cs o) : cs = [.int k n] := by cases h with | i h => cases h; rfl
theorem RV.int {k : IntKind} {n : Int} {cv : Value} (h : RV W F Fr μ (.i k n) cv) : cv = .int k n := by simpa using RL.int1 h
theorem RV.bool {x : Bool} {cv : Value} (h : RV W F Fr μ (.b x) cv) : cv = .bool x := by have : RL W F Fr μ [.b x] [cv] [] := h; cases this; rfl
theorem RV.str {x : ByteArray} {cv : Value} (h : RV W F Fr μ (.s x) cv) : cv = .string x := by have : RL W F Fr μ [.s x] [cv] [] := h; cases this; rfl
theorem RV.ofInt (k : IntKind) (n : Int) : RV W F Fr μ (.i k n) (.int k n) := RL.i .nil
theorem RV.ofBool (x : Bool) : RV W F Fr μ (.b x) (.bool x) := RL.b .nil
theorem RV.ofStr (x : ByteArray) : RV W F Fr μ (.s x) (.string x) := RL.s .nil
theorem RV.undef : RV W F Fr μ (.tup []) Go.undef := ⟨#[], rfl, rfl, by simp⟩
theorem RV.agg {l : List AV} {cv : Value} (h : RV W F Fr μ (.agg l) cv) : ∃ cs : Array Value, cv = .agg cs ∧ ones l ∧ RL W F Fr μ l cs.toList [] := by
  obtain ⟨cs, rfl, h⟩ := h
  exact ⟨cs, rfl, h.inAgg.1, h.inAgg.2⟩
theorem RV.ofAgg {l : List AV} {cs : List Value} (hone : ones l) (h : RL W F Fr μ l cs []) : RV W F Fr μ (.agg l) (.agg cs.toArray) := ⟨cs.toArray, rfl, by simpa using RL.toAgg hone h⟩
theorem cells_one {v : Value} (h : v.oneCell' = true) : v.cells = #[v] := by cases v <;> simp_all [Value.oneCell', Value.cells]
/-- A value's cells. -/
theorem RV.cells {v : AV} {cv : Value} (h : RV W F Fr μ v cv) (hb : boxableL (cellsOf v) = true ∨ (v ≠ .junk ∧ ∀ l, v ≠ .tup l)) : ones (cellsOf v) ∧ RL W F Fr μ (cellsOf v) cv.cells.toList [] := by
  cases v with
  | junk => rcases hb with hb | hb <;> simp [boxableL, boxable, cellsOf] at hb
  | tup l => rcases hb with hb | hb <;> simp [boxableL, boxable, cellsOf] at hb
  | agg l => obtain ⟨cs, rfl, h1, h2⟩ := h.agg; exact ⟨h1, h2⟩
  | _ =>
    have h : RL W F Fr μ [_] [cv] [] := h
    have h1 := h.oneCell cv (by simp)
    exact ⟨by simp [cellsOf, ones], by rw [cells_one h1]; exact h⟩
theorem mkVal_rel {a : Bool} {l : List AV} {v : AV} {cs : List Value} {o : List Nat} (hone : ones l) (h : RL W F Fr μ l cs o) (ho : o = []) (hv : mkVal a l = some v) :
    RV W F Fr μ v (if a then .agg cs.toArray else cs.headD undef) ∧ (a = false → cs.length = 1) := by
  subst ho
  cases a with
  | true =>
    have : v = .agg l := by
      unfold mkVal at hv; split at hv <;> simp_all
    subst this
    exact ⟨RV.ofAgg hone h, by simp⟩
  | false =>
    match l, hone, h, hv with
    | [], hone, h, hv => simp [mkVal] at hv
    | [x], hone, h, hv =>
      simp [mkVal] at hv
      subst hv
      have hw := h.width
      simp [AV.widthL, width_one hone.1] at hw
      match cs, hw with
      | [c], _ =>
        refine ⟨?_, fun _ => rfl⟩
        simp only [Bool.false_eq_true, if_false, List.headD_cons]
        cases x with
        | agg m => exact absurd rfl (hone.1 m)
        | tup m => cases h
        | junk => trivial
        | _ => exact h
    | x :: y :: l, hone, h, hv => simp [mkVal] at hv
end
end Go.Am
/- THE ABSTRACT MACHINE (AM): its plain operations do what the machine's do. No condition. -/
namespace Go.Am
set_option linter.unusedSimpArgs false
set_option linter.unusedVariables false

/-- What an operation comes to. -/
def Done (P : Program) (o : Oper) (a : Act) (W : World) (K : Value → World → Prop) : Prop :=
  (∃ cv W', (execOp a.eval o).run P W = .ok (.value cv) W' ∧ K cv W') ∨ (∃ W', (execOp a.eval o).run P W = .ok .skip W' ∧ K Go.undef W') ∨
  (∃ f args W1, (execOp a.eval o).run P W = .ok (.enter f args) W1 ∧ Calls P f args W1 fun e W' => ∃ cv, e = .returned cv ∧ K cv W')
theorem Done.wp {P : Program} {o : Oper} {a : Act} {W : World} {K : Value → World → Prop} {next : Act → World → Prop} {Q : Exit → Act → World → Prop} (h : Done P o a W K)
    (hk : ∀ cv W', K cv W' → next (a.put o.dst cv) W') : o.wp P a W next Q := by
  unfold Oper.wp
  rcases h with ⟨cv, W', h, k⟩ | ⟨W', h, k⟩ | ⟨f, args, W1, h, k⟩
  · rw [h]; exact hk _ _ k
  · rw [h]; exact hk _ _ k
  · rw [h]
    refine Calls.mono k fun e W' ⟨cv, he, k⟩ => ?_
    subst he
    exact hk _ _ k
theorem Done.value {P : Program} {o : Oper} {a : Act} {W W' : World} {K : Value → World → Prop} {cv : Value} (h : (execOp a.eval o).run P W = .ok (.value cv) W') (k : K cv W') : Done P o a W K := .inl ⟨cv, W', h, k⟩
theorem Done.mono {P : Program} {o : Oper} {a : Act} {W : World} {K K' : Value → World → Prop} (h : Done P o a W K) (hk : ∀ cv W', K cv W' → K' cv W') : Done P o a W K' := by
  rcases h with ⟨cv, W', h, k⟩ | ⟨W', h, k⟩ | ⟨f, args, W1, h, k⟩
  · exact .inl ⟨cv, W', h, hk _ _ k⟩
  · exact .inr (.inl ⟨W', h, hk _ _ k⟩)
  · exact .inr (.inr ⟨f, args, W1, h, Calls.mono k fun e W' ⟨cv, he, k⟩ => ⟨cv, he, hk _ _ k⟩⟩)

section
variable {P : Program} {W : World} {F Fr : Nat → Prop} {μ : Place}
theorem avOf_rel {v : Value} {x : AV} (h : avOf v = some x) : RL W F Fr μ [x] [v] [] ∧ (∀ m, x ≠ .agg m) := by
  unfold avOf at h
  split at h <;> first | (obtain rfl := Option.some.inj h; refine ⟨?_, by simp⟩; first | exact .b .nil | exact .i .nil | exact .s .nil | exact .nilp .nil | exact .niL .nil | exact .nilm .nil | exact .nilf .nil) | cases h
theorem avsOf_rel : ∀ {l : List Value} {xs : List AV}, avsOf l = some xs → RL W F Fr μ xs l [] ∧ ones xs
  | [], xs, h => by simp [avsOf] at h; subst h; exact ⟨.nil, trivial⟩
  | v :: l, xs, h => by
    simp only [avsOf] at h
    split at h
    · rename_i x ys hx hys
      obtain rfl := Option.some.inj h
      have h1 := avOf_rel (W := W) (F := F) (Fr := Fr) (μ := μ) hx
      have h2 := avsOf_rel (l := l) hys
      exact ⟨by simpa using RL.cons h1.1 h2.1, h1.2, h2.2⟩
    · cases h
theorem avTop_rel {v : Value} {x : AV} (h : avTop v = some x) : RV W F Fr μ x v := by
  unfold avTop at h
  split at h
  · rename_i cs
    split at h
    · rename_i l hl
      obtain rfl := Option.some.inj h
      obtain ⟨h1, h2⟩ := avsOf_rel (W := W) (F := F) (Fr := Fr) (μ := μ) hl
      exact ⟨cs, rfl, .toAgg h2 h1⟩
    · cases h
  · rename_i vs
    split at h
    · rename_i hl
      obtain rfl := Option.some.inj h
      have : vs = #[] := by cases vs; simp_all
      subst this
      exact RV.undef
    · cases h
  · have h1 := avOf_rel (W := W) (F := F) (Fr := Fr) (μ := μ) h
    cases x with
    | agg l => exact absurd rfl (h1.2 l)
    | tup l => cases h1.1
    | junk => trivial
    | _ => exact h1.1
theorem opd_rel {x : Operand} {y : Opd} (h : slimX x = some y) {t : Temps} {a : Act} (ht : TInv W F Fr μ t a.tmps) : RV W F Fr μ (y.ev t) (a.eval x) := by
  cases x with
  | tmp j => simp [slimX] at h; subst h; exact ht j
  | const v =>
    simp only [slimX] at h
    split at h
    · rename_i x hx; obtain rfl := Option.some.inj h; exact avTop_rel hx
    · cases h
  | global g => simp [slimX] at h
  | func f =>
    simp [slimX] at h
    subst h
    exact RL.fn f [] #[] .nil .nil
theorem opds_rel {t : Temps} {a : Act} (ht : TInv W F Fr μ t a.tmps) : ∀ {l : List Operand} {ys : List Opd}, slimXs l = some ys → ys.length = l.length ∧ ∀ (j : Nat) y, ys[j]? = some y → ∃ x, l[j]? = some x ∧ RV W F Fr μ (y.ev t) (a.eval x)
  | [], ys, h => by simp [slimXs] at h; subst h; simp
  | x :: l, ys, h => by
    simp only [slimXs] at h
    split at h
    · rename_i y ys' hy hys
      obtain rfl := Option.some.inj h
      have ih := opds_rel ht hys
      refine ⟨by simp [ih.1], fun j z hj => ?_⟩
      cases j with
      | zero => simp at hj; subst hj; exact ⟨x, by simp, opd_rel hy ht⟩
      | succ j => simpa using ih.2 j z (by simpa using hj)
    · cases h

/-! ### Operations on numbers, bools, strings -/
theorem bitsOf_run (op : BinOp) (hop : op = .and ∨ op = .or ∨ op = .xor ∨ op = .andNot) (k : IntKind) (x y : Int) : (Op.intBits op k x y).run P W = .ok (.int k (bitsOf op k x y)) W := by
  rcases hop with rfl | rfl | rfl | rfl <;> rfl
theorem binInt_run {op : BinOp} (h1 : op ≠ .shl) (h2 : op ≠ .shr) {k : IntKind} {a b : Int} {v : AV} (h : binInt op k a b = some v) (t : TypeId) :
    ∃ cv, (Go.binOp op t (.int k a) (.int k b)).run P W = .ok cv W ∧ RV W F Fr μ v cv := by
  cases op <;> simp only [binInt] at h <;> first | exact absurd rfl h1 | exact absurd rfl h2 | skip
  case quo => split at h <;> simp_all; subst h; exact ⟨_, by simp [Go.binOp, Op.intDiv, *], RV.ofInt _ _⟩
  case rem => split at h <;> simp_all; subst h; exact ⟨_, by simp [Go.binOp, Op.intDiv, *], RV.ofInt _ _⟩
  case and => simp at h; subst h; exact ⟨_, by simp [Go.binOp, bitsOf_run], RV.ofInt _ _⟩
  case or => simp at h; subst h; exact ⟨_, by simp [Go.binOp, bitsOf_run], RV.ofInt _ _⟩
  case xor => simp at h; subst h; exact ⟨_, by simp [Go.binOp, bitsOf_run], RV.ofInt _ _⟩
  case andNot => simp at h; subst h; exact ⟨_, by simp [Go.binOp, bitsOf_run], RV.ofInt _ _⟩
  case add => simp at h; subst h; exact ⟨.int k _, by simp [Go.binOp, Op.intArith], RV.ofInt _ _⟩
  case sub => simp at h; subst h; exact ⟨.int k _, by simp [Go.binOp, Op.intArith], RV.ofInt _ _⟩
  case mul => simp at h; subst h; exact ⟨.int k _, by simp [Go.binOp, Op.intArith], RV.ofInt _ _⟩
  case eql => simp at h; subst h; exact ⟨.bool _, by simp only [Go.binOp]; rw [if_neg (by simp)]; rfl, RV.ofBool _⟩
  case neq => simp at h; subst h; exact ⟨.bool _, by simp only [Go.binOp]; rw [if_neg (by simp)]; rfl, RV.ofBool _⟩
  case lss => simp at h; subst h; exact ⟨.bool _, by simp only [Go.binOp]; rw [if_neg (by simp)]; rfl, RV.ofBool _⟩
  case leq => simp at h; subst h; exact ⟨.bool _, by simp only [Go.binOp]; rw [if_neg (by simp)]; rfl, RV.ofBool _⟩
  case gtr => simp at h; subst h; exact ⟨.bool _, by simp only [Go.binOp]; rw [if_neg (by simp)]; rfl, RV.ofBool _⟩
  case geq => simp at h; subst h; exact ⟨.bool _, by simp only [Go.binOp]; rw [if_neg (by simp)]; rfl, RV.ofBool _⟩
theorem shift_run {op : BinOp} {k yk : IntKind} {a b : Int} {v : AV} (h : shiftInt op k a b = some v) (t : TypeId) (hop : op = .shl ∨ op = .shr) :
    ∃ cv, (Go.binOp op t (.int k a) (.int yk b)).run P W = .ok cv W ∧ RV W F Fr μ v cv := by
  unfold shiftInt at h
  split at h
  · cases h
  · rename_i hb
    rcases hop with rfl | rfl
    · simp at h; subst h
      exact ⟨.int k _, by simp [Go.binOp, Op.shift, hb], RV.ofInt _ _⟩
    · simp at h; subst h
      exact ⟨.int k _, by simp [Go.binOp, Op.shift, hb], RV.ofInt _ _⟩
theorem toList_inj {x y : ByteArray} : (x.toList == y.toList) = decide (x = y) := by
  rw [Bool.eq_iff_iff, beq_iff_eq, decide_eq_true_iff, ByteArray.toList_eq, ByteArray.toList_eq]
  exact ⟨fun h => ByteArray.ext (Array.toList_inj.mp h), fun h => by rw [h]⟩
theorem strOp_run {op : BinOp} {x y : ByteArray} {v : AV} (h : strOp op x y = some v) (t : TypeId) : ∃ cv, (Go.binOp op t (.string x) (.string y)).run P W = .ok cv W ∧ RV W F Fr μ v cv := by
  have e := toList_inj (x := x) (y := y)
  cases op <;> simp only [strOp] at h <;> (try cases h)
  case add =>
    split at h
    · rename_i hle
      obtain rfl := Option.some.inj h
      refine ⟨_, ?_, RV.ofStr _⟩
      have : ¬ (((x.size + y.size : Nat) : Int) > IntKind.i64.max) := by
        show ¬ (((x.size + y.size : Nat) : Int) > 2 ^ 63 - 1)
        omega
      simp only [Go.binOp, Op.stringOp, this, if_false]
      rfl
    · cases h
  case eql => exact ⟨_, by simp only [Go.binOp, Op.stringOp, e]; rfl, RV.ofBool _⟩
  case neq => exact ⟨_, by simp only [Go.binOp, Op.stringOp, e]; rfl, RV.ofBool _⟩
  case lss => exact ⟨_, by simp only [Go.binOp, Op.stringOp]; rfl, RV.ofBool _⟩
  case geq => exact ⟨_, by simp only [Go.binOp, Op.stringOp]; rfl, RV.ofBool _⟩
end
end Go.Am
/- THE ABSTRACT MACHINE (AM): what it reads is what the machine reads. No condition. -/
namespace Go.Am
set_option linter.unusedSimpArgs false
set_option linter.unusedVariables false

theorem add_at (g o k : Nat) : (⟨g, o, none⟩ : Addr).add k = ⟨g, o + k, none⟩ := by unfold Addr.add; split <;> simp_all
theorem cellsAt.sub {W : World} {g o0 : Nat} {cs : List Value} (h : cellsAt W g o0 cs) (c m : Nat) : cellsAt W g (o0 + c) ((cs.drop c).take m) := by
  intro k v hk
  rw [List.getElem?_take] at hk
  split at hk
  · rw [List.getElem?_drop] at hk
    have := h _ _ hk
    rwa [show o0 + (c + k) = o0 + c + k by omega] at this
  · cases hk
section
variable {P : Program} {W : World} {F Fr : Nat → Prop} {μ : Place}
theorem run_isAgg {t : TypeId} {a : Bool} (h : isAggB P t = some a) : (isAgg t).run P W = .ok a W := by
  unfold isAggB at h
  unfold isAgg Go.underlying
  split at h <;> simp_all
theorem info_of_underlying {t : TypeId} {d : TypeDesc} (h : P.underlying t = some d) : ∃ i, P.info? t = some i := by
  unfold Program.underlying at h
  split at h
  · rename_i hq; exact ⟨_, hq⟩
  · rename_i i hq _; exact ⟨i, by assumption⟩
  · cases h
theorem run_sizeOf {t : TypeId} {d : TypeDesc} (h : P.underlying t = some d) : (sizeOf t).run P W = .ok (P.cellsOf t) W := by
  obtain ⟨i, hi⟩ := info_of_underlying h
  simp [sizeOf, typeInfo, hi, Program.cellsOf]
theorem run_szOf {t : TypeId} {m : Nat} (h : szOf P t = some m) : (sizeOf t).run P W = .ok m W := by
  unfold szOf at h
  cases hi : P.info? t with
  | none => rw [hi] at h; cases h
  | some i => rw [hi] at h; simp at h; subst h; simp [sizeOf, typeInfo, hi]
theorem isAgg_und {t : TypeId} {a : Bool} (h : isAggB P t = some a) : ∃ d, P.underlying t = some d := by
  unfold isAggB at h
  split at h <;> first | exact ⟨_, by assumption⟩ | cases h
/-- A load. -/
theorem loadVar_run {t : TypeId} {a : Bool} (ha : isAggB P t = some a) {m : Nat} (hm : szOf P t = some m) {g o : Nat} {cs : List Value} (hc : cellsAt W g o cs) (hl : cs.length = if a then m else 1) :
    (loadVar t ⟨g, o, none⟩).run P W = .ok (if a then .agg cs.toArray else cs.headD Go.undef) W := by
  obtain ⟨d, hd⟩ := isAgg_und ha
  cases a with
  | true =>
    simp only [if_true] at hl
    have := run_loadCells_list (P := P) W ⟨g, o, none⟩ cs (fun j v hj => by rw [add_at]; exact hc j v hj)
    simp only [loadVar, Sem.run_bind, run_isAgg ha, Result.andThen_ok, if_true, run_szOf hm, ← hl, this, Sem.run_pure]
  | false =>
    match cs, hl with
    | [c], _ =>
      have := hc 0 c rfl
      simp only [Nat.add_zero] at this
      simp [loadVar, run_isAgg ha, this]
theorem flatCells_rel {F' Fr' : Nat → Prop} {μ' : Place} : ∀ {l : List AV} {cs : List Value} {o : List Nat}, RL W F Fr μ l cs o → ones l → RL W F' Fr' μ' (flatCells l) cs []
  | [], _, _, h, _ => by cases h; exact .nil
  | v :: l, _, _, h, hone => by
    obtain ⟨c1, c2, o1, o2, rfl, rfl, h1, h2⟩ := RL.uncons h
    have ih := flatCells_rel (F' := F') (Fr' := Fr') (μ' := μ') h2 hone.2
    have hw := h1.width
    simp [AV.widthL, width_one hone.1] at hw
    match c1, hw with
    | [c], _ =>
      have hc := h1.oneCell c (by simp)
      simp only [flatCells, List.singleton_append]
      cases v <;> simp only [flatCell] <;> first | exact .junk c hc ih | skip
      · cases h1; exact .i ih
      · cases h1; exact .b ih
      · cases h1; exact .s ih
theorem ones_flat : ∀ {l : List AV}, ones (flatCells l)
  | [] => trivial
  | v :: l => ⟨by cases v <;> simp [flatCell], ones_flat⟩
theorem ones_open (id r : Nat) : ∀ (c : Nat) (l : List AV), ones (openCells id r c l)
  | _, [] => trivial
  | c, v :: l => ⟨by cases v <;> simp [openCell], ones_open id r (c + 1) l⟩
theorem RL.un_inv {sz : Nat} {l : List AV} {A : Option Addr} {n c : Nat} {o : List Nat} (h : RL W F Fr μ [.un sz l] [.slice A n c] o) :
    n = l.length ∧ ((c = 0 ∧ l = [] ∧ o = []) ∨ ∃ g o0 cs1 o1, A = some ⟨g, o0, none⟩ ∧ 0 < c ∧ l.length ≤ c ∧ uni sz l ∧ cellsAt W g o0 cs1 ∧ openAt W g o0 (c * sz) ∧ RL W F Fr noPlace l cs1 o1 ∧ o = g :: o1) := by
  cases h with
  | un0 sz A h => cases h; exact ⟨rfl, .inl ⟨rfl, rfl, rfl⟩⟩
  | un1 sz l g o0 c cs1 o1 h0 hc hu hcell hopen h h' => cases h'; exact ⟨rfl, .inr ⟨g, o0, cs1, o1, rfl, h0, hc, hu, hcell, hopen, h, by simp⟩⟩
theorem openCells_rel {id r : Nat} : ∀ {c : Nat} {l : List AV} {cs : List Value} {o : List Nat}, RL W F Fr noPlace l cs o → ones l →
    (∀ j sz' l', l[j]? = some (.un sz' l') → ∃ (L' : Loc) (A : Option Addr), μ id (some (r, c + j)) = some L' ∧ L'.sz = sz' ∧ cs[j]? = some (.slice A l'.length L'.capT) ∧ (0 < L'.capT → A = some ⟨L'.g, L'.o0, none⟩)) →
    RL W F Fr μ (openCells id r c l) cs []
  | _, [], _, _, h, _, _ => by cases h; exact .nil
  | c, v :: l, _, _, h, hone, hn => by
    obtain ⟨c1, c2, o1, o2, rfl, rfl, h1, h2⟩ := RL.uncons h
    have hw := h1.width
    simp [AV.widthL, width_one hone.1] at hw
    match c1, hw with
    | [x], _ =>
      have ih := openCells_rel (id := id) (r := r) (c := c + 1) h2 hone.2 (fun j sz' l' hj => by
        have := hn (j + 1) sz' l' (by simpa using hj)
        simpa [Nat.add_assoc, Nat.add_comm 1 j] using this)
      have hx := h1.oneCell x (by simp)
      simp only [openCells, List.singleton_append]
      cases v <;> simp only [openCell] <;> first | exact .junk x hx ih | skip
      · cases h1; exact .i ih
      · cases h1; exact .b ih
      · cases h1; exact .s ih
      · rename_i sz' l'
        obtain ⟨L', A, hμ, hsz, hcs, hA⟩ := hn 0 sz' l' (by simp)
        simp at hcs hμ
        subst hcs
        have hle : l'.length ≤ L'.capT := by
          rcases h1.un_inv.2 with ⟨h1, rfl, _⟩ | ⟨_, _, _, _, _, _, h1, _⟩
          · simp
          · exact h1
        exact .ref id (some (r, c)) 0 l'.length l'.length false L' A L'.capT hμ (Nat.le_refl _) hle (by simp) (by omega) (by simpa using hA) ih
      · cases h1; exact .niL ih
      · cases h1; exact .emp _ ih
/-- The rows behind a view. -/
theorem rowsAt_rel {h : Heap} {own : Nat → List Nat} {n : Nat} (H : HInv W F Fr μ h own n) {id : Nat} {p : Option (Nat × Nat)} {sz : Nat} {rows : List AV} (hr : rowsAt h id p = some (sz, rows)) :
    ∃ (L : Loc) (csv : List Value) (o1 : List Nat), μ id p = some L ∧ L.sz = sz ∧ uni sz rows ∧ RL W no no noPlace rows csv o1 ∧ rows.length ≤ L.capT ∧ cellsAt W L.g L.o0 csv ∧ openAt W L.g L.o0 (L.capT * sz) ∧
      (∀ x ∈ o1, x ∈ own id) ∧ (0 < L.capT → L.g ∈ own id) ∧ ∃ b, find h id = some b := by
  unfold rowsAt at hr
  split at hr
  · rename_i sz' rows' hf
    simp only [Option.some.injEq, Prod.mk.injEq] at hr
    obtain ⟨rfl, rfl⟩ := hr
    obtain ⟨L, csv, o1, hμ, hsz, _, hu, hrl, hcap, hc, ho, hown, _⟩ := H.blk id _ hf
    exact ⟨L, csv, o1, hμ, hsz, hu, hrl, hcap, hc, ho, fun x hx => by rw [hown]; simp [hx], fun h0 => by rw [hown, if_neg (by omega)]; simp, _, hf⟩
  · rename_i sz0 rows0 r c hf
    obtain ⟨L, csv, o1, hμ, hsz, hpos, hu, hrl, hcap, hc, ho, hown, hnest⟩ := H.blk id _ hf
    split at hr
    · rename_i row hrow
      split at hr
      · rename_i sz' l hcell
        simp only [Option.some.injEq, Prod.mk.injEq] at hr
        obtain ⟨rfl, rfl⟩ := hr
        obtain ⟨L', A, hμ', hsz', hcs, hA⟩ := hnest r c row _ _ hrow hcell
        have hlt : r < rows0.length := by
          have := (List.getElem?_eq_some_iff.1 hrow).1; exact this
        obtain ⟨c1, c3, p1, p2, p3, e1, e2, e3, e4, _, h2, _⟩ := hrl.rows hu (i := r) (m := 1) (by omega)
        have hrw : (rows0.drop r).take 1 = [row] := by
          rw [List.getElem?_eq_some_iff] at hrow
          obtain ⟨hl, hrow⟩ := hrow
          rw [List.drop_eq_getElem_cons hl, hrow]; rfl
        rw [hrw] at h2
        obtain ⟨hone, h2⟩ := h2.cells
        have hcl : c < (cellsOf row).length := (List.getElem?_eq_some_iff.1 hcell).1
        obtain ⟨_, _, _, o', h3, ho'⟩ := RL.sub h2 hone (c := c) (m := 1) (l' := [.un sz' l]) (by
          unfold sub?
          rw [if_pos (by omega)]
          rw [List.getElem?_eq_some_iff] at hcell
          obtain ⟨hl, hcell⟩ := hcell
          rw [List.drop_eq_getElem_cons hl, hcell]; rfl)
        have hw := h3.width
        simp [AV.widthL, AV.width] at hw
        have hsub : ∀ x ∈ o', x ∈ own id := fun x hx => by rw [hown, e4]; have := ho' x hx; simp [this]
        have hhd : (List.take 1 (List.drop c (List.take (1 * sz0) (List.drop (r * sz0) csv)))) = [.slice A l.length L'.capT] := by
          rw [List.getElem?_eq_some_iff] at hcs
          obtain ⟨hcl2, hcs⟩ := hcs
          have hc1 : c < sz0 := by
            have := h2.width
            rw [ones_widthL hone] at this
            rw [e3] at this
            omega
          rw [List.drop_take, List.drop_drop, List.take_take]
          have hmin : min 1 (1 * sz0 - c) = 1 := by omega
          rw [hmin, List.drop_eq_getElem_cons hcl2]
          simp [hcs]
        rw [hhd] at h3
        rcases h3.un_inv.2 with ⟨h0, rfl, _⟩ | ⟨g, o0, cs1, o1', eA, h0, hc', hu', hcell', hopen, h, eo⟩
        · exact ⟨L', [], [], hμ', hsz', trivial, .nil, by simp, fun k v hk => by simp at hk, fun k hk => by rw [h0] at hk; omega, by simp, fun h1 => by omega, _, hf⟩
        · have := hA h0
          rw [eA] at this
          simp only [Option.some.injEq, Addr.mk.injEq] at this
          obtain ⟨rfl, rfl, _⟩ := this
          exact ⟨L', cs1, o1', hμ', hsz', hu', h, hc', hcell', hopen, fun x hx => hsub x (by rw [eo]; simp [hx]), fun _ => hsub _ (by rw [eo]; simp), _, hf⟩
      · cases hr
    · cases hr
  · cases hr
end
end Go.Am
/- THE ABSTRACT MACHINE (AM): loads, fields, indices, slices of slices. No condition. -/
namespace Go.Am
set_option linter.unusedSimpArgs false
set_option linter.unusedVariables false

section
variable {P : Program} {W : World} {F Fr : Nat → Prop} {μ : Place}
theorem getElem?_take1 {α : Type} {l : List α} {r : Nat} {x : α} (h : l[r]? = some x) : (l.drop r).take 1 = [x] := by
  rw [List.getElem?_eq_some_iff] at h
  obtain ⟨hl, h⟩ := h
  rw [List.drop_eq_getElem_cons hl, h]; rfl
theorem row_at {rows : List AV} {csv : List Value} {o1 : List Nat} {sz : Nat} (hrl : RL W F Fr μ rows csv o1) (hu : uni sz rows) {r : Nat} {row : AV} (hrow : rows[r]? = some row) :
    ∃ o2, RL W F Fr μ [row] ((csv.drop (r * sz)).take sz) o2 ∧ ((csv.drop (r * sz)).take sz).length = sz ∧ ∀ x ∈ o2, x ∈ o1 := by
  have hlt := (List.getElem?_eq_some_iff.1 hrow).1
  obtain ⟨c1, c3, p1, p2, p3, e1, e2, e3, e4, _, h2, _⟩ := hrl.rows hu (i := r) (m := 1) (by omega)
  rw [getElem?_take1 hrow] at h2
  simp only [Nat.one_mul] at h2 e3
  exact ⟨p2, h2, e3, fun x hx => by rw [e4]; simp [hx]⟩
theorem RV.ptr_inv {id : Nat} {p : Option (Nat × Nat)} {r c : Nat} {cv : Value} (h : RV W F Fr μ (.ptr id p r c) cv) : ∃ L, μ id p = some L ∧ cv = .pointer (some ⟨L.g, L.o0 + r * L.sz + c, none⟩) := by
  have h : RL W F Fr μ [.ptr id p r c] [cv] [] := h
  cases h with | ptr id p r c L hμ h => exact ⟨L, hμ, rfl⟩
theorem RV.rp_inv {row : AV} {c : Nat} {cv : Value} (h : RV W F Fr μ (.rp row c) cv) : ∃ g o0 cs1, cv = .pointer (some ⟨g, o0 + c, none⟩) ∧ F g ∧ cellsAt W g o0 cs1 ∧ RL W F Fr noPlace [row] cs1 [] := by
  have hq : RL W F Fr μ [.rp row c] [cv] [] := h
  cases hq with | rp row c g o0 cs1 hg hcell hq hq' => exact ⟨g, o0, cs1, rfl, hg, hcell, hq⟩
theorem RV.ref_inv {id : Nat} {p : Option (Nat × Nat)} {off len cap : Nat} {ex : Bool} {cv : Value} (h : RV W F Fr μ (.ref id p off len cap ex) cv) :
    ∃ L A c, μ id p = some L ∧ len ≤ cap ∧ cap ≤ c ∧ (ex = true → cap = c) ∧ off + c ≤ L.capT ∧ (0 < c → A = some ⟨L.g, L.o0 + off * L.sz, none⟩) ∧ cv = .slice A len c := by
  have h : RL W F Fr μ [.ref id p off len cap ex] [cv] [] := h
  cases h with | ref id p off len cap ex L A c hμ hl hcap hex hfit hA h => exact ⟨L, A, c, hμ, hl, hcap, hex, hfit, hA, rfl⟩
theorem RL.sl_inv {sz : Nat} {w : Bool} {l : List AV} {cv : Value} {o : List Nat} (h : RL W F Fr μ [.sl sz w l] [cv] o) :
    o = [] ∧ ∃ A c, cv = .slice A l.length c ∧ l.length ≤ c ∧ (l = [] ∨ ∃ g o0 cs1 o1, 0 < l.length ∧ A = some ⟨g, o0, none⟩ ∧ uni sz l ∧ (if w then Fr else F) g ∧ (∀ x ∈ o1, (if w then Fr else F) x) ∧ cellsAt W g o0 cs1 ∧
      RL W (if w then Fr else F) (if w then Fr else F) noPlace l cs1 o1) := by
  cases h with
  | sl0 sz w A c h => cases h; exact ⟨rfl, A, c, rfl, by simp, .inl rfl⟩
  | sl1 sz w l g o0 c G cs1 o1 hl hG hc hu hg ho hcell h h' => subst hG; cases h'; exact ⟨rfl, _, c, rfl, hc, .inr ⟨g, o0, cs1, o1, hl, rfl, hu, hg, ho, hcell, h⟩⟩
theorem RV.sl_inv {sz : Nat} {w : Bool} {l : List AV} {cv : Value} (h : RV W F Fr μ (.sl sz w l) cv) :
    ∃ A c, cv = .slice A l.length c ∧ l.length ≤ c ∧ (l = [] ∨ ∃ g o0 cs1 o1, 0 < l.length ∧ A = some ⟨g, o0, none⟩ ∧ uni sz l ∧ (if w then Fr else F) g ∧ (∀ x ∈ o1, (if w then Fr else F) x) ∧ cellsAt W g o0 cs1 ∧
      RL W (if w then Fr else F) (if w then Fr else F) noPlace l cs1 o1) := (RL.sl_inv (show RL W F Fr μ [.sl sz w l] [cv] [] from h)).2
theorem RV.nil_inv {cv : Value} (h : RV W F Fr μ .nil cv) : cv = .slice none 0 0 := by
  have h : RL W F Fr μ [.nil] [cv] [] := h
  cases h; rfl
theorem RV.emp_inv {cv : Value} (h : RV W F Fr μ .emp cv) : ∃ A, cv = .slice A 0 0 := by
  have h : RL W F Fr μ [.emp] [cv] [] := h
  cases h with | emp A h => exact ⟨A, rfl⟩
theorem box_at {h : Heap} {own : Nat → List Nat} {n : Nat} (H : HInv W F Fr μ h own n) {id : Nat} {cs : List AV} (hf : find h id = some (.box cs)) :
    ∃ (L : Loc) (csv : List Value), μ id none = some L ∧ ones cs ∧ RL W F Fr μ cs csv [] ∧ cellsAt W L.g L.o0 csv ∧ openAt W L.g L.o0 csv.length ∧ own id = [L.g] := H.blk id _ hf
theorem load_sound {h : Heap} {own : Nat → List Nat} {n : Nat} (H : HInv W F Fr μ h own n) {t : TypeId} {a : Bool} (ha : isAggB P t = some a) {m : Nat} (hsz : szOf P t = some m) {x v : AV} {cx : Value} (hx : RV W F Fr μ x cx)
    (hv : loadVal h (if a then m else 1) a x = some v) : ∃ cv, (Instr.loadAt t cx).run P W = .ok cv W ∧ RV W F Fr μ v cv := by
  -- what all ways end in
  have fin : ∀ {l : List AV} {cs : List Value} {g o : Nat}, ones l → RL W F Fr μ l cs [] → cellsAt W g o cs → cs.length = (if a then m else 1) → mkVal a l = some v → cx = .pointer (some ⟨g, o, none⟩) →
      ∃ cv, (Instr.loadAt t cx).run P W = .ok cv W ∧ RV W F Fr μ v cv := by
    intro l cs g o hone hr hc hl hm hcx
    subst hcx
    obtain ⟨hrv, _⟩ := mkVal_rel hone hr rfl hm
    exact ⟨_, by simp only [Instr.loadAt, Instr.sureAddr, Sem.run_bind, Sem.run_pure, Result.andThen_ok]; exact loadVar_run ha hsz hc hl, hrv⟩
  unfold loadVal at hv
  split at hv
  · rename_i id r c
    obtain ⟨L, hμ, rfl⟩ := hx.ptr_inv
    split at hv
    · rename_i cs hf
      obtain ⟨L', csv, hμ', hone, hrl, hc, ho, hown⟩ := box_at H hf
      obtain rfl : L = L' := by rw [hμ] at hμ'; exact Option.some.inj hμ'
      split at hv
      · rename_i hr0
        subst hr0
        obtain ⟨l, hs, hm⟩ := Option.bind_eq_some_iff.1 hv
        obtain ⟨h1, h2, h3, o', h4, h5⟩ := hrl.sub hone hs
        obtain rfl : o' = [] := List.eq_nil_iff_forall_not_mem.2 fun x hx => by simpa using h5 x hx
        refine fin h1 h4 (hc.sub c _) ?_ hm (by simp)
        have := h4.width
        rw [ones_widthL h1] at this
        omega
      · cases hv
    · rename_i sz rows hf
      split at hv
      · rename_i row hrow
        obtain ⟨l, hs, hm⟩ := Option.bind_eq_some_iff.1 hv
        obtain ⟨L', csv, o1, hμ', hsz', hpos, hu, hrl, hcap, hc, ho, hown, hnest⟩ := H.blk id _ hf
        obtain rfl : L = L' := by rw [hμ] at hμ'; exact Option.some.inj hμ'
        subst hsz'
        obtain ⟨o2, h2, hlen, hsub⟩ := row_at hrl hu hrow
        obtain ⟨hone, h2⟩ := h2.cells
        obtain ⟨h3, h4, h5, o', h6, h7⟩ := RL.sub h2 hone hs
        have hopen := openCells_rel (μ := μ) (id := id) (r := r) (c := c) h6 h3 (fun j sz' l' hj => by
          have hcell : (cellsOf row)[c + j]? = some (.un sz' l') := by
            generalize (if a = true then m else 1) = m' at hs
            unfold sub? at hs
            split at hs
            · obtain rfl := Option.some.inj hs
              rw [List.getElem?_take] at hj
              split at hj
              · rwa [List.getElem?_drop] at hj
              · cases hj
            · cases hs
          obtain ⟨L', A, e1, e2, e3, e4⟩ := hnest r (c + j) row sz' l' hrow hcell
          refine ⟨L', A, e1, e2, ?_, e4⟩
          have hj' : j < (if a then m else 1) := by have := (List.getElem?_eq_some_iff.1 hj).1; omega
          rw [List.getElem?_take, if_pos hj', List.getElem?_drop, List.getElem?_take, if_pos (by omega), List.getElem?_drop, ← e3])
        refine fin (ones_open _ _ _ _) hopen.up ((hc.sub (r * L.sz) L.sz).sub c _) ?_ hm (by simp [Nat.add_assoc])
        have := h6.width
        rw [ones_widthL h3] at this
        omega
      · cases hv
    · cases hv
  · rename_i id p r c
    obtain ⟨L, hμ, rfl⟩ := hx.ptr_inv
    split at hv
    · rename_i sz rows hra
      obtain ⟨L', csv, o1, hμ', hsz', hu, hrl, hcap, hc, ho, hown, _, _⟩ := rowsAt_rel H hra
      obtain rfl : L = L' := by rw [hμ] at hμ'; exact Option.some.inj hμ'
      subst hsz'
      split at hv
      · rename_i row hrow
        obtain ⟨l, hs, hm⟩ := Option.bind_eq_some_iff.1 hv
        obtain ⟨o2, h2, hlen, hsub⟩ := row_at hrl hu hrow
        obtain ⟨hone, h2⟩ := h2.cells
        obtain ⟨h3, h4, h5, o', h6, h7⟩ := RL.sub h2 hone hs
        refine fin ones_flat (flatCells_rel h6 h3) ((hc.sub (r * L.sz) L.sz).sub c _) ?_ hm (by simp [Nat.add_assoc])
        have := h6.width
        rw [ones_widthL h3] at this
        omega
      · cases hv
    · cases hv
  · rename_i row c
    obtain ⟨g, o0, cs1, rfl, hg, hcell, hr⟩ := hx.rp_inv
    obtain ⟨l, hs, hm⟩ := Option.bind_eq_some_iff.1 hv
    obtain ⟨hone, h2⟩ := hr.cells
    obtain ⟨h3, h4, h5, o', h6, h7⟩ := RL.sub h2 hone hs
    obtain rfl : o' = [] := List.eq_nil_iff_forall_not_mem.2 fun x hx => by simpa using h7 x hx
    refine fin h3 (h6.more (fun _ h => h) (fun _ h => h) (by simp [noPlace])) (hcell.sub c _) ?_ hm rfl
    have := h6.width
    rw [ones_widthL h3] at this
    omega
  · cases hv
end
end Go.Am
/- THE ABSTRACT MACHINE (AM): addresses of elements, slices of slices, parts of values. No condition. -/
namespace Go.Am
set_option linter.unusedSimpArgs false
set_option linter.unusedVariables false

section
variable {P : Program} {W : World} {F Fr : Nat → Prop} {μ : Place}
theorem run_und {t : TypeId} {d : TypeDesc} (h : P.underlying t = some d) : (Go.underlying t).run P W = .ok d W := by simp [Go.underlying, h]
theorem ones_read (w : Bool) : ∀ {l : List AV}, ones l → ones (AV.readL w l)
  | [], _ => trivial
  | v :: l, h => ⟨by have := h.1; cases v <;> simp_all [AV.read], ones_read w h.2⟩
theorem read_rel {w : Bool} {G : Nat → Prop} (hG : G = if w then Fr else F) {G1 G2 : Nat → Prop} {μ1 : Place} {l : List AV} {cs : List Value} {o : List Nat} (h : RL W G1 G2 μ1 l cs o) :
    G1 = G → G2 = G → (∀ x ∈ o, G x) → RL W F Fr μ (AV.readL w l) cs [] := by
  induction h with
  | nil => intros; exact .nil
  | i _ ih => intro a b c; exact .i (ih a b c)
  | b _ ih => intro x y z; exact .b (ih x y z)
  | s _ ih => intro a b c; exact .s (ih a b c)
  | junk c hc _ ih => intro x y z; exact .junk c hc (ih x y z)
  | niL _ ih => intro a b c; exact .niL (ih a b c)
  | emp A _ ih => intro a b c; exact .emp A (ih a b c)
  | nilp _ ih => intro a b c; exact .junk _ rfl (ih a b c)
  | nilf _ ih => intro a b c; exact .junk _ rfl (ih a b c)
  | nilm _ ih => intro a b c; exact .junk _ rfl (ih a b c)
  | agg hone _ _ ih1 ih2 => intro a b c; exact .agg (o1 := []) (ones_read w hone) (ih1 a b fun x hx => c x (by simp [hx])) (ih2 a b fun x hx => c x (by simp [hx]))
  | sl0 sz w' A c _ ih => intro x y z; exact .sl0 sz w A c (ih x y z)
  | sl1 sz w' l g o0 c G' cs1 o1 hl hG' hc hu hg ho1 hcell h _ ih1 ih2 =>
    intro x y z
    have : G' = G := by subst hG'; subst x; subst y; cases w' <;> rfl
    subst this
    exact .sl1 sz w l g o0 c G' cs1 o1 hl hG hc hu hg ho1 hcell h (ih2 x y z)
  | un0 sz A _ ih => intro x y z; exact .sl0 sz w A 0 (ih x y z)
  | un1 sz l g o0 c cs1 o1 h0 hc hu hcell hopen h _ ih1 ih2 =>
    intro x y z
    have ih := ih2 x y fun q hq => z q (by simp [hq])
    subst x; subst y
    simp only [AV.readL, AV.read]
    by_cases hl : 0 < l.length
    · exact .sl1 sz w l g o0 c _ cs1 o1 hl hG hc hu (z g (by simp)) (fun q hq => z q (by simp [hq])) hcell h ih
    · have : l = [] := List.length_eq_zero_iff.1 (by omega)
      subst this
      exact .sl0 sz w _ c ih
  | ref id p off len cap ex L A c hμ hl hcap hex hfit hA _ ih => intro x y z; exact .junk _ rfl (ih x y z)
  | ptr id p r c L hμ _ ih => intro x y z; exact .junk _ rfl (ih x y z)
  | rp row c g o0 cs1 hg hcell _ _ ih1 ih2 => intro x y z; exact .junk _ rfl (ih2 x y z)
  | fn f caps capsv _ _ ih1 ih2 => intro x y z; exact .junk _ rfl (ih2 x y z)
  | map id L hμ _ ih => intro x y z; exact .junk _ rfl (ih x y z)
theorem indexAt_run {t e : TypeId} (hu : P.underlying t = some (.slice e)) {m : Nat} (hm : szOf P e = some m) {g o n c : Nat} {k : IntKind} {i : Int} (h0 : 0 ≤ i) (h1 : i < n) :
    (Instr.indexAt t (.slice (some ⟨g, o, none⟩) n c) (.int k i)).run P W = .ok (.pointer (some ⟨g, o + i.toNat * m, none⟩)) W := by
  simp [Instr.indexAt, asIntOf, run_und hu, run_szOf hm, h0, h1, add_at]
theorem iaddr_sound {h : Heap} {own : Nat → List Nat} {n : Nat} (H : HInv W F Fr μ h own n) {t e : TypeId} (hu : P.underlying t = some (.slice e)) {m : Nat} (hm : szOf P e = some m)
    {C : Oracle} {tt : Temps} {x ix : Opd} {cx ci : Value} (hx : RV W F Fr μ (x.ev tt) cx) (hi : RV W F Fr μ (ix.ev tt) ci) {v : AV} {h' : Heap} {n' : Nat} (hr : opRun C tt h n (.iaddr m x ix) = some (v, h', n')) :
    h' = h ∧ n' = n ∧ ∃ cv, (Instr.indexAt t cx ci).run P W = .ok cv W ∧ RV W F Fr μ v cv := by
  simp only [opRun] at hr
  split at hr
  · rename_i sz w l k i e1 e2
    rw [e1] at hx; rw [e2] at hi
    obtain rfl := hi.int
    split at hr
    · rename_i hc
      obtain ⟨rfl, h0⟩ := hc
      split at hr
      · rename_i v' hl
        simp only [Option.some.injEq, Prod.mk.injEq] at hr
        obtain ⟨rfl, rfl, rfl⟩ := hr
        refine ⟨rfl, rfl, ?_⟩
        obtain ⟨A, c, rfl, hc, hq⟩ := hx.sl_inv
        rcases hq with rfl | ⟨g, o0, cs1, o1, hpos, rfl, huni, hg, ho, hcell, hrl⟩
        · simp at hl
        · have hlt := (List.getElem?_eq_some_iff.1 hl).1
          refine ⟨_, indexAt_run hu hm h0 (by omega), ?_⟩
          obtain ⟨o2, h2, hlen, hsub⟩ := row_at hrl huni hl
          have := read_rel (μ := noPlace) (F := F) (Fr := Fr) (w := w) rfl h2 rfl rfl (fun x hx => ho x (hsub x hx))
          exact RL.rp _ 0 g (o0 + i.toNat * m) _ (by cases w <;> simp_all [H.fr]) (hcell.sub _ _) (by simpa [AV.readL] using this) .nil
      · cases hr
    · cases hr
  · rename_i id p off len cap ex k i e1 e2
    rw [e1] at hx; rw [e2] at hi
    obtain rfl := hi.int
    split at hr
    · rename_i hc
      obtain ⟨h0, h1⟩ := hc
      split at hr
      · rename_i sz' rows hra
        split at hr
        · rename_i hsz
          subst hsz
          simp only [Option.some.injEq, Prod.mk.injEq] at hr
          obtain ⟨rfl, rfl, rfl⟩ := hr
          refine ⟨rfl, rfl, ?_⟩
          obtain ⟨L, A, c, hμ, hl, hcap, hex, hfit, hA, rfl⟩ := hx.ref_inv
          obtain ⟨L', csv, o1, hμ', hsz', _⟩ := rowsAt_rel H hra
          obtain rfl : L = L' := by rw [hμ] at hμ'; exact Option.some.inj hμ'
          rw [hA (by omega)]
          refine ⟨_, indexAt_run hu hm h0 h1, ?_⟩
          have : L.o0 + off * L.sz + i.toNat * m = L.o0 + (off + i.toNat) * L.sz + 0 := by rw [hsz', Nat.add_mul]; omega
          rw [this]
          exact RL.ptr id p (off + i.toNat) 0 L hμ .nil
        · cases hr
      · cases hr
    · cases hr
  · cases hr
theorem evO_rel {t : Temps} {a : Act} (ht : TInv W F Fr μ t a.tmps) {x : Option Operand} {y : Option Opd} (hs : slimO x = some y) {r : Option Int} (hr : evO t y = some r) :
    (x.map a.eval = none ∧ r = none) ∨ ∃ k n, x.map a.eval = some (.int k n) ∧ r = some n := by
  cases x with
  | none => simp [slimO] at hs; subst hs; simp [evO] at hr; exact .inl ⟨rfl, hr.symm⟩
  | some x =>
    simp only [slimO] at hs
    split at hs
    · rename_i y' hy
      obtain rfl := Option.some.inj hs
      simp only [evO] at hr
      split at hr
      · rename_i k n e
        have := opd_rel hy ht
        rw [e] at this
        obtain rfl := Option.some.inj hr
        exact .inr ⟨k, n, by simp [this.int], rfl⟩
      · cases hr
    · cases hs
theorem sliceBound_run {k : IntKind} {i : Int} {y : Nat} (h0 : 0 ≤ i) (h1 : i ≤ y) (c : BoundsCode) : (Instr.sliceBound (.int k i) y c).run P W = .ok i.toNat W := by
  simp [Instr.sliceBound, asIntOf, h0, h1]
theorem sliceBounds_run {s : Bool} {len cap : Nat} {lo hi mx : Option Value} {rl rh rm : Option Int}
    (hl : (lo = none ∧ rl = none) ∨ ∃ k n, lo = some (.int k n) ∧ rl = some n) (hh : (hi = none ∧ rh = none) ∨ ∃ k n, hi = some (.int k n) ∧ rh = some n) (hm : (mx = none ∧ rm = none) ∨ ∃ k n, mx = some (.int k n) ∧ rm = some n)
    (hmh : mx ≠ none → hi ≠ none) (h0 : 0 ≤ rl.getD 0) (h1 : rl.getD 0 ≤ rh.getD len) (h2 : rh.getD len ≤ rm.getD cap) (h3 : rm.getD cap ≤ cap) :
    (Instr.sliceBounds s len cap lo hi mx).run P W = .ok ((rl.getD 0).toNat, (rh.getD len).toNat, (rm.getD cap).toNat) W := by
  rcases hm with ⟨rfl, rfl⟩ | ⟨k3, n3, rfl, rfl⟩
  · clear hmh
    rcases hl with ⟨rfl, rfl⟩ | ⟨k1, n1, rfl, rfl⟩ <;> rcases hh with ⟨rfl, rfl⟩ | ⟨k2, n2, rfl, rfl⟩ <;> simp only [Option.getD_some, Option.getD_none] at h0 h1 h2 h3 ⊢ <;>
    simp only [Instr.sliceBounds, Sem.run_bind, Sem.run_pure, Result.andThen_ok, Int.toNat_natCast, Int.toNat_zero] <;>
    (try rw [sliceBound_run (by omega) (by omega)]) <;> (try simp only [Result.andThen_ok, Sem.run_pure, Sem.run_bind, Int.toNat_natCast]) <;>
    (try rw [sliceBound_run (by omega) (by omega)]) <;> (try simp only [Result.andThen_ok, Sem.run_pure, Sem.run_bind, Int.toNat_natCast]) <;>
    (try rw [sliceBound_run (by omega) (by omega)]) <;> (try simp only [Result.andThen_ok, Sem.run_pure, Sem.run_bind, Int.toNat_natCast])
  · have hh2 : hi ≠ none := hmh (by simp)
    clear hmh
    rcases hl with ⟨rfl, rfl⟩ | ⟨k1, n1, rfl, rfl⟩ <;> rcases hh with ⟨rfl, rfl⟩ | ⟨k2, n2, rfl, rfl⟩ <;> first | (exact absurd rfl hh2) | (simp only [Option.getD_some, Option.getD_none] at h0 h1 h2 h3 ⊢ <;>
    simp only [Instr.sliceBounds, Sem.run_bind, Sem.run_pure, Result.andThen_ok, Int.toNat_natCast, Int.toNat_zero] <;>
    (try rw [sliceBound_run (by omega) (by omega)]) <;> (try simp only [Result.andThen_ok, Sem.run_pure, Sem.run_bind, Int.toNat_natCast]) <;>
    (try rw [sliceBound_run (by omega) (by omega)]) <;> (try simp only [Result.andThen_ok, Sem.run_pure, Sem.run_bind, Int.toNat_natCast]) <;>
    (try rw [sliceBound_run (by omega) (by omega)]) <;> (try simp only [Result.andThen_ok, Sem.run_pure, Sem.run_bind, Int.toNat_natCast]))
theorem sliceAt_run {t e : TypeId} (hu : P.underlying t = some (.slice e)) {m : Nat} (hm : szOf P e = some m) {A : Option Addr} {len cap : Nat} {lo hi mx : Option Value} {i j k : Nat}
    (hb : (Instr.sliceBounds true len cap lo hi mx).run P W = .ok (i, j, k) W) :
    (Instr.sliceAt t (.slice A len cap) lo hi mx).run P W = .ok (.slice (if k = i then A else A.map (·.add (i * m))) (j - i) (k - i)) W := by
  simp [Instr.sliceAt, Instr.slice, run_und hu, run_szOf hm, hb]
end
end Go.Am
/- THE ABSTRACT MACHINE (AM): the rest of the operations that leave memory as it is. No condition. -/
namespace Go.Am
set_option linter.unusedSimpArgs false
set_option linter.unusedVariables false

section
variable {P : Program} {W : World} {F Fr : Nat → Prop} {μ : Place}
theorem vhn_some {v : Option AV} {h h' : Heap} {n n' : Nat} {x : AV} (e : vhn v h n = some (x, h', n')) : v = some x ∧ h' = h ∧ n' = n := by
  unfold vhn at e
  split at e
  · simp at e; exact ⟨by rw [e.1], e.2.1.symm, e.2.2.symm⟩
  · cases e
/-- A part of a slice that is only read. -/
theorem sl_part (hFr : ∀ x, Fr x → F x) {sz : Nat} {w : Bool} {l : List AV} {A : Option Addr} (hq : l = [] ∨ ∃ g o0 cs1 o1, 0 < l.length ∧ A = some ⟨g, o0, none⟩ ∧ uni sz l ∧ (if w then Fr else F) g ∧ (∀ x ∈ o1, (if w then Fr else F) x) ∧ cellsAt W g o0 cs1 ∧
      RL W (if w then Fr else F) (if w then Fr else F) noPlace l cs1 o1) {i j k : Nat} (h1 : i ≤ j) (h2 : j ≤ l.length) (h3 : j ≤ k) :
    RV W F Fr μ (.sl sz w ((l.drop i).take (j - i))) (.slice (if k = i then A else A.map (·.add (i * sz))) (j - i) (k - i)) := by
  have hlen : ((l.drop i).take (j - i)).length = j - i := by rw [List.length_take, List.length_drop]; omega
  by_cases hij : i = j
  · subst hij
    have : (l.drop i).take (i - i) = [] := by simp
    rw [this, Nat.sub_self]
    exact RL.sl0 sz w _ _ .nil
  · rcases hq with rfl | ⟨g, o0, cs1, o1, hpos, rfl, huni, hg, ho, hcell, hrl⟩
    · simp at h2; omega
    · obtain ⟨c1, c3, p1, p2, p3, e1, e2, e3, e4, _, hr, _⟩ := hrl.rows huni (i := i) (m := j - i) (by omega)
      rw [if_neg (by omega), Option.map_some, add_at]
      have := RL.sl1 (W := W) (F := F) (Fr := Fr) (μ := μ) (vs := []) (cs := []) (o := []) sz w ((l.drop i).take (j - i)) g (o0 + i * sz) (k - i) _ _ p2 (by omega) rfl (by omega)
        (uni_sub huni fun v hv => List.mem_of_mem_drop (List.mem_of_mem_take hv)) hg (fun x hx => ho x (by rw [e4]; simp [hx])) (hcell.sub _ _) hr .nil
      rw [hlen] at this
      exact this
theorem slice_sound {h : Heap} {own : Nat → List Nat} {n : Nat} (H : HInv W F Fr μ h own n) {t e : TypeId} (hu : P.underlying t = some (.slice e)) {m : Nat} (hm : szOf P e = some m)
    {x v : AV} {cx : Value} (hx : RV W F Fr μ x cx) {lo hi mx : Option Value} {rl rh rm : Option Int}
    (hl : (lo = none ∧ rl = none) ∨ ∃ k n, lo = some (.int k n) ∧ rl = some n) (hh : (hi = none ∧ rh = none) ∨ ∃ k n, hi = some (.int k n) ∧ rh = some n) (hmx : (mx = none ∧ rm = none) ∨ ∃ k n, mx = some (.int k n) ∧ rm = some n)
    (hmh : mx ≠ none → hi ≠ none) (hv : sliceVal h m x rl rh rm = some v) : ∃ cv, (Instr.sliceAt t cx lo hi mx).run P W = .ok cv W ∧ RV W F Fr μ v cv := by
  unfold sliceVal at hv
  split at hv
  · rename_i sz w l
    obtain ⟨A, c, rfl, hc, hq⟩ := hx.sl_inv
    dsimp only at hv
    split at hv
    · rename_i hcond
      obtain ⟨rfl, h0, h1, h2, h3⟩ := hcond
      cases rm with
      | none =>
        simp only [Option.getD_none, Option.isSome_none, Bool.false_eq_true, false_and, if_false] at hv h2 h3
        obtain rfl := Option.some.inj hv
        refine ⟨_, sliceAt_run hu hm (sliceBounds_run (s := true) (len := l.length) (cap := c) hl hh hmx hmh h0 h1 (by simp; omega) (by simp)), ?_⟩
        have := sl_part (W := W) (F := F) (Fr := Fr) (μ := μ) H.fr hq (i := (rl.getD 0).toNat) (j := (rh.getD (l.length : Int)).toNat) (k := c) (by omega) (by omega) (by omega)
        have e : (rh.getD (l.length : Int) - rl.getD 0).toNat = (rh.getD (l.length : Int)).toNat - (rl.getD 0).toNat := by omega
        rw [e]
        simpa only [Option.getD_none, Int.toNat_natCast] using this
      | some q =>
        simp only [Option.getD_some, Option.isSome_some, true_and] at hv h2 h3
        refine ⟨_, sliceAt_run hu hm (sliceBounds_run (s := true) (len := l.length) (cap := c) hl hh hmx hmh h0 h1 (by simpa using h2) (by simp; omega)), ?_⟩
        simp only [Option.getD_some]
        split at hv
        · rename_i hk
          obtain rfl := Option.some.inj hv
          have e1 : (rh.getD (l.length : Int)).toNat - (rl.getD 0).toNat = 0 := by omega
          have e2 : q.toNat - (rl.getD 0).toNat = 0 := by omega
          rw [e1, e2]
          exact RL.emp _ .nil
        · obtain rfl := Option.some.inj hv
          have := sl_part (W := W) (F := F) (Fr := Fr) (μ := μ) H.fr hq (i := (rl.getD 0).toNat) (j := (rh.getD (l.length : Int)).toNat) (k := q.toNat) (by omega) (by omega) (by omega)
          have e : (rh.getD (l.length : Int) - rl.getD 0).toNat = (rh.getD (l.length : Int)).toNat - (rl.getD 0).toNat := by omega
          rw [e]
          exact this
    · cases hv
  · rename_i id p off len cap ex
    obtain ⟨L, A, c, hμ, hle, hcap, hex, hfit, hA, rfl⟩ := hx.ref_inv
    dsimp only at hv
    split at hv
    · rename_i sz rows hra
      obtain ⟨L', csv, o1, hμ', hsz', _⟩ := rowsAt_rel H hra
      obtain rfl : L = L' := by rw [hμ] at hμ'; exact Option.some.inj hμ'
      split at hv
      · rename_i hcond
        obtain ⟨rfl, h0, h1, h2, h3⟩ := hcond
        obtain rfl := Option.some.inj hv
        have fin : ∀ (K K' : Nat) (b : Bool), K' ≤ K → K ≤ c → (b = true → K' = K) → (rh.getD (len : Int)).toNat ≤ K' → RV W F Fr μ (.ref id p (off + (rl.getD 0).toNat) (rh.getD (len : Int) - rl.getD 0).toNat (K' - (rl.getD 0).toNat) b)
            (.slice (if K = (rl.getD 0).toNat then A else A.map (·.add ((rl.getD 0).toNat * sz))) ((rh.getD (len : Int)).toNat - (rl.getD 0).toNat) (K - (rl.getD 0).toNat)) := by
          intro K K' b hK1 hK2 hK3 hK4
          have e : (rh.getD (len : Int) - rl.getD 0).toNat = (rh.getD (len : Int)).toNat - (rl.getD 0).toNat := by omega
          rw [e]
          refine RL.ref id p _ _ _ b L _ _ hμ (by omega) (by omega) (fun hb => by rw [hK3 hb]) (by omega) (fun hpos => ?_) .nil
          rw [if_neg (by omega), hA (by omega), Option.map_some, add_at, hsz', Nat.add_mul, Nat.add_assoc]
        cases rm with
        | none =>
          simp only [Option.getD_none, Option.isSome_none, Bool.false_or] at h2 h3 ⊢
          refine ⟨_, sliceAt_run hu hm (sliceBounds_run (s := true) (len := len) (cap := c) hl hh hmx hmh h0 h1 (by simp; omega) (by simp)), ?_⟩
          have := fin c cap ex hcap (Nat.le_refl _) hex (by omega)
          have e : ((cap : Int) - rl.getD 0).toNat = cap - (rl.getD 0).toNat := by omega
          rw [e]
          simpa only [Option.getD_none, Int.toNat_natCast] using this
        | some q =>
          simp only [Option.getD_some, Option.isSome_some, Bool.true_or] at h2 h3 ⊢
          refine ⟨_, sliceAt_run hu hm (sliceBounds_run (s := true) (len := len) (cap := c) hl hh hmx hmh h0 h1 (by simpa using h2) (by simp; omega)), ?_⟩
          have := fin q.toNat q.toNat true (Nat.le_refl _) (by omega) (fun _ => rfl) (by omega)
          have e : (q - rl.getD 0).toNat = q.toNat - (rl.getD 0).toNat := by omega
          rw [e]
          simpa only [Option.getD_some] using this
      · cases hv
    · cases hv
  · split at hv
    · rename_i hc
      obtain rfl := Option.some.inj hv
      obtain rfl := hx.nil_inv
      refine ⟨_, sliceAt_run hu hm (sliceBounds_run (s := true) (len := 0) (cap := 0) hl hh hmx hmh (by omega) (by simp; omega) (by simp; omega) (by simp; omega)), ?_⟩
      have e1 : (rl.getD 0).toNat = 0 := by omega
      have e2 : (rh.getD ((0 : Nat) : Int)).toNat = 0 := by simp; omega
      have e3 : (rm.getD ((0 : Nat) : Int)).toNat = 0 := by simp; omega
      rw [e1, e2, e3]
      exact RL.niL .nil
    · cases hv
  · split at hv
    · rename_i hc
      obtain rfl := Option.some.inj hv
      obtain ⟨A, rfl⟩ := hx.emp_inv
      refine ⟨_, sliceAt_run hu hm (sliceBounds_run (s := true) (len := 0) (cap := 0) hl hh hmx hmh (by omega) (by simp; omega) (by simp; omega) (by simp; omega)), ?_⟩
      have e1 : (rl.getD 0).toNat = 0 := by omega
      have e2 : (rh.getD ((0 : Nat) : Int)).toNat = 0 := by simp; omega
      have e3 : (rm.getD ((0 : Nat) : Int)).toNat = 0 := by simp; omega
      rw [e1, e2, e3]
      exact RL.emp _ .nil
    · cases hv
  · cases hv
theorem sub_sound {t : TypeId} (hu : P.underlying t = some .string) {x v : AV} {cx : Value} (hx : RV W F Fr μ x cx) {lo hi : Option Value} {rl rh : Option Int}
    (hl : (lo = none ∧ rl = none) ∨ ∃ k n, lo = some (.int k n) ∧ rl = some n) (hh : (hi = none ∧ rh = none) ∨ ∃ k n, hi = some (.int k n) ∧ rh = some n)
    (hv : subVal x rl rh = some v) : ∃ cv, (Instr.sliceAt t cx lo hi none).run P W = .ok cv W ∧ RV W F Fr μ v cv := by
  unfold subVal at hv
  split at hv
  · rename_i s
    obtain rfl := hx.str
    dsimp only at hv
    split at hv
    · rename_i hc
      obtain ⟨h0, h1, h2⟩ := hc
      obtain rfl := Option.some.inj hv
      have hb := sliceBounds_run (P := P) (W := W) (s := false) (len := s.size) (cap := s.size) (mx := none) (rm := none) hl hh (.inl ⟨rfl, rfl⟩) (by simp) h0 h1 (by simpa using h2) (by simp)
      refine ⟨_, ?_, RV.ofStr _⟩
      simp [Instr.sliceAt, Instr.slice, run_und hu, hb]
    · cases hv
  · cases hv
end
end Go.Am
/- THE ABSTRACT MACHINE (AM): parts of values, functions, comparisons. No condition. -/
namespace Go.Am
set_option linter.unusedSimpArgs false
set_option linter.unusedVariables false

/-- An address so many cells on. -/
def shiftAddr (x : AV) (k : Nat) : Option AV :=
  match x with
  | .ptr id p r c => some (.ptr id p r (c + k))
  | .rp row c => some (.rp row (c + k))
  | _ => none
section
variable {P : Program} {W : World} {F Fr : Nat → Prop} {μ : Place}
theorem faddr_sound {s : TypeId} {fs : Array Field} (hu : P.underlying s = some (.struct fs)) {f : Nat} {fd : Field} (hf : fs[f]? = some fd) {m : Nat} (hm : szOf P fd.type = some (m + 1))
    {x v : AV} {cx : Value} (hx : RV W F Fr μ x cx) (hv : shiftAddr x fd.offset = some v) :
    ∃ cv, (Instr.fieldAt s cx f).run P W = .ok cv W ∧ RV W F Fr μ v cv := by
  have run : ∀ g o, (Instr.fieldAt s (.pointer (some ⟨g, o, none⟩)) f).run P W = .ok (.pointer (some ⟨g, o + fd.offset, none⟩)) W := by
    intro g o
    simp [Instr.fieldAt, run_und hu, hf, Instr.sureAddr, fieldPlace, run_szOf hm, add_at]
  cases x with
  | ptr id p r c =>
    obtain rfl := Option.some.inj hv
    obtain ⟨L, hμ, rfl⟩ := hx.ptr_inv
    exact ⟨_, run _ _, by rw [Nat.add_assoc]; exact RL.ptr id p r _ L hμ .nil⟩
  | rp row c =>
    obtain rfl := Option.some.inj hv
    obtain ⟨g, o0, cs1, rfl, hg, hcell, hr⟩ := hx.rp_inv
    exact ⟨_, run _ _, by rw [Nat.add_assoc]; exact RL.rp row _ g o0 cs1 hg hcell hr .nil⟩
  | _ => simp [shiftAddr] at hv
theorem part_run {t : TypeId} {a : Bool} (ha : isAggB P t = some a) {m : Nat} (hm : szOf P t = some m) {cs : Array Value} {off : Nat} (hle : off + (if a then m else 1) ≤ cs.size) :
    (Go.part t cs off).run P W = .ok (if a then .agg ((cs.toList.drop off).take m).toArray else cs.toList.getD off Go.undef) W := by
  cases a with
  | true =>
    simp only [Go.part, Sem.run_bind, run_isAgg ha, Result.andThen_ok, if_true, run_szOf hm, Sem.run_pure]
    congr 2
    apply Array.ext'
    simp [Array.toList_extract, List.extract_eq_take_drop]
  | false =>
    simp only [Bool.false_eq_true, if_false] at hle
    have h1 : off < cs.size := by omega
    have : cs[off]? = some cs[off] := by simp [h1]
    simp [Go.part, run_isAgg ha, this, List.getD, h1]
theorem part_rel {l : List AV} (hone : ones l) {cs : Array Value} (h : RL W F Fr μ l cs.toList []) {t : TypeId} {a : Bool} (ha : isAggB P t = some a) {m : Nat} (hm : szOf P t = some m) {off : Nat} {v : AV}
    (hv : (sub? l off (if a then m else 1)).bind (mkVal a) = some v) : ∃ cv, (Go.part t cs off).run P W = .ok cv W ∧ RV W F Fr μ v cv := by
  obtain ⟨l', hs, hk⟩ := Option.bind_eq_some_iff.1 hv
  obtain ⟨h1, h2, h3, o', h4, h5⟩ := h.sub hone hs
  obtain rfl : o' = [] := List.eq_nil_iff_forall_not_mem.2 fun x hx => by simpa using h5 x hx
  obtain ⟨hr, _⟩ := mkVal_rel h1 h4 rfl hk
  refine ⟨_, part_run ha hm (by simpa using h3), ?_⟩
  cases a with
  | true => simpa using hr
  | false =>
    simp only [Bool.false_eq_true, if_false] at hr h3 ⊢
    have : (List.take 1 (List.drop off cs.toList)).headD Go.undef = cs.toList.getD off Go.undef := by
      rw [List.getD_eq_getElem?_getD]
      have hlt : off < cs.toList.length := by omega
      rw [List.drop_eq_getElem_cons hlt]
      have h3' : off < cs.size := by simpa using hlt
      simp [h3']
    rw [this] at hr
    exact hr
theorem field_sound {t : TypeId} {fs : Array Field} (hu : P.underlying t = some (.struct fs)) {f : Nat} {fd : Field} (hf : fs[f]? = some fd) {a : Bool} (ha : isAggB P fd.type = some a) {m : Nat} (hm : szOf P fd.type = some m)
    {l : List AV} {cx : Value} (hx : RV W F Fr μ (.agg l) cx) {v : AV} (hv : (sub? l fd.offset (if a then m else 1)).bind (mkVal a) = some v) :
    ∃ cv, (Instr.field t cx f).run P W = .ok cv W ∧ RV W F Fr μ v cv := by
  obtain ⟨cs, rfl, hone, hr⟩ := hx.agg
  obtain ⟨cv, h1, h2⟩ := part_rel hone hr ha hm hv
  exact ⟨cv, by simp [Instr.field, run_und hu, hf, asAgg, h1], h2⟩
theorem iaddrA_sound {t e : TypeId} {k : Nat} (hu : P.underlying t = some (.array k e)) {m : Nat} (hm : szOf P e = some m) {x v : AV} {cx : Value} (hx : RV W F Fr μ x cx) {kd : IntKind} {i : Int} (h0 : 0 ≤ i) (h1 : i < k)
    (hv : shiftAddr x (i.toNat * m) = some v) :
    ∃ cv, (Instr.indexAt t cx (.int kd i)).run P W = .ok cv W ∧ RV W F Fr μ v cv := by
  have run : ∀ g o, (Instr.indexAt t (.pointer (some ⟨g, o, none⟩)) (.int kd i)).run P W = .ok (.pointer (some ⟨g, o + i.toNat * m, none⟩)) W := by
    intro g o
    simp [Instr.indexAt, asIntOf, run_und hu, Instr.sureAddr, run_szOf hm, h0, h1, add_at]
  cases x with
  | ptr id p r c =>
    obtain rfl := Option.some.inj hv
    obtain ⟨L, hμ, rfl⟩ := hx.ptr_inv
    exact ⟨_, run _ _, by rw [Nat.add_assoc]; exact RL.ptr id p r _ L hμ .nil⟩
  | rp row c =>
    obtain rfl := Option.some.inj hv
    obtain ⟨g, o0, cs1, rfl, hg, hcell, hr⟩ := hx.rp_inv
    exact ⟨_, run _ _, by rw [Nat.add_assoc]; exact RL.rp row _ g o0 cs1 hg hcell hr .nil⟩
  | _ => simp [shiftAddr] at hv
theorem atA_sound {t e : TypeId} {k : Nat} (hu : P.underlying t = some (.array k e)) {a : Bool} (ha : isAggB P e = some a) {m : Nat} (hm : szOf P e = some m) {l : List AV} {cx : Value} (hx : RV W F Fr μ (.agg l) cx)
    {kd : IntKind} {i : Int} (h0 : 0 ≤ i) (h1 : i < k) {v : AV} (hv : (sub? l (i.toNat * m) (if a then m else 1)).bind (mkVal a) = some v) :
    ∃ cv, (Instr.index t cx (.int kd i)).run P W = .ok cv W ∧ RV W F Fr μ v cv := by
  obtain ⟨cs, rfl, hone, hr⟩ := hx.agg
  obtain ⟨cv, e1, e2⟩ := part_rel hone hr ha hm hv
  exact ⟨cv, by simp [Instr.index, asIntOf, run_und hu, run_szOf hm, h0, h1, e1], e2⟩
theorem at_sound {t : TypeId} (hu : P.underlying t = some .string) {s : ByteArray} {cx : Value} (hx : RV W F Fr μ (.s s) cx) {kd : IntKind} {i : Int} (h0 : 0 ≤ i) {b : UInt8} (hb : s[i.toNat]? = some b) :
    (Instr.index t cx (.int kd i)).run P W = .ok (.int .u8 b.toNat) W := by
  obtain rfl := hx.str
  simp [Instr.index, asIntOf, run_und hu, h0, hb]
theorem len_sound {argTypes : Array TypeId} {t ty : TypeId} {d : TypeDesc} (ht : argTypes[0]? = some t) (hu : P.underlying t = some d) {x : AV} {cx : Value} (hx : RV W F Fr μ x cx) {s : Bool} {m : Int} (hm : lenIf s x = some m)
    (hd : (s = false ∧ ∃ e, d = .slice e) ∨ (s = true ∧ d = .string)) : (Builtin.len_ argTypes ty #[cx]).run P W = .ok (.int .i64 m) W := by
  have hsl : ∀ A (n : Nat) c e, d = .slice e → cx = .slice A n c → (Builtin.len_ argTypes ty #[cx]).run P W = .ok (.int .i64 n) W := by
    intro A n c e hd hc
    subst hc; subst hd
    simp [Builtin.len_, ht, run_und hu, goInt]
  rcases hd with ⟨rfl, e, hd'⟩ | ⟨rfl, hd'⟩
  · cases x with
    | sl sz w l => obtain rfl := Option.some.inj hm; obtain ⟨A, c, rfl, _⟩ := hx.sl_inv; exact hsl A _ c e hd' rfl
    | ref id p off len cap ex => obtain rfl := Option.some.inj hm; obtain ⟨L, A, c, _, _, _, _, _, _, rfl⟩ := hx.ref_inv; exact hsl A _ c e hd' rfl
    | nil => obtain rfl := Option.some.inj hm; obtain rfl := hx.nil_inv; exact hsl none 0 0 e hd' rfl
    | emp => obtain rfl := Option.some.inj hm; obtain ⟨A, rfl⟩ := hx.emp_inv; exact hsl A 0 0 e hd' rfl
    | _ => simp [lenIf, lenVal] at hm
  · cases x with
    | s s =>
      obtain rfl := hx.str
      obtain rfl := Option.some.inj hm
      subst hd'
      simp [Builtin.len_, ht, run_und hu, goInt]
    | _ => simp [lenIf] at hm
theorem RV.single {v : AV} {cv : Value} (h : RV W F Fr μ v cv) (h1 : v ≠ .junk) (h2 : ∀ l, v ≠ .agg l) (h3 : ∀ l, v ≠ .tup l) : RL W F Fr μ [v] [cv] [] := by
  cases v <;> first | exact h | exact absurd rfl h1 | exact absurd rfl (h2 _) | exact absurd rfl (h3 _)
theorem RV.ofSingle {v : AV} {cv : Value} (h : RL W F Fr μ [v] [cv] []) (h2 : ∀ l, v ≠ .agg l) : RV W F Fr μ v cv := by
  cases v <;> first | exact h | exact absurd rfl (h2 _) | trivial | (cases h; done)
/-- What 'nil' is asked of. -/
theorem isNil_sound {t : TypeId} {d : TypeDesc} (hu : P.underlying t = some d) {x : AV} {cx : Value} (hx : RV W F Fr μ x cx) {p b : Bool} (hb : (if p then isNilP x else isNilS x) = some b) {cn : Value}
    (hd : (p = false ∧ (∃ e, d = .slice e) ∧ cn = .slice none 0 0) ∨ (p = true ∧ (∃ e, d = .pointer e) ∧ cn = .pointer none)) : (Op.equal t cx cn).run P W = .ok b W := by
  have run_eq : ∀ (b : Bool) (cx : Value), (∀ n, (Op.equalIn (n + 1) t cx cn).run P W = .ok b W) → (Op.equal t cx cn).run P W = .ok b W := fun b cx h => h 9999
  rcases hd with ⟨rfl, ⟨e, rfl⟩, rfl⟩ | ⟨rfl, ⟨e, rfl⟩, rfl⟩
  · simp only [Bool.false_eq_true, if_false] at hb
    cases x with
    | nil =>
      simp [isNilS] at hb; subst hb
      obtain rfl := hx.nil_inv
      exact run_eq _ _ fun n => by simp [Op.equalIn, run_und hu]
    | ref id p o l c ex =>
      simp only [isNilS] at hb
      split at hb
      · obtain rfl := Option.some.inj hb
        obtain ⟨L, A, c', _, h1, h2, _, _, hA, rfl⟩ := hx.ref_inv
        rw [hA (by omega)]
        exact run_eq _ _ fun n => by simp [Op.equalIn, run_und hu]
      · cases hb
    | sl sz w l =>
      simp only [isNilS] at hb
      split at hb
      · rename_i hpos
        obtain rfl := Option.some.inj hb
        obtain ⟨A, c', rfl, h1, hq⟩ := hx.sl_inv
        rcases hq with rfl | ⟨g, o0, cs1, o1, _, rfl, _⟩
        · simp at hpos
        · exact run_eq _ _ fun n => by simp [Op.equalIn, run_und hu]
      · cases hb
    | _ => simp [isNilS] at hb
  · simp only [if_true] at hb
    cases x with
    | nilp =>
      simp [isNilP] at hb; subst hb
      have : RL W F Fr μ [.nilp] [cx] [] := hx
      have hcx : cx = .pointer none := by cases this; rfl
      subst hcx
      exact run_eq _ _ fun n => by simp [Op.equalIn, run_und hu]
    | ptr id p r c =>
      simp [isNilP] at hb; subst hb
      obtain ⟨L, _, rfl⟩ := hx.ptr_inv
      exact run_eq _ _ fun n => by simp [Op.equalIn, run_und hu]
    | rp r c =>
      simp [isNilP] at hb; subst hb
      obtain ⟨g, o0, cs1, rfl, _⟩ := hx.rp_inv
      exact run_eq _ _ fun n => by simp [Op.equalIn, run_und hu]
    | _ => simp [isNilP] at hb
end
end Go.Am
/- THE ABSTRACT MACHINE (AM): '==' of structs, what is put together, min and max, strings of bytes. No condition. -/
namespace Go.Am
set_option linter.unusedSimpArgs false
set_option linter.unusedVariables false

section
variable {P : Program} {W : World} {F Fr : Nat → Prop} {μ : Place}
theorem cell_at {l : List AV} (hone : ones l) {cs : Array Value} (h : RL W F Fr μ l cs.toList []) {c : Nat} {x : AV} (hx : l[c]? = some x) : ∃ v, cs[c]? = some v ∧ RL W F Fr μ [x] [v] [] := by
  have hs : sub? l c 1 = some [x] := by
    unfold sub?
    have := (List.getElem?_eq_some_iff.1 hx).1
    rw [if_pos (by omega), getElem?_take1 hx]
  obtain ⟨h1, h2, h3, o', h4, h5⟩ := h.sub hone hs
  obtain rfl : o' = [] := List.eq_nil_iff_forall_not_mem.2 fun x hx => by simpa using h5 x hx
  have hlt : c < cs.size := by simp at h3; omega
  refine ⟨cs[c], by simp [hlt], ?_⟩
  have : List.take 1 (List.drop c cs.toList) = [cs[c]] := by
    rw [List.drop_eq_getElem_cons (by simpa using hlt)]; simp
  rwa [this] at h4
theorem part_one {t : TypeId} (ha : isAggB P t = some false) {cs : Array Value} {c : Nat} {v : Value} (h : cs[c]? = some v) : (Go.part t cs c).run P W = .ok v W := by
  simp [Go.part, run_isAgg ha, h]
theorem eqFields_run {d : Nat} : ∀ {fs : List Field} {cells : List (Nat × Nat)}, eqCells P fs = some cells → ∀ {xs ys : List AV} {cx cy : Array Value}, ones xs → ones ys → RL W F Fr μ xs cx.toList [] → RL W F Fr μ ys cy.toList [] →
    ∀ {e : Bool}, cellsEq xs ys cells = some e → (Op.eqFields (d + 1) cx cy fs).run P W = .ok e W
  | [], cells, h, xs, ys, cx, cy, _, _, _, _, e, he => by
    simp [eqCells] at h; subst h; simp [cellsEq] at he; subst he; simp [Op.eqFields]
  | f :: fs, cells, h, xs, ys, cx, cy, ox, oy, hx, hy, e, he => by
    simp only [eqCells] at h
    split at h
    · cases h
    · rename_i cs hcs
      have rest := fun {e} => eqFields_run (d := d) hcs ox oy hx hy (e := e)
      split at h
      · rename_i hn
        obtain rfl := Option.some.inj h
        simp [Op.eqFields, hn, rest he]
      · rename_i hn
        have step : ∀ (kd : Nat) (hkd : cells = (f.offset, kd) :: cs) (hty : isAggB P f.type = some false) (hrun : ∀ x y b cvx cvy, cellEq kd x y = some b → RL W F Fr μ [x] [cvx] [] → RL W F Fr μ [y] [cvy] [] → (Op.equalIn (d + 1) f.type cvx cvy).run P W = .ok b W),
            (Op.eqFields (d + 1) cx cy (f :: fs)).run P W = .ok e W := by
          intro kd hkd hty hrun
          subst hkd
          simp only [cellsEq] at he
          split at he
          · rename_i x y hxc hyc
            split at he
            · rename_i b hb
              split at he
              · rename_i r hr
                obtain rfl := Option.some.inj he
                obtain ⟨vx, h1, h2⟩ := cell_at ox hx hxc
                obtain ⟨vy, h3, h4⟩ := cell_at oy hy hyc
                simp only [Op.eqFields, hn, ne_eq, not_false_eq_true, if_true, Sem.run_bind, part_one hty h1, part_one hty h3, Result.andThen_ok, hrun x y b vx vy hb h2 h4, rest hr]
                cases b <;> simp [rest hr]
              · cases he
            · cases he
          · cases he
        split at h
        · rename_i k hu
          refine step 0 (Option.some.inj h).symm (by simp [isAggB, hu]) fun x y b vx vy hb hx hy => ?_
          cases x <;> cases y <;> simp [cellEq] at hb
          obtain ⟨rfl, rfl⟩ := hb
          have e1 := RL.int1 hx; have e2 := RL.int1 hy
          simp at e1 e2; subst e1; subst e2
          rw [run_equalIn_int W d f.type _ _ _ _ hu]
          congr 1
        · rename_i hu
          refine step 1 (Option.some.inj h).symm (by simp [isAggB, hu]) fun x y b vx vy hb hx hy => ?_
          cases x <;> cases y <;> simp [cellEq] at hb
          subst hb
          cases hx; cases hy
          exact run_equalIn_bool' W d f.type _ _ hu
        · rename_i hu
          refine step 2 (Option.some.inj h).symm (by simp [isAggB, hu]) fun x y b vx vy hb hx hy => ?_
          cases x <;> cases y <;> simp [cellEq] at hb
          subst hb
          cases hx; cases hy
          rw [run_equalIn_string W d f.type _ _ hu, toList_inj]
        · cases h
theorem eqs_sound {t : TypeId} {cells : List (Nat × Nat)} (hc : eqCellsOf P t = some cells) {xs ys : List AV} {cx cy : Value} (hx : RV W F Fr μ (.agg xs) cx) (hy : RV W F Fr μ (.agg ys) cy) {e : Bool} (he : cellsEq xs ys cells = some e) (op : BinOp) (x y : Operand) :
    (eqGuard op t x y cx cy).run P W = .ok () W ∧ (Go.binOp .eql t cx cy).run P W = .ok (.bool e) W ∧ (Go.binOp .neq t cx cy).run P W = .ok (.bool (!e)) W := by
  unfold eqCellsOf at hc
  split at hc
  · rename_i fs hu
    split at hc
    · cases hc
    · rename_i hn
      simp at hn
      obtain ⟨cx, rfl, ox, hx⟩ := hx.agg
      obtain ⟨cy, rfl, oy, hy⟩ := hy.agg
      have hf : P.fieldsOf t = fs := by simp [Program.fieldsOf, hu]
      have h1 := run_equalIn_agg (P := P) W 9999 t cx cy (by rw [hf]; exact hu) hn.1
      rw [hf, eqFields_run (d := 9998) hc ox oy hx hy he] at h1
      refine ⟨run_eqGuard_agg W op t x y cx cy hn.2, ?_, ?_⟩
      · rw [run_eql_struct, h1]; rfl
      · rw [run_neq_struct, h1]; rfl
  · cases hc
end
end Go.Am
/- THE ABSTRACT MACHINE (AM): slices' elements, strings of bytes, unary operations, min and max. No condition. -/
namespace Go.Am
set_option linter.unusedSimpArgs false
set_option linter.unusedVariables false

section
variable {P : Program} {W : World} {F Fr : Nat → Prop} {μ : Place}
theorem flatL_append {l m : List AV} : flatL (l ++ m) = (flatL l && flatL m) := by induction l <;> simp_all [flatL, Bool.and_assoc]
theorem flatL_mem : ∀ {l : List AV}, flatL l = true → ∀ v ∈ l, flatR v = true
  | [], _ => by simp
  | v :: l, h => by
    simp [flatL] at h
    intro x hx
    rcases List.mem_cons.1 hx with rfl | hx
    · exact h.1
    · exact flatL_mem h.2 x hx
theorem flatL_of : ∀ {l : List AV}, (∀ v ∈ l, flatR v = true) → flatL l = true
  | [], _ => rfl
  | v :: l, h => by
    have h2 : flatL l = true := flatL_of fun x hx => h x (List.mem_cons_of_mem _ hx)
    simp [flatL, h v (by simp), h2]
theorem flatL_sub {l m : List AV} (h : flatL l = true) (hs : ∀ v ∈ m, v ∈ l) : flatL m = true := flatL_of fun v hv => flatL_mem h v (hs v hv)
/-- A view's rows. -/
theorem view_mem {rows l : List AV} {off len : Nat} (h : view rows off len = some l) : l = (rows.drop off).take len ∧ off + len ≤ rows.length ∧ l.length = len := by
  unfold view at h
  split at h
  · rename_i hc; obtain rfl := Option.some.inj h; obtain ⟨rfl, rfl⟩ := hc; simp
  · split at h
    · obtain rfl := Option.some.inj h; simp; omega
    · cases h
/-- A slice's rows in memory. -/
def SliceAt (W : World) (F Fr : Nat → Prop) (cx : Value) (sz : Nat) (ys : List AV) (o : List Nat) : Prop :=
  ∃ A c news, cx = .slice A ys.length c ∧ ys.length ≤ c ∧ uni sz ys ∧ RL W F Fr noPlace ys news o ∧ news.length = ys.length * sz ∧ (0 < ys.length → ∃ g b, A = some ⟨g, b, none⟩ ∧ cellsAt W g b news)
theorem view_at {h : Heap} {own : Nat → List Nat} {n : Nat} (H : HInv W F Fr μ h own n) {id : Nat} {p : Option (Nat × Nat)} {off len cap : Nat} {ex : Bool} {cx : Value} (hx : RV W F Fr μ (.ref id p off len cap ex) cx)
    {sz : Nat} {rows l : List AV} (hr : rowsAt h id p = some (sz, rows)) (hv : view rows off len = some l) : ∃ o, SliceAt W no no cx sz l o ∧ ∀ x ∈ o, x ∈ own id := by
  obtain ⟨L, A, c, hμ, hle, hcap, hex, hfit, hA, rfl⟩ := hx.ref_inv
  obtain ⟨L', csv, o1, hμ', hsz', huni, hrl, hcT, hcell, hopen, hown, hg, _⟩ := rowsAt_rel H hr
  obtain rfl : L = L' := by rw [hμ] at hμ'; exact Option.some.inj hμ'
  obtain ⟨rfl, hle2, hlen⟩ := view_mem hv
  obtain ⟨c1, c3, p1, p2, p3, e1, e2, e3, e4, _, h2, _⟩ := hrl.rows huni hle2
  refine ⟨p2, ⟨A, c, _, by rw [hlen], by omega, uni_sub huni fun v hv => List.mem_of_mem_drop (List.mem_of_mem_take hv), h2, by rw [e3, hlen], fun hpos => ⟨_, _, hA (by omega), ?_⟩⟩, fun x hx => hown x (by rw [e4]; simp [hx])⟩
  rw [hsz']
  exact hcell.sub _ _
theorem elems_at {h : Heap} {own : Nat → List Nat} {n : Nat} (H : HInv W F Fr μ h own n) {x : AV} {cx : Value} (hx : RV W F Fr μ x cx) {sz : Nat} {ys : List AV} (he : elems h sz x = some ys) : flatL ys = true ∧ SliceAt W no no cx sz ys [] := by
  cases x with
  | nil => obtain rfl := Option.some.inj he; obtain rfl := hx.nil_inv; exact ⟨rfl, none, 0, [], rfl, by simp, trivial, .nil, by simp, by simp⟩
  | emp => obtain rfl := Option.some.inj he; obtain ⟨A, rfl⟩ := hx.emp_inv; exact ⟨rfl, A, 0, [], rfl, by simp, trivial, .nil, by simp, by simp⟩
  | sl sz' w l =>
    simp only [elems] at he
    split at he
    · rename_i hc
      obtain ⟨rfl, hfl⟩ := hc
      obtain rfl := Option.some.inj he
      obtain ⟨A, c, rfl, hc, hq⟩ := hx.sl_inv
      refine ⟨hfl, ?_⟩
      rcases hq with rfl | ⟨g, o0, cs1, o1, hpos, rfl, huni, hg, ho, hcell, hrl⟩
      · exact ⟨A, c, [], rfl, by simp, trivial, .nil, by simp, by simp⟩
      · exact ⟨_, c, cs1, rfl, hc, huni, RL.ofFlatL hfl hrl, by rw [hrl.width, uni_widthL huni], fun _ => ⟨g, o0, rfl, hcell⟩⟩
    · cases he
  | ref id p off len cap ex =>
    simp only [elems] at he
    split at he
    · rename_i sz' rows hr
      split at he
      · rename_i l hv
        split at he
        · rename_i hc
          obtain ⟨rfl, hfl⟩ := hc
          obtain rfl := Option.some.inj he
          obtain ⟨o, ⟨A, c, news, h1, h2, h3, h4, h5, h6⟩, _⟩ := view_at H hx hr hv
          exact ⟨hfl, A, c, news, h1, h2, h3, RL.ofFlatL hfl h4, h5, h6⟩
        · cases he
      · cases he
    · cases he
  | _ => simp [elems] at he
theorem strOf_run : ∀ {l : List AV} {cs : List Value} {o : List Nat}, bytesL l = true → RL W F Fr μ l cs o → ∃ ns : List Int, cs = ns.map (Value.int .u8) ∧ ∀ s : ByteArray, ns.foldl (fun r n => r.push (UInt8.ofNat n.toNat)) s = ⟨s.data ++ (l.map byteAt).toArray⟩
  | [], _, _, _, h => by cases h; exact ⟨[], rfl, fun s => by simp⟩
  | v :: l, _, _, hb, h => by
    simp [bytesL] at hb
    obtain ⟨c1, c2, o1, o2, rfl, rfl, h1, h2⟩ := RL.uncons h
    obtain ⟨ns, rfl, hs⟩ := strOf_run hb.2 h2
    cases v <;> simp [byteC] at hb
    rename_i k n
    cases k <;> simp [byteC] at hb
    obtain rfl := RL.int1 h1
    refine ⟨n :: ns, by simp, fun s => ?_⟩
    simp only [List.foldl_cons, hs]
    apply ByteArray.ext
    apply Array.ext'
    simp [ByteArray.push, byteAt, Nat.toUInt8]
theorem bytesL_width : ∀ {l : List AV}, bytesL l = true → uni 1 l
  | [], _ => trivial
  | v :: l, h => by
    simp [bytesL] at h
    exact ⟨by cases v <;> simp_all [byteC, AV.width], bytesL_width h.2⟩
theorem str_sound {src dst e : TypeId} (hs : P.underlying src = some (.slice e)) (he : P.underlying e = some (.int .u8)) (hd : P.underlying dst = some .string)
    {h : Heap} {own : Nat → List Nat} {n : Nat} (H : HInv W F Fr μ h own n) {x : AV} {cx : Value} (hx : RV W F Fr μ x cx) {l : List AV} (hl : elems h 1 x = some l) (hb : bytesL l = true) :
    (Go.convert src dst cx).run P W = .ok (.string (strOf l)) W := by
  obtain ⟨hfl, A, c, news, rfl, hc, huni, hr, hlen, hA⟩ := elems_at H hx hl
  rw [run_convert_bytes_string W src dst e A _ c hs he hd]
  cases A with
  | none =>
    have : l = [] := by
      cases l with
      | nil => rfl
      | cons v l => obtain ⟨g, b, h, _⟩ := hA (by simp); cases h
    subst this
    simp [Conv.bytesToString, strOf]
    rfl
  | some a =>
    obtain ⟨ns, rfl, hs⟩ := strOf_run hb hr
    have hn : ns.length = l.length := by simpa using hlen
    have hload : (loadCells a l.length).run P W = .ok (ns.map (Value.int .u8)).toArray W := by
      rw [← hn, ← List.length_map (f := Value.int .u8)]
      refine run_loadCells_list W a _ fun j v hj => ?_
      have hpos : 0 < l.length := by have := (List.getElem?_eq_some_iff.1 hj).1; simp at this; omega
      obtain ⟨g, b, hab, hcell⟩ := hA hpos
      obtain rfl := Option.some.inj hab
      rw [add_at]
      exact hcell j v hj
    rw [run_bytesToString W a l.length c ns hload, hs]
    congr 2
    apply ByteArray.ext
    simp [strOf]
theorem unOp_sound {op : UnOp} {x v : AV} {cx : Value} (hx : RV W F Fr μ x cx) (h : unOp op x = some v) : ∃ cv, (Op.unary op cx).run P W = .ok cv W ∧ RV W F Fr μ v cv := by
  cases op <;> cases x <;> simp [unOp] at h
  · obtain rfl := hx.int; subst h; exact ⟨_, by simp [Op.unary, Op.intArith], RV.ofInt _ _⟩
  · obtain rfl := hx.int; subst h; exact ⟨_, by simp [Op.unary, bitsOf_run], RV.ofInt _ _⟩
  · obtain rfl := hx.bool; subst h; exact ⟨_, by simp [Op.unary], RV.ofBool _⟩
theorem max_sound : ∀ {l : List AV} {x v : AV}, maxAV x l = some v → ∀ {cx : Value} {cl : List Value}, RV W F Fr μ x cx → l.length = cl.length → (∀ (j : Nat) y, l[j]? = some y → ∃ c, cl[j]? = some c ∧ RV W F Fr μ y c) →
    ∃ cv, (cl.foldlM Builtin.max2 cx).run P W = .ok cv W ∧ RV W F Fr μ v cv
  | [], x, v, h, cx, cl, hx, hl, _ => by
    simp [maxAV] at h; subst h
    obtain rfl : cl = [] := List.length_eq_zero_iff.1 hl.symm
    exact ⟨cx, by simp, hx⟩
  | y :: l, x, v, h, cx, cl, hx, hl, hr => by
    cases cl with
    | nil => simp at hl
    | cons c cl =>
      obtain ⟨c', hc', hy⟩ := hr 0 y rfl
      simp at hc'; subst hc'
      cases x <;> cases y <;> simp [maxAV] at h
      obtain ⟨rfl, h⟩ := h
      obtain rfl := hx.int; obtain rfl := hy.int
      obtain ⟨cv, h1, h2⟩ := max_sound h (RV.ofInt _ _) (by simpa using hl) (fun j z hj => by simpa using hr (j + 1) z (by simpa using hj))
      refine ⟨cv, ?_, h2⟩
      simp only [List.foldlM_cons, Sem.run_bind]
      simpa [Builtin.max2] using h1
theorem min_sound : ∀ {l : List AV} {x v : AV}, minAV x l = some v → ∀ {cx : Value} {cl : List Value}, RV W F Fr μ x cx → l.length = cl.length → (∀ (j : Nat) y, l[j]? = some y → ∃ c, cl[j]? = some c ∧ RV W F Fr μ y c) →
    ∃ cv, (cl.foldlM Builtin.min2 cx).run P W = .ok cv W ∧ RV W F Fr μ v cv
  | [], x, v, h, cx, cl, hx, hl, _ => by
    simp [minAV] at h; subst h
    obtain rfl : cl = [] := List.length_eq_zero_iff.1 hl.symm
    exact ⟨cx, by simp, hx⟩
  | y :: l, x, v, h, cx, cl, hx, hl, hr => by
    cases cl with
    | nil => simp at hl
    | cons c cl =>
      obtain ⟨c', hc', hy⟩ := hr 0 y rfl
      simp at hc'; subst hc'
      cases x <;> cases y <;> simp [minAV] at h
      obtain ⟨rfl, h⟩ := h
      obtain rfl := hx.int; obtain rfl := hy.int
      obtain ⟨cv, h1, h2⟩ := min_sound h (RV.ofInt _ _) (by simpa using hl) (fun j z hj => by simpa using hr (j + 1) z (by simpa using hj))
      refine ⟨cv, ?_, h2⟩
      simp only [List.foldlM_cons, Sem.run_bind]
      simpa [Builtin.min2] using h1
end
end Go.Am
/- THE ABSTRACT MACHINE (AM): zero values; structs and arrays put together. No condition. -/
namespace Go.Am
set_option linter.unusedSimpArgs false
set_option linter.unusedVariables false

inductive All2 {α β : Type} (R : α → β → Prop) : List α → List β → Prop
  | nil : All2 R [] []
  | cons {a b l m} : R a b → All2 R l m → All2 R (a :: l) (b :: m)
section
variable {P : Program} {W : World} {F Fr : Nat → Prop} {μ : Place}
theorem sameC_eq {v w : AV} (h : sameC v w = true) : v = w := by
  cases v <;> cases w <;> simp_all [sameC]
theorem rle_cells : ∀ l : List AV, zcells (rle l) = l
  | [] => rfl
  | v :: l => by
    have ih := rle_cells l
    simp only [rle]
    split
    · rename_i n w z hz
      rw [hz] at ih
      split
      · rename_i hs
        have := sameC_eq hs
        subst this
        rw [← ih]
        simp [zcells, List.replicate_succ]
      · rw [← ih]; simp [zcells, List.replicate_succ]
    · rename_i hz
      rw [hz] at ih
      rw [← ih]
      simp [zcells, List.replicate_succ]
/-- A type's zero value. -/
theorem zeroOf_rel {t : TypeId} {z : Zero} (h : zeroOf P t = some z) : ∃ i zv, P.info? t = some i ∧ i.zero = some zv ∧ zv.cells.size = i.size ∧ (zcells z).length = i.size ∧ ones (zcells z) ∧
    ∀ {W : World} {F Fr : Nat → Prop} {μ : Place}, RL W F Fr μ (zcells z) zv.cells.toList [] := by
  unfold zeroOf at h
  split at h
  · rename_i i hi
    split at h
    · rename_i zv hz
      split at h
      · rename_i l hl
        split at h
        · rename_i hlen
          obtain rfl := Option.some.inj h
          have hw := (avsOf_rel (W := default) (F := fun _ => False) (Fr := fun _ => False) (μ := noPlace) hl)
          have h1 := hw.1.width
          rw [ones_widthL hw.2] at h1
          rw [rle_cells]
          exact ⟨i, zv, hi, hz, by simp at h1; omega, hlen, hw.2, fun {W F Fr μ} => (avsOf_rel hl).1⟩
        · cases h
      · cases h
    · cases h
  · cases h
theorem run_zeroValue {t : TypeId} {i : TypeInfo} {zv : Value} (hi : P.info? t = some i) (hz : i.zero = some zv) : (zeroValue t).run P W = .ok zv W := by simp [zeroValue, typeInfo, hi, hz]
theorem RL.putAt {cs vs : List AV} {csv vcs : List Value} (hone : ones cs) (hv : ones vs) (h : RL W F Fr μ cs csv []) (h2 : RL W F Fr μ vs vcs []) {off : Nat} (hle : off + vs.length ≤ cs.length) :
    ones (putAt cs off vs) ∧ RL W F Fr μ (putAt cs off vs) (csv.take off ++ vcs ++ csv.drop (off + vcs.length)) [] ∧ vcs.length = vs.length := by
  have hvl := h2.width
  rw [ones_widthL hv] at hvl
  have e : cs = cs.take off ++ cs.drop off := by rw [List.take_append_drop]
  rw [e] at h
  obtain ⟨c1, c2, o1, o2, rfl, ho, h3, h4⟩ := h.split
  have ho := (List.append_eq_nil_iff.1 ho.symm)
  rw [ho.1] at h3; rw [ho.2] at h4
  have e2 : cs.drop off = (cs.drop off).take vs.length ++ (cs.drop off).drop vs.length := by rw [List.take_append_drop]
  rw [e2] at h4
  obtain ⟨c3, c4, o3, o4, rfl, ho', h5, h6⟩ := h4.split
  have ho' := (List.append_eq_nil_iff.1 ho'.symm)
  rw [ho'.2] at h6
  have hs : ∀ {m : List AV}, (∀ v ∈ m, v ∈ cs) → ones m := fun hm => ones_sub hone hm
  have w1 := h3.width
  rw [ones_widthL (hs fun v hv => List.mem_of_mem_take hv)] at w1
  have w3 := h5.width
  rw [ones_widthL (hs fun v hv => List.mem_of_mem_drop (List.mem_of_mem_take hv))] at w3
  simp only [List.length_take, List.length_drop] at w1 w3
  have w1' : c1.length = off := by omega
  have w3' : c3.length = vcs.length := by omega
  have hd : (c1 ++ (c3 ++ c4)).drop (off + vcs.length) = c4 := by rw [← List.drop_drop, List.drop_left' w1', List.drop_left' w3']
  refine ⟨ones_append (ones_append (hs fun v hv => List.mem_of_mem_take hv) hv) (hs fun v hv => List.mem_of_mem_drop hv), ?_, hvl⟩
  rw [List.take_left' w1', hd]
  unfold Am.putAt
  rw [← List.drop_drop]
  exact (h3.append h2).append h6
theorem set_fold : ∀ (l : List Value) (k : Nat) (cs : Array Value) (off : Nat), off + k + l.length ≤ cs.size →
    ((l.zipIdx k).foldl (fun cs (x : Value × Nat) => cs.setIfInBounds (off + x.2) x.1) cs).toList = cs.toList.take (off + k) ++ l ++ cs.toList.drop (off + k + l.length)
  | [], k, cs, off, _ => by simp
  | v :: l, k, cs, off, h => by
    simp only [List.length_cons] at h
    have ih := set_fold l (k + 1) (cs.setIfInBounds (off + k) v) off (by simp; omega)
    simp only [List.zipIdx_cons, List.foldl_cons]
    rw [ih]
    simp only [Array.toList_setIfInBounds]
    have := list_seg_step cs.toList (off + k) v l (by simp; omega)
    simpa [Nat.add_assoc, Nat.add_comm 1] using this
theorem fill_one {cells : Array Value} {v : Value} {off : Nat} (h : off + v.cells.size ≤ cells.size) :
    (v.cells.zipIdx.foldl (fun cs (x : Value × Nat) => cs.setIfInBounds (off + x.2) x.1) cells).toList = cells.toList.take off ++ v.cells.toList ++ cells.toList.drop (off + v.cells.toList.length) := by
  have := set_fold v.cells.toList 0 cells off (by simpa using h)
  rw [← Array.foldl_toList]
  simpa using this
/-- The parts of a struct or an array, one by one. -/
theorem fill_run {t : Temps} {a : Act} (ht : TInv W F Fr μ t a.tmps) {place : Nat → Option (Nat × Nat)} : ∀ {parts : List (Nat × Operand)} {ps : List (Nat × Nat × Opd)},
    (All2 (fun (p : Nat × Operand) (q : Nat × Nat × Opd) => place p.1 = some (q.1, q.2.1) ∧ slimX p.2 = some q.2.2) parts ps) → ∀ {cs cs' : List AV} {csv : Array Value}, ones cs → RL W F Fr μ cs csv.toList [] → fillParts t cs ps = some cs' →
    ∃ csv', Instr.fill place csv (parts.map fun (i, x) => (i, a.eval x)) = some csv' ∧ ones cs' ∧ RL W F Fr μ cs' csv'.toList []
  | _, _, .nil, cs, cs', csv, hone, h, hf => by simp [fillParts] at hf; subst hf; exact ⟨csv, rfl, hone, h⟩
  | (i, x) :: parts, (off, m, y) :: ps, .cons ⟨hp, hx⟩ hr, cs, cs', csv, hone, h, hf => by
    simp only [fillParts] at hf
    split at hf
    · rename_i hc
      obtain ⟨hle, hm, hb⟩ := hc
      have hv := (opd_rel hx ht).cells (.inl hb)
      obtain ⟨h1, h2, h3⟩ := RL.putAt hone hv.1 h hv.2 (off := off) (by dsimp only at hm ⊢; omega)
      have hsz : (a.eval x).cells.size = m := by rw [← hm, ← h3]; simp
      have hcs : csv.size = cs.length := by have := h.width; rw [ones_widthL hone] at this; simpa using this
      simp only [List.map_cons, Instr.fill, hp]
      rw [if_neg (by simp; omega)]
      have e := fill_one (cells := csv) (v := a.eval x) (off := off) (by omega)
      exact fill_run ht hr (csv := ((a.eval x).cells.zipIdx.foldl (fun cs (x : Value × Nat) => cs.setIfInBounds (off + x.2) x.1) csv)) h1 (by rw [e]; exact h2) hf
    · cases hf
theorem slimFields_rel {pl : List (Nat × Nat)} : ∀ {parts : List (Nat × Operand)} {ps : List (Nat × Nat × Opd)}, slimFields pl parts = some ps →
    All2 (fun (p : Nat × Operand) (q : Nat × Nat × Opd) => (fun i => pl[i]?) p.1 = some (q.1, q.2.1) ∧ slimX p.2 = some q.2.2) parts ps
  | [], ps, h => by simp [slimFields] at h; subst h; exact .nil
  | (j, x) :: l, ps, h => by
    simp only [slimFields] at h
    split at h
    · rename_i off m y ys h1 h2 h3
      obtain rfl := Option.some.inj h
      exact .cons ⟨h1, h2⟩ (slimFields_rel h3)
    · cases h
theorem slimElems_rel {sz : Nat} : ∀ {parts : List (Nat × Operand)} {ps : List (Nat × Nat × Opd)}, slimElems sz parts = some ps →
    All2 (fun (p : Nat × Operand) (q : Nat × Nat × Opd) => (fun i => some (i * sz, sz)) p.1 = some (q.1, q.2.1) ∧ slimX p.2 = some q.2.2) parts ps
  | [], ps, h => by simp [slimElems] at h; subst h; exact .nil
  | (j, x) :: l, ps, h => by
    simp only [slimElems] at h
    split at h
    · rename_i y ys h1 h2
      obtain rfl := Option.some.inj h
      exact .cons ⟨rfl, h1⟩ (slimElems_rel h2)
    · cases h
theorem fieldPlaces_run : ∀ {fs : List Field} {pl : List (Nat × Nat)}, fieldPlaces P fs = some pl → (fs.mapM (m := Sem) fun f => do pure (f.offset, ← sizeOf f.type)).run P W = .ok pl W
  | [], pl, h => by simp [fieldPlaces] at h; subst h; simp
  | f :: fs, pl, h => by
    simp only [fieldPlaces] at h
    split at h
    · rename_i m r h1 h2
      obtain rfl := Option.some.inj h
      have ih := fieldPlaces_run h2
      simp only [List.mapM_cons, Sem.run_bind, run_szOf h1, Result.andThen_ok, Sem.run_pure, ih]
    · cases h
theorem build_sound {t : TypeId} {d : TypeDesc} (hu : P.underlying t = some d) {z : Zero} (hz : zeroOf P t = some z) {tt : Temps} {a : Act} (ht : TInv W F Fr μ tt a.tmps) {parts : Array (Nat × Operand)} {ps : List (Nat × Nat × Opd)}
    (hp : (∃ fs pl, d = .struct fs ∧ fieldPlaces P fs.toList = some pl ∧ slimFields pl parts.toList = some ps) ∨ (∃ n e m, d = .array n e ∧ szOf P e = some m ∧ slimElems m parts.toList = some ps)) {cs : List AV} (hf : fillParts tt (zcells z) ps = some cs) :
    ∃ cv, (Instr.build t (parts.map fun (i, x) => (i, a.eval x))).run P W = .ok cv W ∧ RV W F Fr μ (.agg cs) cv := by
  obtain ⟨i, zv, hi, hzv, hsz, hlen, hone, hr⟩ := zeroOf_rel hz
  rcases hp with ⟨fs, pl, rfl, hpl, hs⟩ | ⟨n, e, m, rfl, hm, hs⟩
  · obtain ⟨csv, h1, h2, h3⟩ := fill_run ht (place := fun i => pl[i]?) (slimFields_rel hs) hone hr hf
    refine ⟨.agg csv, ?_, ⟨csv, rfl, .toAgg h2 h3⟩⟩
    have hmm : (fs.mapM (m := Sem) fun f => do pure (f.offset, ← sizeOf f.type)).run P W = .ok pl.toArray W := by
      have := fieldPlaces_run (P := P) (W := W) hpl
      rw [← Array.toArray_toList (xs := fs), List.mapM_toArray] 
      simp only [Sem.run_map, this, Result.andThen_ok]
    simp only [Instr.build, Sem.run_bind, run_zeroValue hi hzv, Result.andThen_ok, run_und hu, hmm, Array.toList_map]
    have e : (fun (x : Nat) => pl.toArray[x]?) = fun (i : Nat) => pl[i]? := by funext i; simp
    rw [e, h1]
    rfl
  · obtain ⟨csv, h1, h2, h3⟩ := fill_run ht (place := fun i => some (i * m, m)) (slimElems_rel hs) hone hr hf
    refine ⟨.agg csv, ?_, ⟨csv, rfl, .toAgg h2 h3⟩⟩
    simp only [Instr.build, Sem.run_bind, run_zeroValue hi hzv, Result.andThen_ok, run_und hu, run_szOf hm, Array.toList_map]
    rw [h1]
    rfl
end
end Go.Am
/- THE ABSTRACT MACHINE (AM): how what holds of the heap goes on when a block is laid, written, moved. No condition. -/
namespace Go.Am
set_option linter.unusedSimpArgs false
set_option linter.unusedVariables false

theorem find_cons (n : Nat) (b : Blk) (h : Heap) (id : Nat) : find ((n, b) :: h) id = if n = id then some b else find h id := rfl
theorem find_setH (h : Heap) (j : Nat) (b : Blk) (id : Nat) : find (setH h j b) id = if j = id then some b else find h id := by
  induction h with
  | nil => simp [setH, find]
  | cons x h ih =>
    obtain ⟨i, c⟩ := x
    simp only [setH]
    split
    · rename_i e; subst e; simp only [find]; split <;> rfl
    · rename_i e
      simp only [find, ih]
      split
      · rename_i e2; subst e2; rw [if_neg (fun e3 => e e3.symm)]
      · rfl
theorem find_delH (h : Heap) (j id : Nat) : find (delH h j) id = if j = id then none else find h id := by
  induction h with
  | nil => simp [delH, find]
  | cons x h ih =>
    obtain ⟨i, c⟩ := x
    simp only [delH]
    split
    · rename_i e
      subst e
      rw [ih]
      simp only [find]
      split <;> rfl
    · rename_i e
      simp only [find, ih]
      split
      · rename_i e2; subst e2; rw [if_neg (fun e3 => e e3.symm)]
      · rfl
theorem find_append (h h2 : Heap) (id : Nat) : find (h ++ h2) id = match find h id with | some b => some b | none => find h2 id := by
  induction h with
  | nil => simp [find]
  | cons x h ih =>
    obtain ⟨i, c⟩ := x
    simp only [List.cons_append, find]
    split
    · rfl
    · exact ih
theorem find_delAll (h : Heap) (l : List Nat) (id : Nat) : find (delAll h l) id = if id ∈ l then none else find h id := by
  induction l generalizing h with
  | nil => simp [delAll]
  | cons x l ih =>
    simp only [delAll, ih, find_delH]
    by_cases e : x = id
    · subst e; simp
    · by_cases e2 : id ∈ l
      · simp [e2]
      · have : ¬ id = x := fun e' => e e'.symm
        simp [e, e2, this]
section
variable {P : Program} {W : World} {F Fr : Nat → Prop} {μ : Place}
theorem BRel.keep {W' : World} {μ' : Place} {id : Nat} {b : Blk} {o : List Nat} (h : BRel W F Fr μ id b o) (hFr : ∀ x, Fr x → F x) (hF : ∀ x, F x → Same W W' x) (ho : ∀ x ∈ o, Same W W' x)
    (hμ : ∀ id p L, μ id p = some L → μ' id p = some L) : BRel W' F Fr μ' id b o := by
  cases b with
  | box cs =>
    obtain ⟨L, csv, h1, h2, h3, h4, h5, h6⟩ := h
    have hg := ho L.g (by rw [h6]; simp)
    exact ⟨L, csv, hμ _ _ _ h1, h2, (h3.same hFr hF (by simp)).more (fun _ h => h) (fun _ h => h) hμ, h4.same hg, h5.same hg, h6⟩
  | arr sz rows =>
    obtain ⟨L, csv, o1, h1, h2, h3, h4, h5, h6, h7, h8, h9, h10⟩ := h
    have hr := h5.same0 (W' := W') (fun x hx => ho x (by rw [h9]; simp [hx]))
    by_cases hc : L.capT = 0
    · have h0 : rows = [] := List.length_eq_zero_iff.1 (by omega)
      subst h0
      cases h5
      exact ⟨L, [], [], hμ _ _ _ h1, h2, h3, h4, .nil, h6, fun k v hk => by simp at hk, fun k hk => by rw [hc] at hk; omega, h9, fun r c row sz' l hr => by simp at hr⟩
    · have hg := ho L.g (by rw [h9, if_neg hc]; simp)
      exact ⟨L, csv, o1, hμ _ _ _ h1, h2, h3, h4, hr, h6, h7.same hg, h8.same hg, h9, fun r c row sz' l e1 e2 => let ⟨L', A, q1, q2⟩ := h10 r c row sz' l e1 e2; ⟨L', A, hμ _ _ _ q1, q2⟩⟩
  | mp es => exact h.elim
theorem ext_of {n : Nat} {μ' : Place} {h : Heap} {own : Nat → List Nat} (H : HInv W F Fr μ h own n) (he : ∀ id p, id < n → μ' id p = μ id p) : ∀ id p L, μ id p = some L → μ' id p = some L :=
  fun id p L hl => by rw [he id p (H.pl id p L hl)]; exact hl
/-- One block is laid, written or made of others; the others stay. -/
theorem HInv.one {h h' : Heap} {own : Nat → List Nat} {n n' : Nat} (H : HInv W F Fr μ h own n) {W' : World} {μ' : Place} (c : Nat) (bc : Blk) (oc : List Nat)
    (hsz : W.heap.size ≤ W'.heap.size) (hF : ∀ x, F x → Same W W' x) (he : ∀ id p, id < n → μ' id p = μ id p) (hpl : ∀ id p L, μ' id p = some L → id < n') (hn : n ≤ n') (hc : c < n')
    (hh : ∀ id b, find h' id = some b → (id = c ∧ b = bc) ∨ (id ≠ c ∧ find h id = some b ∧ ∀ x ∈ own id, Same W W' x))
    (hb : BRel W' F Fr μ' c bc oc) (hnd : oc.Nodup) (ho : ∀ x ∈ oc, x < W'.heap.size ∧ (W.heap.size ≤ x ∨ ∃ id0 b0, find h id0 = some b0 ∧ x ∈ own id0 ∧ (id0 = c ∨ find h' id0 = none))) :
    HInv W' F Fr μ' h' (fun id => if id = c then oc else own id) n' := by
  have hext := ext_of H he
  -- an id that is kept owns nothing of the new one's
  have apart : ∀ id b, find h' id = some b → id ≠ c → find h id = some b → ∀ x ∈ own id, x ∉ oc := by
    intro id b hb' hne hb x hx hxo
    rcases (ho x hxo).2 with h1 | ⟨id0, b0, h1, h2, h3⟩
    · have := (H.out id b hb x hx).2; omega
    · by_cases e : id = id0
      · subst e
        rcases h3 with rfl | h3
        · exact hne rfl
        · rw [h3] at hb'; cases hb'
      · exact H.dis id id0 b b0 hb h1 e x hx h2
  constructor
  · intro id b hf
    rcases hh id b hf with ⟨rfl, rfl⟩ | ⟨hne, hf', hs⟩
    · simpa using hb
    · simp only [hne, if_false]
      exact (H.blk id b hf').keep H.fr hF hs hext
  · intro id b hf
    rcases hh id b hf with ⟨rfl, rfl⟩ | ⟨hne, hf', hs⟩
    · simpa using hnd
    · simp only [hne, if_false]; exact H.nd id b hf'
  · intro id id' b b' hf hf' hne x hx
    rcases hh id b hf with ⟨rfl, rfl⟩ | ⟨h1, h2, h3⟩ <;> rcases hh id' b' hf' with ⟨rfl, rfl⟩ | ⟨h4, h5, h6⟩
    · exact absurd rfl hne
    · simp only [if_true] at hx
      simp only [h4, if_false]
      exact fun hx' => apart id' b' hf' h4 h5 x hx' hx
    · simp only [h1, if_false] at hx
      simp only [if_true]
      exact apart id b hf h1 h2 x hx
    · simp only [h1, if_false] at hx
      simp only [h4, if_false]
      exact H.dis id id' b b' h2 h5 hne x hx
  · intro id b hf x hx
    rcases hh id b hf with ⟨rfl, rfl⟩ | ⟨hne, hf', hs⟩
    · simp only [if_true] at hx
      obtain ⟨h1, h2⟩ := ho x hx
      refine ⟨fun hFx => ?_, h1⟩
      rcases h2 with h2 | ⟨id0, b0, h2, h3, _⟩
      · have := H.fsz x hFx; omega
      · exact (H.out id0 b0 h2 x h3).1 hFx
    · simp only [hne, if_false] at hx
      have := H.out id b hf' x hx
      exact ⟨this.1, by omega⟩
  · intro id b hf
    rcases hh id b hf with ⟨rfl, rfl⟩ | ⟨hne, hf', hs⟩
    · exact hc
    · have := H.lt id b hf'; omega
  · exact hpl
  · exact H.fr
  · intro x hx; have := H.fsz x hx; omega
theorem owned_one {h h' : Heap} {own : Nat → List Nat} {W W' : World} (c : Nat) (bc : Blk) (oc : List Nat)
    (hh : ∀ id b, find h' id = some b → (id = c ∧ b = bc) ∨ (id ≠ c ∧ find h id = some b ∧ ∀ x ∈ own id, Same W W' x))
    (ho : ∀ x ∈ oc, x < W'.heap.size ∧ (W.heap.size ≤ x ∨ ∃ id0 b0, find h id0 = some b0 ∧ x ∈ own id0 ∧ (id0 = c ∨ find h' id0 = none))) :
    ∀ x, Owned h' (fun id => if id = c then oc else own id) x → W.heap.size ≤ x ∨ Owned h own x := by
  rintro x ⟨id, b, hf, hx⟩
  rcases hh id b hf with ⟨rfl, rfl⟩ | ⟨hne, hf', hs⟩
  · simp only [if_true] at hx
    rcases (ho x hx).2 with h1 | ⟨id0, b0, h1, h2, _⟩
    · exact .inl h1
    · exact .inr ⟨id0, b0, h1, h2⟩
  · simp only [hne, if_false] at hx
    exact .inr ⟨id, b, hf', hx⟩
theorem After.one {h h' : Heap} {own : Nat → List Nat} {n n' : Nat} (H : HInv W F Fr μ h own n) {W' : World} {μ' : Place} (c : Nat) (bc : Blk) (oc : List Nat) (hs : Step h own W W')
    (he : ∀ id p, id < n → μ' id p = μ id p) (hpl : ∀ id p L, μ' id p = some L → id < n') (hn : n ≤ n') (hc : c < n')
    (hh : ∀ id b, find h' id = some b → (id = c ∧ b = bc) ∨ (id ≠ c ∧ find h id = some b ∧ ∀ x ∈ own id, Same W W' x))
    (hb : BRel W' F Fr μ' c bc oc) (hnd : oc.Nodup) (ho : ∀ x ∈ oc, x < W'.heap.size ∧ (W.heap.size ≤ x ∨ ∃ id0 b0, find h id0 = some b0 ∧ x ∈ own id0 ∧ (id0 = c ∨ find h' id0 = none)))
    {v : AV} {cv : Value} (hv : RV W' F Fr μ' v cv) : After W F Fr μ h own n h' n' v cv W' :=
  ⟨hs, hn, μ', _, he, H.one c bc oc hs.size (hs.onF H) he hpl hn hc hh hb hnd ho, hv, owned_one c bc oc hh ho⟩
/-- Fewer blocks. -/
theorem HInv.fewer {h h' : Heap} {own : Nat → List Nat} {n : Nat} (H : HInv W F Fr μ h own n) (hh : ∀ id b, find h' id = some b → find h id = some b) : HInv W F Fr μ h' own n :=
  ⟨fun id b hf => H.blk id b (hh id b hf), fun id b hf => H.nd id b (hh id b hf), fun id id' b b' hf hf' => H.dis id id' b b' (hh _ _ hf) (hh _ _ hf'), fun id b hf => H.out id b (hh _ _ hf), fun id b hf => H.lt id b (hh _ _ hf), H.pl, H.fr, H.fsz⟩
theorem HInv.del {h : Heap} {own : Nat → List Nat} {n : Nat} (H : HInv W F Fr μ h own n) (j : Nat) : HInv W F Fr μ (delH h j) own n :=
  H.fewer fun id b hf => by rw [find_delH] at hf; split at hf <;> first | cases hf | exact hf
/-- A new block's place. -/
def addPl (μ : Place) (n : Nat) (m : Option (Nat × Nat) → Option Loc) : Place := fun id p => if id = n then m p else μ id p
theorem addPl_old {n : Nat} {m : Option (Nat × Nat) → Option Loc} {id : Nat} (h : id < n) (p : Option (Nat × Nat)) : addPl μ n m id p = μ id p := by
  unfold addPl; rw [if_neg (by omega)]
theorem addPl_lt {h : Heap} {own : Nat → List Nat} {n : Nat} (H : HInv W F Fr μ h own n) {m : Option (Nat × Nat) → Option Loc} : ∀ id p L, addPl μ n m id p = some L → id < n + 1 := by
  intro id p L hl
  unfold addPl at hl
  split at hl
  · omega
  · have := H.pl id p L hl; omega
theorem addPl_new {n : Nat} {m : Option (Nat × Nat) → Option Loc} (p : Option (Nat × Nat)) : addPl μ n m n p = m p := by simp [addPl]
theorem cellsAt_new {w : World} {cs : Array Value} {t : TypeId} : cellsAt (w.alloc (.cells cs t)) w.heap.size 0 cs.toList := by
  intro k v hk
  rw [Nat.zero_add, World.cell?_alloc_new]
  simpa using hk
theorem openAt_new {w : World} {cs : Array Value} {t : TypeId} {n : Nat} (hn : n ≤ cs.size) : openAt (w.alloc (.cells cs t)) w.heap.size 0 n := by
  intro k hk
  rw [Nat.zero_add]
  refine ⟨⟨cs[k], ?_⟩, ?_⟩
  · rw [World.cell?_alloc_new]; simp
  · have : (w.alloc (.cells cs t)).heap[w.heap.size]? = some (.cells cs t (0, 0)) := by
      show (w.heap.push _)[w.heap.size]? = _
      rw [Array.getElem?_push, if_pos rfl]
    simp only [World.frozen?, this]
    simp
end
end Go.Am
