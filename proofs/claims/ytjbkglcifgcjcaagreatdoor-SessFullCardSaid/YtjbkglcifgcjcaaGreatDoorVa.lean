import GoSem.Step
import Derived.CallsIn
import Derived.OrdersIn
import Derived.RangeFuncIn
import Derived.Laws.World
import Derived.Laws.Sem
import Derived.Laws.Cells
import Derived.Laws.Tables
import Derived.Laws.AppendOwn
section
set_option autoImplicit false
namespace Dv
open Go

/-! ### Values -/
inductive DV where
  | unk
  | bool (b : Bool)
  | int (k : IntKind) (n : Int)
  | str (s : List UInt8)
  | nil
  | ptr (b off : Nat)
  | dptr (cells : List DV) (off : Nat)
  | nsl
  | sl (b v sz off len : Nat)
  | dsl (sz : Nat) (elems : List (List DV))
  | eptr (b v i off : Nat)
  | fn (f : Fn) (first caps : List DV)
  | nilFn
  | mp (b : Nat)
  | nmp
  | iface (t : Nat) (v : DV)
  | nilIface
  | agg (cells : List DV)
  | tup (vs : List DV)
  deriving Inhabited

inductive Ex where | ret | ex (id : Nat) | go (l : Nat)
  deriving Inhabited
inductive Mode where | P | H
  deriving DecidableEq, Inhabited
structure Pol where
  mode : Mode := .H
  nt : Nat := 0
  locs : List Nat := []
  lits : List Nat := []
  plan : List (Nat × List (Nat × List Nat)) := []
  deriving Inhabited
inductive Fr where
  | e
  | lf (v : DV)
  | nd (l r : Fr)
  deriving Inhabited
inductive LSt where | ready | busy | done
  deriving DecidableEq, Inhabited
inductive DObj where
  | dead
  | loop (fr : Fr) (params : List Nat) (assign body : Code) (pol : Pol) (st : LSt) (pending : Option Ex)
  | obj (cells : List DV) (frozen : Bool)
  | row (sz : Nat) (elems : List (List DV)) (ver fz : Nat)
  | mapo (es : List (DV × DV))
  deriving Inhabited

abbrev Heap := List DObj
def hget : Heap → Nat → Option DObj
  | [], _ => none
  | o :: h, b => if b = h.length then some o else hget h b
def hset : Heap → Nat → DObj → Heap
  | [], _, _ => []
  | o :: h, b, x => if b = h.length then x :: h else o :: hset h b x

/-! ### Types -/
inductive TK where
  | bool | int (k : IntKind) | str | ptr (e : Nat) | slice (e : Nat) | array (n e : Nat) | struct (fs : List (Nat × Nat))
  | map (k e : Nat) | func | iface | tuple | other
  deriving Inhabited
structure TI where
  kind : TK
  size : Nat
  zero : List DV
  bytes : Nat
  /-- A struct or an array whose cells are numbers, strings and truth values, one for each part: '==' compares all of them. -/
  plain : Bool := false
  deriving Inhabited
def TI.agg (i : TI) : Bool := match i.kind with | .struct _ | .array .. => true | _ => false
def TI.zeroV (i : TI) : DV := match i.kind with | .struct _ | .array .. => .agg i.zero | _ => i.zero.headD .unk

structure FI where
  code : Code
  ntmps : Nat
  results : List ResultVar
  pol : Pol
  deriving Inhabited
structure Ctx where
  ti : Nat → TI
  fn : Nat → Option FI
  gl : Nat → DV
  ext : Nat → Option (List DV → Option DV)

/-! ### Frames -/
def fgetD : Nat → Fr → Nat → DV
  | 0, .lf v, n => bif Nat.beq n 0 then v else .unk
  | d + 1, .nd l r, n => bif Nat.beq (n % 2) 0 then fgetD d l (n / 2) else fgetD d r (n / 2)
  | _, _, _ => .unk
def fsetD : Nat → Fr → Nat → DV → Fr
  | 0, _, _, v => .lf v
  | d + 1, .nd l r, n, v => bif Nat.beq (n % 2) 0 then .nd (fsetD d l (n / 2) v) r else .nd l (fsetD d r (n / 2) v)
  | d + 1, _, n, v => bif Nat.beq (n % 2) 0 then .nd (fsetD d .e (n / 2) v) .e else .nd .e (fsetD d .e (n / 2) v)
def fget (fr : Fr) (n : Nat) : DV := fgetD 8 fr n
def fset (fr : Fr) (n : Nat) (v : DV) : Fr := fsetD 8 fr n v
def fput (fr : Fr) : Option Nat → DV → Fr
  | some d, v => fset fr d v
  | none, _ => fr
def mem : List Nat → Nat → Bool
  | [], _ => false
  | x :: r, n => bif x == n then true else mem r n
def fill : Fr → Nat → List DV → Fr
  | fr, _, [] => fr
  | fr, i, v :: r => fill (fset fr i v) (i + 1) r
/-- A frame of which nothing is known. -/
def full : Nat → Fr
  | 0 => .lf .unk
  | d + 1 => .nd (full d) (full d)
def pickOut (fr : Fr) : List Nat → Fr → Fr
  | [], acc => acc
  | t :: r, acc => pickOut fr r (fset acc t (fget fr t))
def restrict (keep : List Nat) (fr : Fr) : Fr := pickOut fr keep .e
def forget (l : List Nat) (fr : Fr) : Fr := l.foldl (fun fr t => fset fr t .unk) fr
def assoc {α : Type} : List (Nat × α) → Nat → Option α
  | [], _ => none
  | (k, v) :: r, n => bif k == n then some v else assoc r n

/-! ### Constants -/
def ofConst : Nat → Value → DV
  | 0, _ => .unk
  | n + 1, v => match v with
    | .bool b => .bool b
    | .int k i => .int k i
    | .string s => .str s.data.toList
    | .pointer none => .nil
    | .slice none 0 0 => .nsl
    | .nilFunc => .nilFn
    | .nilIface => .nilIface
    | .map none => .nmp
    | .agg cs => .agg (cs.toList.map (ofConst n))
    | .tuple cs => .tup (cs.toList.map (ofConst n))
    | .func (.func g) a b => .fn (.func g) (a.toList.map (ofConst n)) (b.toList.map (ofConst n))
    | .iface t v => .iface t (ofConst n v)
    | _ => .unk

/-! ### Cells -/
def rdCells (agg : Bool) (size : Nat) (cells : List DV) (off : Nat) : Option DV :=
  bif agg then (if off + size ≤ cells.length then some (.agg ((cells.drop off).take size)) else none) else bif Nat.beq size 1 then cells[off]? else none
def DV.cells : DV → List DV
  | .agg cs => cs
  | v => [v]
def wrCells (cells : List DV) (off : Nat) (new : List DV) : Option (List DV) :=
  if off + new.length ≤ cells.length then some (cells.take off ++ (new ++ cells.drop (off + new.length))) else none
def DV.one : DV → Bool
  | .agg _ | .tup _ | .unk => false
  | _ => true
/-- A value without any place in the heap. -/
def DV.flat : DV → Bool
  | .int .. | .bool _ | .str _ | .nil | .dptr .. | .nsl | .dsl .. | .nilFn | .nmp | .nilIface => true
  | _ => false
def okVal (i : TI) (v : DV) : Bool := match v with
  | .agg cs => i.agg && Nat.beq cs.length i.size && cs.all DV.one
  | v => !i.agg && Nat.beq i.size 1 && v.one

def dLoad (i : TI) (p : DV) (h : Heap) : Option DV := match p with
  | .dptr cells off => rdCells i.agg i.size cells off
  | .ptr b off => match hget h b with
    | some (.obj cells _) => rdCells i.agg i.size cells off
    | _ => none
  | .eptr b v n off => match hget h b with
    | some (.row _ es v' _) => if v = v' then (match es[n]? with | some cells => rdCells i.agg i.size cells off | none => none) else none
    | _ => none
  | _ => none
def dStore (i : TI) (p x : DV) (h : Heap) : Option Heap :=
  bif okVal i x then match p with
  | .ptr b off => match hget h b with
    | some (.obj cells false) => match wrCells cells off x.cells with
      | some cs => some (hset h b (.obj cs false))
      | none => none
    | _ => none
  | .eptr b v n off => match hget h b with
    | some (.row sz es v' fz) => if v = v' ∧ fz ≤ n then (match es[n]? with
      | some cells => match wrCells cells off x.cells with
        | some cs => some (hset h b (.row sz (es.set n cs) v' fz))
        | none => none
      | none => none) else none
    | _ => none
  | _ => none
  else none
def dShift (p : DV) (o : Nat) : Option DV := match p with
  | .dptr cells off => some (.dptr cells (off + o))
  | .ptr b off => some (.ptr b (off + o))
  | .eptr b v i off => some (.eptr b v i (off + o))
  | _ => none
def fieldOff (i : TI) (f : Nat) : Option (Nat × Nat) := match i.kind with
  | .struct fs => fs[f]?
  | _ => none
def dFieldAddr (c : Ctx) (i : TI) (p : DV) (f : Nat) : Option DV := match fieldOff i f with
  | some (o, t) => bif Nat.ble 1 (c.ti t).size then dShift p o else none
  | none => none
def inRange (n : Int) (len : Nat) : Bool := decide (0 ≤ n ∧ n < (len : Int))
def dIndexAddr (c : Ctx) (i : TI) (x ix : DV) : Option DV := match ix with
  | .int _ n => match i.kind with
    | .slice e => match x with
      | .dsl sz es => bif inRange n es.length && (Nat.beq sz (c.ti e).size && Nat.ble 1 sz) then (match es[n.toNat]? with | some cells => some (.dptr cells 0) | none => none) else none
      | .sl b v z off len => bif inRange n len && (Nat.beq z (c.ti e).size && Nat.ble 1 z) then some (.eptr b v (off + n.toNat) 0) else none
      | _ => none
    | .array len e => bif inRange n len && Nat.ble 1 (c.ti e).size then dShift x (n.toNat * (c.ti e).size) else none
    | _ => none
  | _ => none
def dField (c : Ctx) (i : TI) (x : DV) (f : Nat) : Option DV := match fieldOff i f, x with
  | some (o, t), .agg cs => rdCells (c.ti t).agg (c.ti t).size cs o
  | _, _ => none
def dIndex (c : Ctx) (i : TI) (x ix : DV) : Option DV := match ix with
  | .int _ n => match i.kind, x with
    | .array len e, .agg cs => bif inRange n len && Nat.ble 1 (c.ti e).size then rdCells (c.ti e).agg (c.ti e).size cs (n.toNat * (c.ti e).size) else none
    | .str, .str s => bif inRange n s.length then (match s[n.toNat]? with | some b => some (.int .u8 b.toNat) | none => none) else none
    | _, _ => none
  | _ => none
def dBuildParts (c : Ctx) (place : Nat → Option (Nat × Nat)) (cells : List DV) : List (Nat × DV) → Option (List DV)
  | [] => some cells
  | (n, v) :: r => match place n with
    | some (o, t) => bif okVal (c.ti t) v then (match wrCells cells o v.cells with | some cs => dBuildParts c place cs r | none => none) else none
    | none => none
def dBuild (c : Ctx) (i : TI) (parts : List (Nat × DV)) : Option DV := match i.kind with
  | .struct fs => (dBuildParts c (fs[·]?) i.zero parts).map .agg
  | .array _ e => (dBuildParts c (fun n => some (n * (c.ti e).size, e)) i.zero parts).map .agg
  | _ => none
def dSetElems (i : TI) (es : List (List DV)) : List (Nat × DV) → Option (List (List DV))
  | [] => some es
  | (n, v) :: r => bif okVal i v && decide (n < es.length) then dSetElems i (es.set n v.cells) r else none
def maxRow : Nat := 4294967296
def repl {α : Type} : Nat → α → List α
  | 0, _ => []
  | n + 1, x => x :: repl n x
def dBuildSlice (c : Ctx) (i : TI) (len : Nat) (parts : List (Nat × DV)) : Option (Nat × List (List DV)) := match i.kind with
  | .slice e => bif decide (len ≤ 1000000) && decide (1 ≤ (c.ti e).size) && decide ((c.ti e).size ≤ 16) then (dSetElems (c.ti e) (repl len (c.ti e).zero) parts).map ((c.ti e).size, ·) else none
  | _ => none
def asBound (n : Nat) (lo : Nat) (d : Nat) : Option DV → Option Nat
  | none => some d
  | some (.int _ i) => bif decide ((lo : Int) ≤ i ∧ i ≤ (n : Int)) then some i.toNat else none
  | some _ => none
def dSlice (c : Ctx) (i : TI) (x : DV) (lo hi : Option DV) : Option DV := match i.kind with
  | .str => match x with
    | .str s => match asBound s.length 0 s.length hi with
      | some b => match asBound b 0 0 lo with
        | some a => some (.str ((s.take b).drop a))
        | none => none
      | none => none
    | _ => none
  | .slice e => bif Nat.ble 1 (c.ti e).size then (match x with
    | .dsl sz es => bif Nat.beq sz (c.ti e).size then (match asBound es.length 0 es.length hi with
      | some b => match asBound b 0 0 lo with
        | some a => some (.dsl sz ((es.take b).drop a))
        | none => none
      | none => none) else none
    | .sl bk v z off len => bif Nat.beq z (c.ti e).size then (match asBound len 0 len hi with
      | some b => match asBound b 0 0 lo with
        | some a => some (.sl bk v z (off + a) (b - a))
        | none => none
      | none => none) else none
    | .nsl => match asBound 0 0 0 hi with
      | some b => match asBound b 0 0 lo with
        | some _ => some .nsl
        | none => none
      | none => none
    | _ => none) else none
  | _ => none
/-- The elements that a slice reads. -/
def dElems (n : Nat) (x : DV) (h : Heap) : Option (List (List DV)) := match x with
  | .dsl z es => bif Nat.beq z n then some es else none
  | .nsl => some []
  | .sl b v z off len => bif Nat.beq z n then (match hget h b with
    | some (.row _ es v' _) => if v = v' ∧ off + len ≤ es.length then some ((es.drop off).take len) else none
    | _ => none) else none
  | .str s => bif Nat.beq 1 n then some (s.map fun b => [.int .u8 b.toNat]) else none
  | _ => none
def dAppend (c : Ctx) (i : TI) (s x : DV) (h : Heap) : Option (DV × Heap) := match i.kind with
  | .slice e => bif Nat.ble 1 (c.ti e).size then (match dElems (c.ti e).size x h with
    | some xs => match s with
      | .nsl => match xs with
        | [] => some (.nsl, h)
        | _ :: _ => bif decide (xs.length ≤ maxRow) && decide ((c.ti e).bytes ≤ 4096) then some (.sl h.length 0 (c.ti e).size 0 xs.length, .row (c.ti e).size xs 0 0 :: h) else none
      | .sl b v _ off len => match hget h b with
        | some (.row sz es v' fz) =>
          if v = v' ∧ off + len ≤ es.length ∧ sz = (c.ti e).size ∧ (c.ti e).bytes ≤ 4096 ∧ len + xs.length ≤ maxRow ∧ fz ≤ off + len then
            some (.sl b (v + 1) sz 0 (len + xs.length), hset h b (.row sz ((es.drop off).take len ++ xs) (v + 1) (fz - off)))
          else none
        | _ => none
      | _ => none
    | none => none) else none
  | _ => none
def dMakeSlice (c : Ctx) (i : TI) (l m : DV) (h : Heap) : Option (DV × Heap) := match i.kind, l, m with
  | .slice e, .int _ n, .int _ k => bif decide (0 ≤ n ∧ n ≤ k ∧ k ≤ (maxRow : Int)) && decide (1 ≤ (c.ti e).size) && decide ((c.ti e).bytes ≤ 4096) then
      some (.sl h.length 0 (c.ti e).size 0 n.toNat, .row (c.ti e).size (repl n.toNat (c.ti e).zero) 0 0 :: h) else none
  | _, _, _ => none
def setFrom (es : List (List DV)) (at_ : Nat) (xs : List (List DV)) : List (List DV) := es.take at_ ++ (xs ++ es.drop (at_ + xs.length))
def dCopy (c : Ctx) (i : TI) (d x : DV) (h : Heap) : Option (DV × Heap) := match i.kind with
  | .slice e => bif Nat.ble 1 (c.ti e).size then (match dElems (c.ti e).size x h, d with
    | some xs, .sl b v _ off len => match hget h b with
      | some (.row sz es v' fz) => if v = v' ∧ off + len ≤ es.length ∧ fz ≤ off ∧ sz = (c.ti e).size then
          some (.int .i64 (min xs.length len : Nat), hset h b (.row sz (setFrom es off (xs.take len)) v' fz)) else none
      | _ => none
    | some _, .nsl => some (.int .i64 0, h)
    | _, _ => none) else none
  | _ => none
def dClear (c : Ctx) (i : TI) (d : DV) (h : Heap) : Option (DV × Heap) := match i.kind with
  | .slice e => match d with
    | .nsl => some (.tup [], h)
    | .sl b v _ off len => match hget h b with
      | some (.row sz es v' fz) => if v = v' ∧ off + len ≤ es.length ∧ fz ≤ off ∧ sz = (c.ti e).size then
          some (.tup [], hset h b (.row sz (setFrom es off (repl len (c.ti e).zero)) v' fz)) else none
      | _ => none
    | _ => none
  | _ => none
def dLen (i : TI) (x : DV) (h : Heap) : Option DV := match i.kind with
  | .str => match x with
    | .str s => some (.int .i64 s.length)
    | _ => none
  | .slice _ => match x with
    | .dsl _ es => some (.int .i64 es.length)
    | .nsl => some (.int .i64 0)
    | .sl _ _ _ _ len => some (.int .i64 len)
    | _ => none
  | .map .. => match x with
    | .nmp => some (.int .i64 0)
    | .mp b => match hget h b with
      | some (.mapo es) => some (.int .i64 es.length)
      | _ => none
    | _ => none
  | _ => none

def bitsOp (op : BinOp) (k : IntKind) (x y : Int) : Option Int :=
  let a := BitVec.ofInt k.bits x
  let b := BitVec.ofInt k.bits y
  match op with
  | .and => some (k.wrap (a &&& b).toNat)
  | .or => some (k.wrap (a ||| b).toNat)
  | .xor => some (k.wrap (a ^^^ b).toNat)
  | .andNot => some (k.wrap (a &&& ~~~b).toNat)
  | _ => none
/-- '==' at a type of numbers, strings or truth values. -/
def kindEq : TK → DV → DV → Option Bool
  | .int _, .int k a, .int k' b => if k = k' then some (a == b) else none
  | .bool, .bool a, .bool b => some (a == b)
  | .str, .str a, .str b => some (a == b)
  | _, _, _ => none
def fieldsEq (c : Ctx) : Nat → List (Nat × Nat) → List DV → List DV → Option Bool
  | _, [], [], [] => some true
  | n, (o, t) :: r, x :: xs, y :: ys => bif Nat.beq o n && Nat.beq (c.ti t).size 1 then (match kindEq (c.ti t).kind x y with
    | some true => fieldsEq c (n + 1) r xs ys
    | some false => some false
    | none => none) else none
  | _, _, _, _ => none
def arrFs (e : Nat) : Nat → Nat → List (Nat × Nat)
  | 0, _ => []
  | n + 1, i => (i, e) :: arrFs e n (i + 1)
def dEq (c : Ctx) (i : TI) (lit : Bool) (x y : DV) : Option Bool := match i.kind with
  | .bool => match x, y with
    | .bool a, .bool b => some (a == b)
    | _, _ => none
  | .struct fs => match x, y with
    | .agg xs, .agg ys => bif i.plain then fieldsEq c 0 fs xs ys else none
    | _, _ => none
  | .array n e => match x, y with
    | .agg xs, .agg ys => bif i.plain then fieldsEq c 0 (arrFs e n 0) xs ys else none
    | _, _ => none
  | .ptr _ => match x, y with
    | .nil, .nil => some true
    | .ptr .., .nil | .dptr .., .nil | .eptr .., .nil | .nil, .ptr .. | .nil, .dptr .. | .nil, .eptr .. => some false
    | _, _ => none
  | .slice _ => match x, y with
    | .nsl, .nsl => some true
    | .sl .., .nsl | .dsl .., .nsl => some false
    | _, _ => none
  | .func => match x, y with
    | .nilFn, .nilFn => some true
    | .fn .., .nilFn => some false
    | _, _ => none
  | .iface => match x, y with
    | .nilIface, .nilIface => bif lit then some true else none
    | .iface .., .nilIface | .nilIface, .iface .. => some false
    | _, _ => none
  | _ => none
def dBin (c : Ctx) (i : TI) (lit : Bool) (op : BinOp) (x y : DV) : Option DV := match x, y with
  | .int k a, .int k' b => match op with
    | .shl => bif decide (0 ≤ b) then some (.int k (k.wrap (a * 2 ^ (min b.toNat k.bits)))) else none
    | .shr => bif decide (0 ≤ b) then some (.int k (a.fdiv (2 ^ (min b.toNat k.bits)))) else none
    | op => if k = k' then match op with
      | .add => some (.int k (k.wrap (a + b)))
      | .sub => some (.int k (k.wrap (a - b)))
      | .mul => some (.int k (k.wrap (a * b)))
      | .quo => bif b == 0 then none else some (.int k (k.wrap (a.tdiv b)))
      | .rem => bif b == 0 then none else some (.int k (a.tmod b))
      | .lss => some (.bool (decide (a < b)))
      | .leq => some (.bool (decide (a ≤ b)))
      | .gtr => some (.bool (decide (b < a)))
      | .geq => some (.bool (decide (b ≤ a)))
      | .eql => some (.bool (a == b))
      | .neq => some (.bool (!(a == b)))
      | op => (bitsOp op k a b).map (.int k)
      else none
  | .str a, .str b => match op with
    | .add => bif decide (a.length + b.length ≤ maxRow) then some (.str (a ++ b)) else none
    | .eql => some (.bool (a == b))
    | .neq => some (.bool (!(a == b)))
    | _ => none
  | x, y => match op with
    | .eql => (dEq c i lit x y).map .bool
    | .neq => (dEq c i lit x y).map fun b => .bool (!b)
    | _ => none
def dUn (op : UnOp) (x : DV) : Option DV := match op, x with
  | .neg, .int k n => some (.int k (k.wrap (0 - n)))
  | .not, .bool b => some (.bool (!b))
  | .xor, .int k n => (bitsOp .xor k (if k.signed then -1 else k.max) n).map (.int k)
  | _, _ => none
def byteOf? : List DV → Option UInt8
  | [.int .u8 n] => some (UInt8.ofNat n.toNat)
  | _ => none
def bytesOf? : List (List DV) → Option (List UInt8)
  | [] => some []
  | x :: r => match byteOf? x, bytesOf? r with
    | some b, some s => some (b :: s)
    | _, _ => none
def dConv (c : Ctx) (same : Bool) (src dst : TI) (x : DV) (h : Heap) : Option (DV × Heap) := bif Nat.beq src.size 0 then none else match dst.kind, x with
  | .int k, .int _ n => some (.int k (k.wrap n), h)
  | .str, .str s => some (.str s, h)
  | .slice e, .sl b v z off len => bif same && Nat.ble 1 len then (match (c.ti e).kind with
    | .int .u8 => (match hget h b with
      | some (.row _ _ v' _) => if v = v' then some (.sl b v z off len, h) else none
      | _ => none)
    | _ => none) else none
  | .slice e, .str s => match src.kind, (c.ti e).kind with
    | .str, .int .u8 => bif decide (s.length ≤ maxRow) && Nat.beq (c.ti e).size 1 then some (.sl h.length 0 1 0 s.length, .row 1 (s.map fun b => [.int .u8 b.toNat]) 0 0 :: h) else none
    | _, _ => none
  | .str, x => match src.kind with
    | .slice e => match (c.ti e).kind, dElems 1 x h with
      | .int .u8, some es => (bytesOf? es).map fun s => (.str s, h)
      | _, _ => none
    | _ => none
  | _, _ => none
def dExtract (x : DV) (n : Nat) : Option DV := match x with
  | .tup vs => vs[n]?
  | _ => none
def dMinMax (isMax : Bool) : List DV → Option DV
  | [.int k a, .int _ b] => some (.int k (bif isMax then (if b > a then b else a) else (if b < a then b else a)))
  | _ => none
def mapFind (t : TK) (k : DV) : List (DV × DV) → Option (Option DV)
  | [] => some none
  | (x, v) :: r => match kindEq t k x with
    | some true => some (some v)
    | some false => mapFind t k r
    | none => none
def mapPut (t : TK) (k v : DV) : List (DV × DV) → List (DV × DV)
  | [] => [(k, v)]
  | (x, u) :: r => match kindEq t k x with
    | some true => (x, v) :: r
    | _ => (x, u) :: mapPut t k v r
/-- A key whose '==' is its value's. -/
def keyOK : TK → DV → Bool
  | .int _, .int .. => true
  | .str, .str _ => true
  | .bool, .bool _ => true
  | _, _ => false
def dLookup (c : Ctx) (i : TI) (m k : DV) (ok : Bool) (h : Heap) : Option DV := match i.kind with
  | .map kt e => bif keyOK (c.ti kt).kind k && Nat.ble 1 (c.ti e).size then (match m with
    | .mp b => match hget h b with
      | some (.mapo es) => match mapFind (c.ti kt).kind k es with
        | some (some v) => some (bif ok then .tup [v, .bool true] else v)
        | some none => some (bif ok then .tup [(c.ti e).zeroV, .bool false] else (c.ti e).zeroV)
        | none => none
      | _ => none
    | _ => none) else none
  | _ => none
def dMapUpdate (c : Ctx) (i : TI) (m k v : DV) (h : Heap) : Option Heap := match i.kind with
  | .map kt _ => bif keyOK (c.ti kt).kind k then (match m with
    | .mp b => match hget h b with
      | some (.mapo es) => match mapFind (c.ti kt).kind k es with
        | some _ => some (hset h b (.mapo (mapPut (c.ti kt).kind k v es)))
        | none => none
      | _ => none
    | _ => none) else none
  | _ => none

/-! ### Freezing -/
def mapO {α β : Type} (f : α → Option β) : List α → Option (List β)
  | [] => some []
  | x :: r => match f x, mapO f r with
    | some y, some s => some (y :: s)
    | _, _ => none
/-- A value as it reads now, deep. -/
def deep (h : Heap) : Nat → DV → Option DV
  | 0, _ => none
  | n + 1, v => match v with
    | .bool b => some (.bool b)
    | .int k i => some (.int k i)
    | .str s => some (.str s)
    | .nil => some .nil
    | .nsl => some .nsl
    | .nilFn => some .nilFn
    | .nilIface => some .nilIface
    | .nmp => some .nmp
    | .dsl z es => some (.dsl z es)
    | .dptr cs o => some (.dptr cs o)
    | .sl b v _ off len => match hget h b with
      | some (.row z es v' _) => if v = v' ∧ off + len ≤ es.length then (mapO (mapO (deep h n)) ((es.drop off).take len)).map (.dsl z) else none
      | _ => none
    | .ptr b off => match hget h b with
      | some (.obj cells _) => (mapO (deep h n) cells).map (.dptr · off)
      | _ => none
    | .fn f a b => match f with
      | .func g => match mapO (deep h n) a, mapO (deep h n) b with
        | some a', some b' => some (.fn (.func g) a' b')
        | _, _ => none
      | _ => none
    | .iface t v => (deep h n v).map (.iface t)
    | .agg cs => (mapO (deep h n) cs).map .agg
    | .tup cs => (mapO (deep h n) cs).map .tup
    | _ => none
/-- What a deep copy reads: rows up to a place, objects. -/
def reach (h : Heap) : Nat → DV → List (Nat × Nat)
  | 0, _ => []
  | n + 1, v => match v with
    | .sl b v _ off len => match hget h b with
      | some (.row _ es v' _) => if v = v' then (b, off + len) :: ((es.drop off).take len).flatMap fun cs => cs.flatMap (reach h n) else []
      | _ => []
    | .ptr b _ => match hget h b with
      | some (.obj cells _) => (b, 0) :: cells.flatMap (reach h n)
      | _ => []
    | .fn _ a b => a.flatMap (reach h n) ++ b.flatMap (reach h n)
    | .iface _ v => reach h n v
    | .agg cs => cs.flatMap (reach h n)
    | .tup cs => cs.flatMap (reach h n)
    | _ => []
/-- It is written no more. -/
def mark (h : Heap) (x : Nat × Nat) : Heap := match hget h x.1 with
  | some (.row sz es v f) => hset h x.1 (.row sz es v (max f x.2))
  | some (.obj cells _) => hset h x.1 (.obj cells true)
  | _ => h
def deepDepth : Nat := 12

/-! ### The evaluator -/
abbrev Res := Option (DV × Heap)
abbrev Kont := Fr → Heap → Res
abbrev Rm := List (Nat × (Nat × Nat))

section ev
variable (c : Ctx) (C Y : Nat → List DV → Heap → Res) (pol : Pol)

/-- Where a temporary points into a local of the frame. -/
def locOf (rm : Rm) (t : Nat) : Option (Nat × Nat) := bif mem pol.locs t then some (t, 0) else assoc rm t
def rmDel (rm : Rm) : Option Nat → Rm
  | some d => rm.filter fun p => !Nat.beq p.1 d
  | none => rm
def rmHas (rm : Rm) (s : Nat) : Bool := rm.any fun p => match assoc rm p.1 with
  | some q => Nat.beq q.1 s
  | none => false
def rho (fr : Fr) (rm : Rm) : Operand → DV
  | .tmp t => match locOf pol rm t with
    | some _ => .unk
    | none => fget fr t
  | .const v => ofConst 4 v
  | .global g => c.gl g
  | .func f => .fn (.func f) [] []
def locOp (rm : Rm) : Operand → Option (Nat × Nat)
  | .tmp t => locOf pol rm t
  | _ => none

def evCallee (o : Go.Call) (r : Operand → DV) (h : Heap) : Res :=
  let args := o.args.toList.map r
  match o.callee with
  | .builtin b => match b, args, o.argTypes.toList with
    | .len, [x], [t] => (dLen (c.ti t) x h).map (·, h)
    | .append, [s, x], [t, t'] => (match (c.ti t').kind with
      | .slice _ | .str => dAppend c (c.ti t) s x h
      | _ => none)
    | .copy, [d, x], [t, _] => dCopy c (c.ti t) d x h
    | .clear, [x], [t] => dClear c (c.ti t) x h
    | .max, xs, _ => (dMinMax true xs).map (·, h)
    | .min, xs, _ => (dMinMax false xs).map (·, h)
    | _, _, _ => none
  | .value f => match r f with
    | .fn (.func g) first caps => C g (first ++ (args ++ caps)) h
    | .fn (.yield l) [] [] => Y l args h
    | _ => none
  | .invoke _ _ => none

def isLit : Operand → Bool
  | .const _ => true
  | _ => false
/-- An operation that has no local in it. -/
def evGen (o : Oper) (r : Operand → DV) (h : Heap) : Res :=
  match o.op with
  | .move x | .assign x => some (r x, h)
  | .alloc t => bif Nat.ble 1 (c.ti t).size then some (.ptr h.length 0, .obj (c.ti t).zero false :: h) else none
  | .box t x => bif okVal (c.ti t) (r x) then some (.ptr h.length 0, .obj (r x).cells false :: h) else none
  | .build t ps => (dBuild c (c.ti t) (ps.toList.map fun (n, x) => (n, r x))).map (·, h)
  | .buildSlice t n ps => match dBuildSlice c (c.ti t) n (ps.toList.map fun (n, x) => (n, r x)) with
    | some (sz, es) => match o.dst with
      | some d => bif mem pol.lits d || !es.all (fun cs => cs.all DV.flat) then some (.sl h.length 0 sz 0 n, .row sz es 0 0 :: h) else some (.dsl sz es, h)
      | none => none
    | none => none
  | .load t a => (dLoad (c.ti t) (r a) h).map (·, h)
  | .store t a x => (dStore (c.ti t) (r a) (r x) h).map (.tup [], ·)
  | .nilCheck x => match r x with
    | .ptr b off => some (.ptr b off, h)
    | .dptr b off => some (.dptr b off, h)
    | .eptr b v i off => some (.eptr b v i off, h)
    | .fn f a b => some (.fn f a b, h)
    | _ => none
  | .binOp op t x y _ => (dBin c (c.ti t) (isLit x || isLit y) op (r x) (r y)).map (·, h)
  | .unOp op _ x => (dUn op (r x)).map (·, h)
  | .convert a b x => dConv c (Nat.beq a b) (c.ti a) (c.ti b) (r x) h
  | .makeInterface t x => match (c.ti t).kind with
    | .iface | .other => none
    | _ => some (.iface t (r x), h)
  | .makeFunc (.func g) a b => some (.fn (.func g) (a.toList.map r) (b.toList.map r), h)
  | .makeMap _ none => some (.mp h.length, .mapo [] :: h)
  | .makeSlice t a b => dMakeSlice c (c.ti t) (r a) (r b) h
  | .slice t x lo hi none => (dSlice c (c.ti t) (r x) (lo.map r) (hi.map r)).map (·, h)
  | .fieldAddr t x f => (dFieldAddr c (c.ti t) (r x) f).map (·, h)
  | .field t x f => (dField c (c.ti t) (r x) f).map (·, h)
  | .indexAddr t x i => (dIndexAddr c (c.ti t) (r x) (r i)).map (·, h)
  | .index t x i => (dIndex c (c.ti t) (r x) (r i)).map (·, h)
  | .lookup t x i ok => (dLookup c (c.ti t) (r x) (r i) ok h).map (·, h)
  | .mapUpdate t m k v | .insert t m k v => (dMapUpdate c (c.ti t) (r m) (r k) (r v) h).map (.tup [], ·)
  | .extract x i => (dExtract (r x) i).map (·, h)
  | .call k => evCallee c C Y k r h
  | _ => none

/-- One operation; the continuation takes frame, region's map and heap. -/
def evOper {α : Type} (o : Oper) (fr : Fr) (rm : Rm) (h : Heap) (K : Fr → Rm → Heap → Option α) : Option α :=
  let gen : Unit → Option α := fun _ => match evGen c C Y pol o (rho c pol fr rm) h with
    | some (v, h') => K (fput fr o.dst v) (rmDel rm o.dst) h'
    | none => none
  match o.op with
  | .pick x a b => match rho c pol fr rm x with
    | .bool t => bif t then K (fput fr o.dst (rho c pol fr rm a)) (rmDel rm o.dst) h else K (fput fr o.dst (rho c pol fr rm b)) (rmDel rm o.dst) h
    | _ => none
  | .alloc t => match o.dst with
    | some d => bif mem pol.locs d then (bif !rmHas rm d && Nat.ble 1 (c.ti t).size then K (fset fr d (.agg (c.ti t).zero)) rm h else none) else gen ()
    | none => none
  | .box t x => match o.dst with
    | some d => bif mem pol.locs d then (bif okVal (c.ti t) (rho c pol fr rm x) && !rmHas rm d then K (fset fr d (.agg (rho c pol fr rm x).cells)) rm h else none) else gen ()
    | none => none
  | .move x | .nilCheck x => match locOp pol rm x with
    | some (s, off) => match fget fr s, o.dst with
      | .agg _, some d => K (fset fr d .unk) ((d, (s, off)) :: rmDel rm (some d)) h
      | _, _ => none
    | none => gen ()
  | .load t a => match locOp pol rm a with
    | some (s, off) => match fget fr s with
      | .agg cells => match rdCells (c.ti t).agg (c.ti t).size cells off with
        | some v => K (fput fr o.dst v) (rmDel rm o.dst) h
        | none => none
      | _ => none
    | none => gen ()
  | .store t a x => match locOp pol rm a with
    | some (s, off) => match fget fr s with
      | .agg cells => bif okVal (c.ti t) (rho c pol fr rm x) then (match wrCells cells off (rho c pol fr rm x).cells with
        | some cs => K (fput (fset fr s (.agg cs)) o.dst (.tup [])) (rmDel rm o.dst) h
        | none => none) else none
      | _ => none
    | none => gen ()
  | .fieldAddr t x f => match locOp pol rm x with
    | some (s, off) => match fget fr s, fieldOff (c.ti t) f, o.dst with
      | .agg _, some (o', t'), some d => bif Nat.ble 1 (c.ti t').size then K (fset fr d .unk) ((d, (s, off + o')) :: rmDel rm (some d)) h else none
      | _, _, _ => none
    | none => gen ()
  | .indexAddr t x i => match locOp pol rm x with
    | some (s, off) => match fget fr s, (c.ti t).kind, rho c pol fr rm i, o.dst with
      | .agg _, .array len e, .int _ n, some d => bif inRange n len && Nat.ble 1 (c.ti e).size then K (fset fr d .unk) ((d, (s, off + n.toNat * (c.ti e).size)) :: rmDel rm (some d)) h else none
      | _, _, _, _ => none
    | none => gen ()
  | _ => gen ()

def evOps (ops : Array Oper) : List Oper → Fr → Rm → Heap → Kont → Res
  | [], fr, _, h, K => K fr h
  | o :: rest, fr, rm, h, K => match o.guard with
    | none => evOper c C Y pol o fr rm h fun fr rm h => evOps ops rest fr rm h K
    | some (j, want) => match (ops[j]?).bind (·.dst) with
      | some t => match rho c pol fr rm (.tmp t) with
        | .bool b => bif b == want then evOper c C Y pol o fr rm h fun fr rm h => evOps ops rest fr rm h K
          else evOps ops rest (fput fr o.dst (.tup [])) (rmDel rm o.dst) h K
        | .tup [] => evOps ops rest (fput fr o.dst (.tup [])) (rmDel rm o.dst) h K
        | _ => none
      | none => none

/-! ### Regions that draw their order -/
/-- What an operation comes to. -/
inductive Out where
  | val (v : DV) (h : Heap)
  | pt (p : Nat × Nat)
  | loc (cells : List DV)
  | wr (s : Nat) (cells : List DV)
def Out.fr (o : Oper) (fr : Fr) : Out → Fr
  | .val v _ => fput fr o.dst v
  | .pt _ => fput fr o.dst .unk
  | .loc cs => fput fr o.dst (.agg cs)
  | .wr s cs => fput (fset fr s (.agg cs)) o.dst (.tup [])
def Out.rm (o : Oper) (rm : Rm) : Out → Rm
  | .pt p => match o.dst with
    | some d => (d, p) :: rmDel rm (some d)
    | none => rm
  | .loc _ => rm
  | _ => rmDel rm o.dst
def Out.hp (h : Heap) : Out → Heap
  | .val _ h' => h'
  | _ => h
def evVal (o : Oper) (fr : Fr) (rm : Rm) (h : Heap) : Option Out :=
  let gen : Unit → Option Out := fun _ => match evGen c C Y pol o (rho c pol fr rm) h with
    | some (v, h') => some (.val v h')
    | none => none
  match o.op with
  | .pick x a b => match rho c pol fr rm x with
    | .bool t => some (.val (bif t then rho c pol fr rm a else rho c pol fr rm b) h)
    | _ => none
  | .alloc t => match o.dst with
    | some d => bif mem pol.locs d then (bif !rmHas rm d && Nat.ble 1 (c.ti t).size then some (.loc (c.ti t).zero) else none) else gen ()
    | none => none
  | .box t x => match o.dst with
    | some d => bif mem pol.locs d then (bif okVal (c.ti t) (rho c pol fr rm x) && !rmHas rm d then some (.loc (rho c pol fr rm x).cells) else none) else gen ()
    | none => none
  | .move x | .nilCheck x => match locOp pol rm x with
    | some (s, off) => match fget fr s, o.dst with
      | .agg _, some _ => some (.pt (s, off))
      | _, _ => none
    | none => gen ()
  | .load t a => match locOp pol rm a with
    | some (s, off) => match fget fr s with
      | .agg cells => match rdCells (c.ti t).agg (c.ti t).size cells off with
        | some v => some (.val v h)
        | none => none
      | _ => none
    | none => gen ()
  | .store t a x => match locOp pol rm a with
    | some (s, off) => match fget fr s with
      | .agg cells => bif okVal (c.ti t) (rho c pol fr rm x) then (match wrCells cells off (rho c pol fr rm x).cells with
        | some cs => some (.wr s cs)
        | none => none) else none
      | _ => none
    | none => gen ()
  | .fieldAddr t x f => match locOp pol rm x with
    | some (s, off) => match fget fr s, fieldOff (c.ti t) f, o.dst with
      | .agg _, some (o', t'), some _ => bif Nat.ble 1 (c.ti t').size then some (.pt (s, off + o')) else none
      | _, _, _ => none
    | none => gen ()
  | .indexAddr t x i => match locOp pol rm x with
    | some (s, off) => match fget fr s, (c.ti t).kind, rho c pol fr rm i, o.dst with
      | .agg _, .array len e, .int _ n, some _ => bif inRange n len && Nat.ble 1 (c.ti e).size then some (.pt (s, off + n.toNat * (c.ti e).size)) else none
      | _, _, _, _ => none
    | none => gen ()
  | _ => gen ()
/-- An operation, its guard first. -/
def stepV (ops : Array Oper) (o : Oper) (fr : Fr) (rm : Rm) (h : Heap) : Option Out := match o.guard with
  | none => evVal c C Y pol o fr rm h
  | some (j, want) => match (ops[j]?).bind (·.dst) with
    | some t => match rho c pol fr rm (.tmp t) with
      | .bool b => bif b == want then evVal c C Y pol o fr rm h else some (.val (.tup []) h)
      | .tup [] => some (.val (.tup []) h)
      | _ => none
    | none => none
def listEqB {α : Type} (f : α → α → Bool) : List α → List α → Bool
  | [], [] => true
  | x :: r, y :: s => f x y && listEqB f r s
  | _, _ => false
def dvEq : Nat → DV → DV → Bool
  | 0, _, _ => false
  | n + 1, x, y => match x, y with
    | .unk, .unk => true
    | .bool a, .bool b => a == b
    | .int k a, .int k' b => decide (k = k') && a == b
    | .str a, .str b => a == b
    | .nil, .nil => true
    | .ptr a b, .ptr a' b' => Nat.beq a a' && Nat.beq b b'
    | .dptr a b, .dptr a' b' => listEqB (dvEq n) a a' && Nat.beq b b'
    | .nsl, .nsl => true
    | .sl a b v o l, .sl a' b' v' o' l' => Nat.beq a a' && (Nat.beq b b' && (Nat.beq v v' && (Nat.beq o o' && Nat.beq l l')))
    | .dsl a b, .dsl a' b' => Nat.beq a a' && listEqB (listEqB (dvEq n)) b b'
    | .eptr a b v o, .eptr a' b' v' o' => Nat.beq a a' && (Nat.beq b b' && (Nat.beq v v' && Nat.beq o o'))
    | .nilFn, .nilFn => true
    | .mp a, .mp b => Nat.beq a b
    | .nmp, .nmp => true
    | .iface t v, .iface t' v' => Nat.beq t t' && dvEq n v v'
    | .nilIface, .nilIface => true
    | .agg a, .agg b => listEqB (dvEq n) a b
    | .tup a, .tup b => listEqB (dvEq n) a b
    | _, _ => false
/-- A read that was done gives the same again. -/
def reOK (ops : Array Oper) (fr : Fr) (rm : Rm) (h : Heap) (i : Nat) : Bool := match ops[i]? with
  | some o => match stepV c C Y pol ops o fr rm h with
    | some (.val v _) => match o.dst with
      | some d => dvEq 6 v (fget fr d) && (match assoc rm d with | none => true | some _ => false)
      | none => true
    | some (.pt p) => match o.dst with
      | some d => (match assoc rm d with | some q => Nat.beq p.1 q.1 && Nat.beq p.2 q.2 | none => false) && (match fget fr d with | .unk => true | _ => false)
      | none => false
    | _ => false
  | none => false
def evPlan (ops : Array Oper) : List (Nat × List Nat) → Fr → Rm → Heap → Kont → Res
  | [], fr, _, h, K => K fr h
  | (i, rc) :: rest, fr, rm, h, K => match ops[i]? with
    | some o => match stepV c C Y pol ops o fr rm h with
      | some out => bif rc.all (reOK c C Y pol ops (out.fr o fr) (out.rm o rm) (out.hp h)) then evPlan ops rest (out.fr o fr) (out.rm o rm) (out.hp h) K else none
      | none => none
    | none => none

/-- A loop: its body's evaluation is handed in. -/
def evLoop (body : Fr → Heap → Kont → Res) : Nat → Fr → Heap → Res
  | 0, _, _ => none
  | n + 1, fr, h => body fr h (fun fr h => evLoop body n fr h)

/-- A loop over a function inside a round of another one: that one is there. -/
def rdOK : Option Nat → Heap → Bool
  | none, _ => true
  | some l, h => match hget h l with
    | some (.loop ..) => true
    | _ => false
def evCode (rd : Option Nat) (N : Nat) : Code → Fr → Heap → Kont → (Ex → Kont) → Res
  | .skip, fr, h, K, _ => K fr h
  | .label _, fr, h, K, _ => K fr h
  | .region id ops draw, fr, h, K, _ => bif draw then (match assoc pol.plan id with
      | some plan => evPlan c C Y pol ops plan fr [] h K
      | none => none) else evOps c C Y pol ops ops.toList fr [] h K
  | .seq a b, fr, h, K, E => evCode rd N a fr h (fun fr h => evCode rd N b fr h K E) E
  | .cond x a b, fr, h, K, E => match rho c pol fr [] x with
    | .bool t => bif t then evCode rd N a fr h K E else evCode rd N b fr h K E
    | _ => none
  | .block id body, fr, h, K, E => evCode rd N body fr h K fun e => match e with
      | .ex i => bif i == id then K else E (.ex i)
      | e => E e
  | .loop b, fr, h, _, E => evLoop (fun fr h K' => evCode rd N b fr h K' E) N fr h
  | .exit id, fr, h, _, E => E (.ex id) fr h
  | .ret, fr, h, _, E => E .ret fr h
  | .rangeFunc f params assign body, fr, h, K, E => bif rdOK rd h then (match rho c pol fr [] f with
    | .fn (.func g) first caps => bif (c.fn g).isSome then (
      match C g (first ++ (.fn (.yield h.length) [] [] :: caps)) (.loop (forget pol.locs fr) params.toList assign body pol .ready none :: h) with
      | some (_, h') => match hget h' h.length with
        | some (.loop _ _ _ _ _ .ready none) => K fr (hset h' h.length .dead)
        | some (.loop _ _ _ _ _ .done (some e)) => E e fr (hset h' h.length .dead)
        | _ => none
      | none => none) else none
    | _ => none) else none
  | _, _, _, _, _ => none

def readRes (fr : Fr) (h : Heap) : ResultVar → Option DV
  | .tmp t => bif mem pol.locs t then none else some (fget fr t)
  | .cell a t => bif mem pol.locs a then (match fget fr a with
      | .agg cells => rdCells (c.ti t).agg (c.ti t).size cells 0
      | _ => none) else dLoad (c.ti t) (fget fr a) h
def results (rs : List ResultVar) (fr : Fr) (h : Heap) : Option DV :=
  match mapO (readRes c pol fr h) rs with
  | some [v] => some v
  | some vs => some (.tup vs)
  | none => none
end ev

def evBody (c : Ctx) (C Y : Nat → List DV → Heap → Res) (n : Nat) (fi : FI) (args : List DV) (h : Heap) : Res :=
  bif (fi.pol.locs.any fun t => Nat.blt t args.length) || (Nat.blt fi.ntmps args.length || !Nat.beq fi.pol.nt fi.ntmps) then none else
  let fin : Kont := fun fr h => (results c fi.pol fi.results fr h).map (·, h)
  evCode c C Y fi.pol none n fi.code (fill (full 8) 0 args) h fin fun e => match e with | .ret => fin | _ => fun _ _ => none

/-- A round of a loop over a function. -/
def evRound (c : Ctx) (C Y : Nat → List DV → Heap → Res) (n : Nat) (l : Nat) (args : List DV) (h : Heap) : Res :=
  match hget h l with
  | some (.loop fr params assign body pol .ready none) =>
    bif Nat.beq params.length args.length && params.all (fun t => !mem pol.locs t) then
      evCode c C Y pol (some l) n assign ((params.zip args).foldl (fun fr (t, a) => fset fr t a) (forget pol.locs fr)) h (fun fr1 h1 => match hget h1 l with
        | some (.loop fr' params' assign' body' pol' .ready none) =>
          evCode c C Y pol (some l) n body fr1 (hset h1 l (.loop fr' params' assign' body' pol' .busy none)) (fun _ h2 => match hget h2 l with
              | some (.loop fr2 params2 assign2 body2 pol2 .busy _) => some (.bool true, hset h2 l (.loop fr2 params2 assign2 body2 pol2 .ready none))
              | _ => none)
            fun e _ h2 => match hget h2 l with
              | some (.loop fr2 params2 assign2 body2 pol2 .busy _) => some (.bool false, hset h2 l (.loop fr2 params2 assign2 body2 pol2 .done (some e)))
              | _ => none
        | _ => none)
        (fun _ _ _ => none)
    else none
  | _ => none

/-- Calls, and rounds, by fuel. -/
def evAll (c : Ctx) : Nat → (Nat → List DV → Heap → Res) × (Nat → List DV → Heap → Res)
  | 0 => (fun _ _ _ => none, fun _ _ _ => none)
  | n + 1 =>
    (fun f args h => match c.ext f with
      | some e => (e args).map (·, h)
      | none => match c.fn f with
        | none => none
        | some fi => match fi.pol.mode with
          | .P => match mapO (deep h deepDepth) args with
            | none => none
            | some args' => match evBody c (evAll c n).1 (evAll c n).2 n fi args' [] with
              | none => none
              | some (v, h1) => match deep h1 deepDepth v with
                | none => none
                | some v' => some (v', (args.flatMap (reach h deepDepth)).foldl mark h)
          | .H => evBody c (evAll c n).1 (evAll c n).2 n fi args h,
     fun l args h => evRound c (evAll c n).1 (evAll c n).2 n l args h)
def evCall (c : Ctx) (n : Nat) : Nat → List DV → Heap → Res := (evAll c n).1
def evYield (c : Ctx) (n : Nat) : Nat → List DV → Heap → Res := (evAll c n).2
end Dv
end

section
set_option autoImplicit false
namespace Dv
open Go

/-! ### What is asked of the text of a function, and of its policy -/
inductive Cls where | P | L | A | X
  deriving DecidableEq, Inhabited
def isDst (o : Oper) (t : Nat) : Bool := match o.dst with
  | some d => Nat.beq d t
  | none => false
def isAssign (o : Oper) : Bool := match o.op with
  | .assign _ => true
  | _ => false
def cls (c : Ctx) (pol : Pol) (ops : Array Oper) (o : Oper) : Cls := match o.op with
  | .assign _ | .pick .. | .build .. | .binOp .. | .unOp .. | .field .. | .index .. | .extract .. | .slice .. | .makeInterface .. | .makeFunc .. => .P
  | .move x => match x with
    | .tmp t => bif mem pol.locs t || !(ops.toList.all fun q => !isDst q t || isAssign q) then .L else .P
    | _ => .P
  | .nilCheck _ | .fieldAddr .. | .indexAddr .. | .load .. | .lookup .. => .L
  | .convert _ b _ => match (c.ti b).kind with
    | .int _ => .L
    | .str => .L
    | _ => .X
  | .call k => match k.callee with
    | .builtin b => match b with
      | .max | .min | .len => .L
      | _ => .X
    | _ => .X
  | .alloc _ => match o.dst with
    | some d => bif mem pol.locs d && (o.after.isEmpty && o.guard.isNone) then .A else .X
    | none => .X
  | _ => .X
def dedup : List Nat → List Nat
  | [] => []
  | x :: r => bif mem r x then dedup r else x :: dedup r
/-- The operations ahead of each, through others. -/
def ancs : List Oper → List (List Nat) → List (List Nat)
  | [], acc => acc
  | o :: r, acc => ancs r (acc ++ [dedup ((o.after.toList.filter (Region.binds .any)).flatMap fun e => e.on :: acc.getD e.on [])])
def opTmps (ops : Array Oper) (o : Oper) : List Nat :=
  (match o.guard with | some (j, _) => (match (ops[j]?).bind (·.dst) with | some t => [t] | none => []) | none => []) ++ o.op.operands.toList.filterMap fun | .tmp t => some t | _ => none
def all2 {α : Type} (f : Nat → α → Bool) : Nat → List α → Bool
  | _, [] => true
  | i, x :: r => f i x && all2 f (i + 1) r
/-- An operation at its place in the plan, behind others. -/
def placeOK (c : Ctx) (pol : Pol) (ops : Array Oper) (an : List (List Nat)) (before : List Nat) (i : Nat) (rc : List Nat) : Bool := match ops[i]? with
  | none => false
  | some o =>
    !mem before i &&
    (o.after.toList.all fun e => !Region.binds .any e || mem before e.on) &&
    (before.all fun b => match ops[b]? with
      | none => false
      | some q =>
        (match cls c pol ops o with
         | .P => true
         | .L => (match cls c pol ops q with | .X => mem (an.getD i []) b | _ => true)
         | .A => (match cls c pol ops q with | .A => true | _ => false)
         | .X => (match cls c pol ops q with | .X => mem (an.getD i []) b | .L => mem (an.getD i []) b || mem rc b | _ => true)) &&
        (match o.dst with | some d => !isDst q d | none => true)) &&
    (all2 (fun j q => Nat.beq i j || (opTmps ops o).all fun t => !isDst q t || mem (an.getD i []) j || (mem (an.getD j []) i && !mem pol.locs t)) 0 ops.toList) &&
    ((opTmps ops o).all fun t => !isDst o t || !mem pol.locs t) &&
    (rc.all fun l => mem before l && match ops[l]? with
      | none => false
      | some q => (match cls c pol ops q with | .L => true | _ => false) && all2 (fun j q' => (opTmps ops q).all fun t => !isDst q' t || (!Nat.beq l j && mem (an.getD l []) j)) 0 ops.toList)
def placesOK (c : Ctx) (pol : Pol) (ops : Array Oper) (an : List (List Nat)) : List Nat → List (Nat × List Nat) → Bool
  | _, [] => true
  | before, (i, rc) :: r => placeOK c pol ops an before i rc && placesOK c pol ops an (i :: before) r
def planOK (c : Ctx) (pol : Pol) (ops : Array Oper) (plan : List (Nat × List Nat)) : Bool :=
  Nat.beq plan.length ops.size && (placesOK c pol ops (ancs ops.toList []) [] plan && (List.range ops.size).all fun i => mem (plan.map (·.1)) i)
/-- What is asked of an operation's text. -/
def opOK (pol : Pol) (nt : Nat) (o : Oper) : Bool :=
  (match o.dst with | some d => Nat.blt d nt && (!mem pol.locs d || (o.guard.isNone && match o.op with | .alloc _ | .box _ _ => true | _ => false)) | none => true) && o.op.operands.toList.all fun | .tmp t => Nat.blt t 256 | _ => true
def codeOK (c : Ctx) (pol : Pol) (nt : Nat) : Code → Bool
  | .skip | .label _ | .exit _ | .ret | .goto _ | .refuse _ => true
  | .region id ops draw => ops.toList.all (opOK pol nt) && (!draw || match assoc pol.plan id with
    | some plan => planOK c pol ops plan
    | none => true)
  | .seq a b => codeOK c pol nt a && codeOK c pol nt b
  | .cond _ a b => codeOK c pol nt a && codeOK c pol nt b
  | .block _ b => codeOK c pol nt b
  | .loop b => codeOK c pol nt b
  | .scope _ => true
  | .rangeFunc _ params assign body => codeOK c pol nt assign && codeOK c pol nt body && params.toList.all fun t => Nat.blt t nt
/-- A loop's record: its text was looked at. -/
def loopOK (c : Ctx) (pol : Pol) (params : List Nat) (assign body : Code) : Bool := Nat.ble pol.nt 256 && (codeOK c pol pol.nt assign && codeOK c pol pol.nt body && params.all fun t => Nat.blt t pol.nt)
def Good (c : Ctx) (h : Heap) : Prop := ∀ b fr ps as_ bd pol st pe, hget h b = some (.loop fr ps as_ bd pol st pe) → loopOK c pol ps as_ bd = true
end Dv
end

section
set_option autoImplicit false
namespace Dv
open Go

/-! ### What a value of the evaluator says of a value of the machine -/
structure Place where
  blk : Nat
  off : Nat
  fin : Nat
  sz : Nat
abbrev HP := Nat → Nat → Option Place
abbrev FM := Nat → Nat → Option Value
def noHP : HP := fun _ _ => none

inductive VR (fm : FM) : HP → DV → Value → Prop
  | unk {hp : HP} (v : Value) : VR fm hp .unk v
  | bool {hp : HP} (b : Bool) : VR fm hp (.bool b) (.bool b)
  | int {hp : HP} (k : IntKind) (n : Int) : VR fm hp (.int k n) (.int k n)
  | str {hp : HP} (s : ByteArray) : VR fm hp (.str s.data.toList) (.string s)
  | nil {hp : HP} : VR fm hp .nil (.pointer none)
  | ptr {hp : HP} {b off : Nat} {p : Place} (h : hp b 0 = some p) : VR fm hp (.ptr b off) (.pointer (some ⟨p.blk, p.off + off, none⟩))
  | dptr {hp : HP} {cells : List DV} {off : Nat} (R o : Nat) (vals : Nat → Value) (h1 : ∀ j, j < cells.length → fm R (o + j) = some (vals j))
      (h2 : ∀ j (hj : j < cells.length), VR fm noHP cells[j] (vals j)) : VR fm hp (.dptr cells off) (.pointer (some ⟨R, o + off, none⟩))
  | nsl {hp : HP} : VR fm hp .nsl (.slice none 0 0)
  | sl {hp : HP} {b v sz off len : Nat} {p : Place} (cap : Nat) (h : hp b v = some p) (hs : p.sz = sz) (hlen : len ≤ cap) (hfin : p.off + (off + cap) * sz = p.fin) :
      VR fm hp (.sl b v sz off len) (.slice (some ⟨p.blk, p.off + off * sz, none⟩) len cap)
  | sl0 {hp : HP} {b v sz off : Nat} {p : Place} (a : Addr) (h : hp b v = some p) (hs : p.sz = sz) : VR fm hp (.sl b v sz off 0) (.slice (some a) 0 0)
  | dsl {hp : HP} {sz : Nat} {es : List (List DV)} (R o cap : Nat) (vals : Nat → Nat → Value) (hsz : ∀ i (hi : i < es.length), es[i].length = sz) (hcap : es.length ≤ cap)
      (h1 : ∀ i j, i < es.length → j < sz → fm R (o + i * sz + j) = some (vals i j))
      (h2 : ∀ i (hi : i < es.length) j (hj : j < es[i].length), VR fm noHP es[i][j] (vals i j)) : VR fm hp (.dsl sz es) (.slice (some ⟨R, o, none⟩) es.length cap)
  | dsl0 {hp : HP} {sz : Nat} (a : Addr) (cap : Nat) : VR fm hp (.dsl sz []) (.slice (some a) 0 cap)
  | eptr {hp : HP} {b v i off : Nat} {p : Place} (h : hp b v = some p) : VR fm hp (.eptr b v i off) (.pointer (some ⟨p.blk, p.off + i * p.sz + off, none⟩))
  | fn {hp : HP} {g : Nat} {fs cs : List DV} (fa ca : Array Value) (hf : fa.size = fs.length) (hc : ca.size = cs.length)
      (h1 : ∀ j (hj : j < fs.length), VR fm hp fs[j] (fa.getD j undef)) (h2 : ∀ j (hj : j < cs.length), VR fm hp cs[j] (ca.getD j undef)) :
      VR fm hp (.fn (.func g) fs cs) (.func (.func g) fa ca)
  | yld {hp : HP} {l : Nat} {p : Place} (h : hp l 0 = some p) : VR fm hp (.fn (.yield l) [] []) (.func (.yield p.blk) #[] #[])
  | nilFn {hp : HP} : VR fm hp .nilFn .nilFunc
  | mp {hp : HP} {b : Nat} {p : Place} (h : hp b 0 = some p) : VR fm hp (.mp b) (.map (some p.blk))
  | nmp {hp : HP} : VR fm hp .nmp (.map none)
  | iface {hp : HP} {t : Nat} {d : DV} {v : Value} (h : VR fm hp d v) : VR fm hp (.iface t d) (.iface t v)
  | nilIface {hp : HP} : VR fm hp .nilIface .nilIface
  | agg {hp : HP} {cells : List DV} (cs : Array Value) (hs : cs.size = cells.length) (h : ∀ j (hj : j < cells.length), VR fm hp cells[j] (cs.getD j undef)) :
      VR fm hp (.agg cells) (.agg cs)
  | tup {hp : HP} {cells : List DV} (cs : Array Value) (hs : cs.size = cells.length) (h : ∀ j (hj : j < cells.length), VR fm hp cells[j] (cs.getD j undef)) :
      VR fm hp (.tup cells) (.tuple cs)

def FM.le (f g : FM) : Prop := ∀ R x v, f R x = some v → g R x = some v
def HP.le (f g : HP) : Prop := ∀ b v p, f b v = some p → g b v = some p
theorem FM.le.refl (f : FM) : f.le f := fun _ _ _ h => h
theorem HP.le.refl (f : HP) : f.le f := fun _ _ _ h => h
theorem FM.le.trans {f g k : FM} (h : f.le g) (h' : g.le k) : f.le k := fun _ _ _ e => h' _ _ _ (h _ _ _ e)
theorem HP.le.trans {f g k : HP} (h : f.le g) (h' : g.le k) : f.le k := fun _ _ _ e => h' _ _ _ (h _ _ _ e)
theorem noHP_le (g : HP) : noHP.le g := fun _ _ _ e => by cases e

theorem VR.mono {fm fm' : FM} (hf : fm.le fm') {hp : HP} {d : DV} {v : Value} (h : VR fm hp d v) : ∀ {hp' : HP}, hp.le hp' → VR fm' hp' d v := by
  induction h with
  | unk v => exact fun _ => .unk v
  | bool b => exact fun _ => .bool b
  | int k n => exact fun _ => .int k n
  | str s => exact fun _ => .str s
  | nil => exact fun _ => .nil
  | ptr h => exact fun hh => .ptr (hh _ _ _ h)
  | dptr R o vals h1 h2 ih => exact fun _ => .dptr R o vals (fun j hj => hf _ _ _ (h1 j hj)) (fun j hj => ih j hj (HP.le.refl _))
  | nsl => exact fun _ => .nsl
  | sl cap h hs hlen hfin => exact fun hh => .sl cap (hh _ _ _ h) hs hlen hfin
  | sl0 a h hs => exact fun hh => .sl0 a (hh _ _ _ h) hs
  | dsl R o cap vals hsz hcap h1 h2 ih => exact fun _ => .dsl R o cap vals hsz hcap (fun i j hi hj => hf _ _ _ (h1 i j hi hj)) (fun i hi j hj => ih i hi j hj (HP.le.refl _))
  | dsl0 a cap => exact fun _ => .dsl0 a cap
  | eptr h => exact fun hh => .eptr (hh _ _ _ h)
  | fn fa ca hf' hc h1 h2 ih1 ih2 => exact fun hh => .fn fa ca hf' hc (fun j hj => ih1 j hj hh) (fun j hj => ih2 j hj hh)
  | yld h => exact fun hh => .yld (hh _ _ _ h)
  | nilFn => exact fun _ => .nilFn
  | mp h => exact fun hh => .mp (hh _ _ _ h)
  | nmp => exact fun _ => .nmp
  | iface h ih => exact fun hh => .iface (ih hh)
  | nilIface => exact fun _ => .nilIface
  | agg cs hs h ih => exact fun hh => .agg cs hs (fun j hj => ih j hj hh)
  | tup cs hs h ih => exact fun hh => .tup cs hs (fun j hj => ih j hj hh)

structure Kn where
  fm : FM
  hp : HP
def Kn.le (K K' : Kn) : Prop := K.fm.le K'.fm ∧ K.hp.le K'.hp
theorem Kn.le.refl (K : Kn) : K.le K := ⟨FM.le.refl _, HP.le.refl _⟩
theorem Kn.le.trans {a b c : Kn} (h : a.le b) (h' : b.le c) : a.le c := ⟨h.1.trans h'.1, h.2.trans h'.2⟩
abbrev Kn.V (K : Kn) : DV → Value → Prop := VR K.fm K.hp
theorem Kn.V.mono {K K' : Kn} (h : K.le K') {d : DV} {v : Value} (hv : K.V d v) : K'.V d v := VR.mono h.1 hv h.2

/-- A list of values and an array, one by one. -/
def VsR (K : Kn) (ds : List DV) (vs : Array Value) : Prop := vs.size = ds.length ∧ ∀ j (hj : j < ds.length), K.V ds[j] (vs.getD j undef)
theorem VsR.mono {K K' : Kn} (h : K.le K') {ds : List DV} {vs : Array Value} (hv : VsR K ds vs) : VsR K' ds vs := ⟨hv.1, fun j hj => (hv.2 j hj).mono h⟩

/-! ### Heap and world -/
def curVer : DObj → Nat
  | .row _ _ v _ => v
  | _ => 0
def regOf (hp : HP) (b : Nat) : DObj → Option (Nat × Nat × Nat)
  | .obj _ false => (hp b 0).map fun p => (p.blk, p.off, p.fin)
  | .row _ _ v fz => (hp b v).map fun p => (p.blk, p.off + fz * p.sz, p.fin)
  | _ => none
/-- All that an object of cells has. -/
def extOf (hp : HP) (b : Nat) : DObj → Option (Nat × Nat × Nat)
  | .obj _ _ => (hp b 0).map fun p => (p.blk, p.off, p.fin)
  | .row _ _ v _ => (hp b v).map fun p => (p.blk, p.off, p.fin)
  | _ => none
def bare : DObj → Bool
  | .mapo _ | .loop .. => true
  | _ => false
def cellAt (w : World) (R x : Nat) : Option Value := w.cell? ⟨R, x, none⟩
def Host (K : Kn) (h : Heap) (R : Nat) : Prop := ∃ b o p, hget h b = some o ∧ K.hp b (curVer o) = some p ∧ p.blk = R
def InReg (K : Kn) (h : Heap) (R x : Nat) : Prop := ∃ b o lo hi, hget h b = some o ∧ regOf K.hp b o = some (R, lo, hi) ∧ lo ≤ x ∧ x < hi
/-- A frame's temporaries, but for locals. -/
def TmpsR (K : Kn) (fr : Fr) (tmps : Array Value) : Prop := ∀ t, t < 256 → K.V (fget fr t) (tmps.getD t undef)
structure LoopR (K : Kn) (w : World) (fr : Fr) (params : List Nat) (assign body : Code) (st : LSt) (pending : Option Ex) (r : Loop) : Prop where
  tmps : TmpsR K fr r.tmps
  params : r.params.toList = params
  assign : r.assign = assign
  body : r.body = body
  state : r.state = match st with | .ready => .ready | .busy => .busy | .done => .done
  pending : r.pending = pending.map fun | .ret => .ret | .ex id => .exit id | .go l => .goto l
  size : r.tmps.size ≤ 256
def ObjR (K : Kn) (w : World) (b : Nat) : DObj → Prop
  | .dead => True
  | .obj cells _ => ∀ p, K.hp b 0 = some p → p.fin = p.off + cells.length ∧ ∀ j (hj : j < cells.length), ∃ v, cellAt w p.blk (p.off + j) = some v ∧ K.V cells[j] v ∧ v.oneCell' = true
  | .row sz es ver _ => ∀ p, K.hp b ver = some p → p.sz = sz ∧ 1 ≤ sz ∧ p.off + es.length * sz ≤ p.fin ∧ (∀ i (hi : i < es.length), es[i].length = sz) ∧
      ∀ i (hi : i < es.length) j (hj : j < es[i].length), ∃ v, cellAt w p.blk (p.off + i * sz + j) = some v ∧ K.V es[i][j] v ∧ v.oneCell' = true
  | .mapo es => ∀ p, K.hp b 0 = some p → ∃ ents clock, w.heap[p.blk]? = some (.map ents clock) ∧ ents.size = es.length ∧
      ∀ j (hj : j < es.length), K.V es[j].1 (ents.getD j default).key ∧ K.V es[j].2 (ents.getD j default).val
  | .loop fr params assign body pol st pending => ∀ p, K.hp b 0 = some p → ∃ r, w.heap[p.blk]? = some (.loop r) ∧ LoopR K w fr params assign body st pending r ∧ r.tmps.size = pol.nt
/-- No cell of the block is frozen, but perhaps one behind its end. -/
def FzOK (n : Nat) (f : Nat × Nat) : Prop := f.1 = f.2 ∨ n ≤ f.1
structure HR (base : Nat) (K : Kn) (h : Heap) (w : World) : Prop where
  bsz : base ≤ w.heap.size
  fm : ∀ R x v, K.fm R x = some v → cellAt w R x = some v
  fmone : ∀ R x v, K.fm R x = some v → v.oneCell' = true
  dom : ∀ b v p, K.hp b v = some p → b < h.length
  obj : ∀ b o, hget h b = some o → ObjR K w b o
  host : ∀ b o p, hget h b = some o → K.hp b (curVer o) = some p → base ≤ p.blk ∧ p.blk < w.heap.size
  reg : ∀ b o R lo hi, hget h b = some o → regOf K.hp b o = some (R, lo, hi) →
    (∃ c t f, w.heap[R]? = some (.cells c t f) ∧ hi ≤ c.size ∧ FzOK c.size f) ∧ ∀ x, lo ≤ x → x < hi → w.frozen? ⟨R, x, none⟩ = false ∧ K.fm R x = none
  dis : ∀ b b' o o' R lo hi lo' hi', b ≠ b' → hget h b = some o → hget h b' = some o' → extOf K.hp b o = some (R, lo, hi) → extOf K.hp b' o' = some (R, lo', hi') → hi ≤ lo' ∨ hi' ≤ lo
  mobj : ∀ b b' o o' p p', b ≠ b' → hget h b = some o → hget h b' = some o' → bare o = true → bare o' = true → K.hp b 0 = some p → K.hp b' 0 = some p' → p.blk ≠ p'.blk
  ver : ∀ b o v p, hget h b = some o → K.hp b v = some p → v ≤ curVer o

/-- What a run may do: only its own. -/
structure FP (K : Kn) (h : Heap) (w : World) (K' : Kn) (h' : Heap) (w' : World) : Prop where
  os : w'.os = w.os
  tape : w'.tape = w.tape
  output : w'.output = w.output
  size : w.heap.size ≤ w'.heap.size
  kle : K.le K'
  len : h.length ≤ h'.length
  fmnew : ∀ R x v, K'.fm R x = some v → K.fm R x = none → w.heap.size ≤ R ∨ Host K h R
  hostnew : ∀ R, Host K' h' R → w.heap.size ≤ R ∨ Host K h R
  regnew : ∀ R x, InReg K' h' R x → w.heap.size ≤ R ∨ InReg K h R x
  blk : ∀ R, R < w.heap.size → ¬ Host K h R → w'.heap[R]? = w.heap[R]?
  cel : ∀ R x, R < w.heap.size → ¬ InReg K h R x → cellAt w' R x = cellAt w R x
  ghost : ∀ b, b < h.length → (∀ v, K.hp b v = none) → hget h' b = hget h b ∧ ∀ v, K'.hp b v = none

theorem FP.refl (K : Kn) (h : Heap) (w : World) : FP K h w K h w :=
  ⟨rfl, rfl, rfl, Nat.le_refl _, Kn.le.refl K, Nat.le_refl _, fun R x v h1 h2 => (by rw [h2] at h1; cases h1), fun _ h => .inr h, fun _ _ h => .inr h, fun _ _ _ => rfl, fun _ _ _ _ => rfl, fun _ _ hn => ⟨rfl, hn⟩⟩
theorem FP.trans {K0 K1 K2 : Kn} {h0 h1 h2 : Heap} {w0 w1 w2 : World} (a : FP K0 h0 w0 K1 h1 w1) (b : FP K1 h1 w1 K2 h2 w2) : FP K0 h0 w0 K2 h2 w2 := by
  refine ⟨b.os.trans a.os, b.tape.trans a.tape, b.output.trans a.output, Nat.le_trans a.size b.size, a.kle.trans b.kle, Nat.le_trans a.len b.len, ?_, ?_, ?_, ?_, ?_, ?_⟩
  · intro R x v h2 h0
    cases h1 : K1.fm R x with
    | some u => exact a.fmnew R x u h1 h0
    | none => exact (b.fmnew R x v h2 h1).elim (fun h => .inl (Nat.le_trans a.size h)) (a.hostnew R)
  · exact fun R h => (b.hostnew R h).elim (fun h => .inl (Nat.le_trans a.size h)) (a.hostnew R)
  · exact fun R x h => (b.regnew R x h).elim (fun h => .inl (Nat.le_trans a.size h)) (a.regnew R x)
  · intro R hR hn
    rw [b.blk R (Nat.lt_of_lt_of_le hR a.size) (fun h => (a.hostnew R h).elim (fun h => absurd hR (Nat.not_lt.2 h)) hn), a.blk R hR hn]
  · intro R x hR hn
    rw [b.cel R x (Nat.lt_of_lt_of_le hR a.size) (fun h => (a.regnew R x h).elim (fun h => absurd hR (Nat.not_lt.2 h)) hn), a.cel R x hR hn]
  · intro i hi hn
    obtain ⟨e1, n1⟩ := a.ghost i hi hn
    obtain ⟨e2, n2⟩ := b.ghost i (Nat.lt_of_lt_of_le hi a.len) n1
    exact ⟨e2.trans e1, n2⟩

/-! ### The heap's own laws -/
theorem hget_lt {h : Heap} {b : Nat} {o : DObj} (e : hget h b = some o) : b < h.length := by
  induction h with
  | nil => cases e
  | cons x h ih =>
    simp only [hget] at e
    split at e
    · simp; omega
    · have := ih e; simp; omega
theorem hget_none {h : Heap} {b : Nat} (hb : h.length ≤ b) : hget h b = none := by
  induction h with
  | nil => rfl
  | cons x h ih => simp only [hget]; simp at hb; rw [if_neg (by omega)]; exact ih (by omega)
theorem hget_new (o : DObj) (h : Heap) : hget (o :: h) h.length = some o := by simp [hget]
theorem hget_old {o : DObj} {h : Heap} {b : Nat} (hb : b ≠ h.length) : hget (o :: h) b = hget h b := by simp [hget, hb]
theorem hset_length (h : Heap) (b : Nat) (x : DObj) : (hset h b x).length = h.length := by
  induction h with
  | nil => rfl
  | cons o h ih => simp only [hset]; split <;> simp [ih]
theorem hget_hset_same {h : Heap} {b : Nat} {x : DObj} (hb : b < h.length) : hget (hset h b x) b = some x := by
  induction h with
  | nil => simp at hb
  | cons o h ih =>
    simp only [hset]
    split
    · rename_i e; subst e; simp [hget]
    · rename_i e; simp at hb; simp only [hget, hset_length]; rw [if_neg e]; exact ih (by omega)
theorem hget_hset_ne {h : Heap} {b b' : Nat} {x : DObj} (hb : b' ≠ b) : hget (hset h b x) b' = hget h b' := by
  induction h with
  | nil => rfl
  | cons o h ih =>
    simp only [hset]
    split
    · rename_i e; subst e; simp [hget, hb]
    · simp only [hget, hset_length]; split
      · rfl
      · exact ih

/-! ### Frames -/
theorem beq0 (a : Nat) : Nat.beq a 0 = decide (a = 0) := by cases a <;> rfl
theorem mod_pow_succ (a b d : Nat) : (a % 2 ^ (d + 1) = b % 2 ^ (d + 1)) ↔ (a % 2 = b % 2 ∧ a / 2 % 2 ^ d = b / 2 % 2 ^ d) := by
  have e : 2 ^ (d + 1) = 2 * 2 ^ d := by rw [Nat.pow_succ, Nat.mul_comm]
  rw [e, Nat.mod_mul, Nat.mod_mul]
  have h1 : a % 2 < 2 := Nat.mod_lt _ (by omega)
  have h2 : b % 2 < 2 := Nat.mod_lt _ (by omega)
  omega
theorem fgetD_e (d n : Nat) : fgetD d .e n = .unk := by cases d <;> rfl
theorem fgetD_step (d : Nat) (l r : Fr) (m : Nat) : fgetD (d + 1) (.nd l r) m = if m % 2 = 0 then fgetD d l (m / 2) else fgetD d r (m / 2) := by
  simp only [fgetD, beq0]; by_cases h : m % 2 = 0 <;> simp [h]
theorem fsetD_step (d : Nat) (l r : Fr) (n : Nat) (v : DV) : fsetD (d + 1) (.nd l r) n v = if n % 2 = 0 then .nd (fsetD d l (n / 2) v) r else .nd l (fsetD d r (n / 2) v) := by
  simp only [fsetD, beq0]; by_cases h : n % 2 = 0 <;> simp [h]
theorem fgetD_big (d : Nat) : ∀ (fr : Fr) (m : Nat), 2 ^ d ≤ m → fgetD d fr m = .unk := by
  induction d with
  | zero =>
    intro fr m h
    cases fr with
    | lf v =>
      simp only [fgetD, beq0]
      have : m ≠ 0 := by simp at h; omega
      simp [this]
    | _ => rfl
  | succ d ih =>
    intro fr m h
    cases fr with
    | nd l r =>
      rw [fgetD_step]
      have : 2 ^ d ≤ m / 2 := by rw [Nat.pow_succ] at h; omega
      split <;> exact ih _ _ this
    | _ => rfl
theorem fgetD_fsetD_nd (d : Nat) (ih : ∀ (fr : Fr) (n m : Nat) (v : DV), n < 2 ^ d → m < 2 ^ d → fgetD d (fsetD d fr n v) m = if n = m then v else fgetD d fr m) (l r : Fr) (n m : Nat) (v : DV) (hn' : n < 2 ^ (d + 1)) (hm' : m < 2 ^ (d + 1)) :
    fgetD (d + 1) (fsetD (d + 1) (.nd l r) n v) m = if n = m then v else fgetD (d + 1) (.nd l r) m := by
  have h1 : n / 2 < 2 ^ d := by rw [Nat.pow_succ] at hn'; omega
  have h2 : m / 2 < 2 ^ d := by rw [Nat.pow_succ] at hm'; omega
  simp only [fsetD_step]
  by_cases hn : n % 2 = 0
  · rw [if_pos hn, fgetD_step, fgetD_step]
    by_cases hm : m % 2 = 0
    · rw [if_pos hm, if_pos hm, ih _ _ _ _ h1 h2]
      by_cases he : n = m
      · subst he; simp
      · rw [if_neg he, if_neg (by omega)]
    · rw [if_neg hm, if_neg hm, if_neg (by omega)]
  · rw [if_neg hn, fgetD_step, fgetD_step]
    by_cases hm : m % 2 = 0
    · rw [if_pos hm, if_pos hm, if_neg (by omega)]
    · rw [if_neg hm, if_neg hm, ih _ _ _ _ h1 h2]
      by_cases he : n = m
      · subst he; simp
      · rw [if_neg he, if_neg (by omega)]
theorem fsetD_e (d n : Nat) (v : DV) (fr : Fr) (h : ∀ l r, fr ≠ .nd l r) : fsetD (d + 1) fr n v = fsetD (d + 1) (.nd .e .e) n v := by
  cases fr with
  | nd l r => exact absurd rfl (h l r)
  | e => simp only [fsetD]
  | lf u => simp only [fsetD]
theorem fgetD_no (d n : Nat) (fr : Fr) (h : ∀ l r, fr ≠ .nd l r) : fgetD (d + 1) fr n = .unk := by
  cases fr with
  | nd l r => exact absurd rfl (h l r)
  | e => rfl
  | lf u => rfl
theorem fgetD_fsetD (d : Nat) : ∀ (fr : Fr) (n m : Nat) (v : DV), n < 2 ^ d → m < 2 ^ d → fgetD d (fsetD d fr n v) m = if n = m then v else fgetD d fr m := by
  induction d with
  | zero => intro fr n m v h1 h2; simp at h1 h2; subst h1; subst h2; simp [fsetD, fgetD, beq0]
  | succ d ih =>
    intro fr n m v h1 h2
    by_cases h : ∃ l r, fr = .nd l r
    · obtain ⟨l, r, rfl⟩ := h
      exact fgetD_fsetD_nd d ih l r n m v h1 h2
    · have h' : ∀ l r, fr ≠ .nd l r := fun l r e => h ⟨l, r, e⟩
      rw [fsetD_e d n v fr h', fgetD_fsetD_nd d ih .e .e n m v h1 h2, fgetD_no d m fr h', fgetD_step, fgetD_e]
      simp
theorem fget_big (fr : Fr) (n : Nat) (h : 256 ≤ n) : fget fr n = .unk := fgetD_big 8 fr n h
theorem fget_fset_same (fr : Fr) (n : Nat) (v : DV) (hn : n < 256) : fget (fset fr n v) n = v := by
  have := fgetD_fsetD 8 fr n n v hn hn
  simpa [fget, fset] using this
theorem fget_fset_ne {fr : Fr} {n m : Nat} {v : DV} (hn : n < 256) (h : n ≠ m) : fget (fset fr n v) m = fget fr m := by
  by_cases hm : m < 256
  · have := fgetD_fsetD 8 fr n m v hn hm
    rw [if_neg h] at this
    exact this
  · rw [fget_big _ m (by omega), fget_big _ m (by omega)]
end Dv
end

section
set_option autoImplicit false
namespace Dv
open Go

theorem idx_lt {i n sz j : Nat} (hi : i < n) (hj : j < sz) : i * sz + j < n * sz := by
  have : (i + 1) * sz ≤ n * sz := Nat.mul_le_mul_right _ hi
  rw [Nat.add_mul] at this
  omega
theorem cellAt_congr {w w' : World} {R : Nat} (h : w'.heap[R]? = w.heap[R]?) (x : Nat) : cellAt w' R x = cellAt w R x := by
  simp only [cellAt, World.cell?, h]
theorem frozen_congr {w w' : World} {R : Nat} (h : w'.heap[R]? = w.heap[R]?) (x : Nat) : w'.frozen? ⟨R, x, none⟩ = w.frozen? ⟨R, x, none⟩ := by
  simp only [World.frozen?, h]
theorem cellAt_lt {w : World} {R x : Nat} {v : Value} (h : cellAt w R x = some v) : R < w.heap.size := World.block_lt_of_cell? w ⟨R, x, none⟩ h
theorem LoopR.mono {K K' : Kn} (hk : K.le K') {w w' : World} {fr : Fr} {params : List Nat} {assign body : Code} {st : LSt} {pending : Option Ex} {r : Loop}
    (h : LoopR K w fr params assign body st pending r) : LoopR K' w' fr params assign body st pending r :=
  ⟨fun t ht => (h.tmps t ht).mono hk, h.params, h.assign, h.body, h.state, h.pending, h.size⟩

theorem ObjR.keep {K K' : Kn} {w w' : World} {b : Nat} {o : DObj} (h : ObjR K w b o) (kle : K.le K') (hp : K'.hp b (curVer o) = K.hp b (curVer o))
    (hc : ∀ R lo hi, extOf K.hp b o = some (R, lo, hi) → ∀ x, lo ≤ x → x < hi → cellAt w' R x = cellAt w R x)
    (ho : bare o = true → ∀ p, K.hp b 0 = some p → w'.heap[p.blk]? = w.heap[p.blk]?) : ObjR K' w' b o := by
  cases o with
  | dead => trivial
  | loop fr params assign body pol st pending =>
    intro p e
    have e' : K.hp b 0 = some p := by simpa [curVer] using hp ▸ e
    obtain ⟨r, hr, hl⟩ := h p e'
    exact ⟨r, (ho rfl p e').trans hr, hl.1.mono kle, hl.2⟩
  | obj cells fr =>
    intro p e
    have e' : K.hp b 0 = some p := by simpa [curVer] using hp ▸ e
    obtain ⟨h1, h2⟩ := h p e'
    refine ⟨h1, fun j hj => ?_⟩
    obtain ⟨v, hv, hr⟩ := h2 j hj
    exact ⟨v, (hc p.blk p.off p.fin (by simp [extOf, e']) _ (by omega) (by omega)).trans hv, hr.1.mono kle, hr.2⟩
  | row sz es ver fz =>
    intro p e
    have e' : K.hp b ver = some p := by simpa [curVer] using hp ▸ e
    obtain ⟨h1, h2, h3, h4, h5⟩ := h p e'
    refine ⟨h1, h2, h3, h4, fun i hi j hj => ?_⟩
    obtain ⟨v, hv, hr⟩ := h5 i hi j hj
    have hlt := idx_lt hi (show j < sz by rw [← h4 i hi]; exact hj)
    exact ⟨v, (hc p.blk p.off p.fin (by simp [extOf, e']) _ (by omega) (by omega)).trans hv, hr.1.mono kle, hr.2⟩
  | mapo es =>
    intro p e
    have e' : K.hp b 0 = some p := by simpa [curVer] using hp ▸ e
    obtain ⟨ents, clock, h1, h2, h3⟩ := h p e'
    exact ⟨ents, clock, (ho rfl p e').trans h1, h2, fun j hj => ⟨(h3 j hj).1.mono kle, (h3 j hj).2.mono kle⟩⟩

theorem regOf_ext {hp : HP} {b : Nat} {o : DObj} {R lo hi : Nat} (h : regOf hp b o = some (R, lo, hi)) : ∃ lo', extOf hp b o = some (R, lo', hi) ∧ lo' ≤ lo := by
  cases o with
  | obj cells fr =>
    cases fr with
    | true => simp [regOf] at h
    | false => exact ⟨lo, h, Nat.le_refl _⟩
  | row sz es ver fz =>
    simp only [regOf, Option.map_eq_some_iff] at h
    obtain ⟨p, hp', e⟩ := h
    simp only [Prod.mk.injEq] at e
    exact ⟨p.off, by simp [extOf, hp', e.1, e.2.2], by omega⟩
  | _ => simp [regOf] at h
theorem extOf_hp {hp : HP} {b : Nat} {o : DObj} {R lo hi : Nat} (h : extOf hp b o = some (R, lo, hi)) : ∃ p, hp b (curVer o) = some p ∧ p.blk = R ∧ p.off = lo ∧ p.fin = hi := by
  cases o with
  | obj cells fr =>
    simp only [extOf, Option.map_eq_some_iff] at h
    obtain ⟨p, hp', e⟩ := h
    simp only [Prod.mk.injEq] at e
    exact ⟨p, hp', e⟩
  | row sz es ver fz =>
    simp only [extOf, Option.map_eq_some_iff] at h
    obtain ⟨p, hp', e⟩ := h
    simp only [Prod.mk.injEq] at e
    exact ⟨p, hp', e⟩
  | _ => simp [extOf] at h
theorem regOf_hp {hp : HP} {b : Nat} {o : DObj} {R lo hi : Nat} (h : regOf hp b o = some (R, lo, hi)) : ∃ p, hp b (curVer o) = some p ∧ p.blk = R ∧ p.fin = hi := by
  obtain ⟨lo', he, _⟩ := regOf_ext h
  obtain ⟨p, h1, h2, _, h4⟩ := extOf_hp he
  exact ⟨p, h1, h2, h4⟩
theorem regOf_eq {hp hp' : HP} {b : Nat} {o : DObj} (h : hp' b (curVer o) = hp b (curVer o)) : regOf hp' b o = regOf hp b o := by
  cases o with
  | obj cells fr => cases fr <;> simp_all [regOf, curVer]
  | _ => simp_all [regOf, curVer]
theorem extOf_eq {hp hp' : HP} {b : Nat} {o : DObj} (h : hp' b (curVer o) = hp b (curVer o)) : extOf hp' b o = extOf hp b o := by
  cases o <;> simp_all [extOf, curVer]

/-! ### Memory as it was, some orders drawn -/
structure SameMem (w w' : World) : Prop where
  os : w'.os = w.os
  tape : w'.tape = w.tape
  output : w'.output = w.output
  heap : w'.heap = w.heap
theorem SameMem.refl (w : World) : SameMem w w := ⟨rfl, rfl, rfl, rfl⟩
theorem HR.same {base : Nat} {K : Kn} {h : Heap} {w w' : World} (H : HR base K h w) (s : SameMem w w') : HR base K h w' := by
  have hc : ∀ R x, cellAt w' R x = cellAt w R x := fun R x => cellAt_congr (by rw [s.heap]) x
  refine ⟨by rw [s.heap]; exact H.bsz, fun R x v e => (hc R x).trans (H.fm R x v e), H.fmone, H.dom, fun b o e => (H.obj b o e).keep (Kn.le.refl K) rfl (fun R _ _ _ x _ _ => hc R x) (fun _ p _ => by rw [s.heap]), ?_, ?_, H.dis, H.mobj, H.ver⟩
  · intro b o p e1 e2; rw [s.heap]; exact H.host b o p e1 e2
  · intro b o R lo hi e1 e2
    obtain ⟨h1, h2⟩ := H.reg b o R lo hi e1 e2
    exact ⟨by rw [s.heap]; exact h1, fun x a b => ⟨(frozen_congr (by rw [s.heap]) x).trans (h2 x a b).1, (h2 x a b).2⟩⟩
theorem FP.same {K : Kn} {h : Heap} {w w' : World} (s : SameMem w w') : FP K h w K h w' :=
  ⟨s.os, s.tape, s.output, by rw [s.heap]; exact Nat.le_refl _, Kn.le.refl K, Nat.le_refl _, fun R x v h1 h2 => (by rw [h2] at h1; cases h1), fun _ h => .inr h, fun _ _ h => .inr h,
    fun R _ _ => by rw [s.heap], fun R x _ _ => cellAt_congr (by rw [s.heap]) x, fun _ _ hn => ⟨rfl, hn⟩⟩

/-! ### A new block -/
structure NewBlk (w w' : World) (c : Array Value) (t : TypeId) : Prop where
  os : w'.os = w.os
  tape : w'.tape = w.tape
  output : w'.output = w.output
  size : w'.heap.size = w.heap.size + 1
  old : ∀ R, R < w.heap.size → w'.heap[R]? = w.heap[R]?
  new : ∃ f, w'.heap[w.heap.size]? = some (.cells c t f) ∧ FzOK c.size f
  free : ∀ x, x < c.size → w'.frozen? ⟨w.heap.size, x, none⟩ = false
theorem NewBlk.alloc (w : World) (c : Array Value) (t : TypeId) : NewBlk w (w.alloc (.cells c t)) c t :=
  ⟨rfl, rfl, rfl, by simp, fun R hR => (by show (w.heap.push _)[R]? = _; rw [Array.getElem?_push, if_neg (Nat.ne_of_lt hR)]), ⟨(0, 0), (by show (w.heap.push _)[w.heap.size]? = _; rw [Array.getElem?_push, if_pos rfl]), .inl rfl⟩, fun x _ => by simp⟩
theorem NewBlk.cell {w w' : World} {c : Array Value} {t : TypeId} (n : NewBlk w w' c t) (x : Nat) : cellAt w' w.heap.size x = c[x]? := by
  obtain ⟨f, e, _⟩ := n.new
  simp [cellAt, World.cell?, e]

def newHP (hp : HP) (b : Nat) (v : Nat) (p : Place) : HP := fun b' v' => if b' = b ∧ v' = v then some p else hp b' v'
theorem newHP_same (hp : HP) (b v : Nat) (p : Place) : newHP hp b v p b v = some p := by simp [newHP]
theorem newHP_ne {hp : HP} {b v : Nat} {p : Place} {b' v' : Nat} (h : ¬(b' = b ∧ v' = v)) : newHP hp b v p b' v' = hp b' v' := by simp [newHP, h]
theorem newHP_le {hp : HP} {b v : Nat} {p : Place} (h : hp b v = none) : hp.le (newHP hp b v p) := fun b' v' q e => by
  rw [newHP_ne]
  · exact e
  · rintro ⟨rfl, rfl⟩; rw [h] at e; cases e

/-- An object of its own in a new block. -/
theorem alloc_ok {base : Nat} {K : Kn} {h : Heap} {w w' : World} (H : HR base K h w) {c : Array Value} {t : TypeId} (nb : NewBlk w w' c t) (o : DObj) (p : Place)
    (hv : curVer o = 0) (hb : p.blk = w.heap.size) (hbare : bare o = false) (hfin : p.fin ≤ c.size)
    (ho : ∀ K' : Kn, K.le K' → K'.hp h.length 0 = some p → (∀ q, K'.hp h.length 0 = some q → q = p) → ObjR K' w' h.length o) :
    HR base ⟨K.fm, newHP K.hp h.length 0 p⟩ (o :: h) w' ∧ FP K h w ⟨K.fm, newHP K.hp h.length 0 p⟩ (o :: h) w' := by
  have hnone : ∀ v, K.hp h.length v = none := fun v => by
    cases e : K.hp h.length v with
    | none => rfl
    | some q => exact absurd (H.dom _ _ _ e) (Nat.lt_irrefl _)
  have hle : K.le ⟨K.fm, newHP K.hp h.length 0 p⟩ := ⟨FM.le.refl _, newHP_le (hnone 0)⟩
  have hold : ∀ b v, b ≠ h.length → newHP K.hp h.length 0 p b v = K.hp b v := fun b v hb => newHP_ne fun e => hb e.1
  have hself : newHP K.hp h.length 0 p h.length (curVer o) = some p := by rw [hv]; exact newHP_same ..
  have cold : ∀ R x, R < w.heap.size → cellAt w' R x = cellAt w R x := fun R x hR => cellAt_congr (nb.old R hR) x
  have extlt : ∀ b o' R lo hi, hget h b = some o' → extOf K.hp b o' = some (R, lo, hi) → R < w.heap.size := fun b o' R lo hi e1 e2 => by
    obtain ⟨q, h1, h2, _⟩ := extOf_hp e2
    exact h2 ▸ (H.host b o' q e1 h1).2
  have cases_get : ∀ b o', hget (o :: h) b = some o' → (b = h.length ∧ o' = o) ∨ (b ≠ h.length ∧ hget h b = some o') := fun b o' e => by
    by_cases hbl : b = h.length
    · subst hbl; rw [hget_new] at e; cases e; exact .inl ⟨rfl, rfl⟩
    · rw [hget_old hbl] at e; exact .inr ⟨hbl, e⟩
  have extnew : ∀ R lo hi, extOf (newHP K.hp h.length 0 p) h.length o = some (R, lo, hi) → R = w.heap.size ∧ hi ≤ c.size := fun R lo hi e => by
    obtain ⟨q, h1, h2, _, h4⟩ := extOf_hp e
    rw [hself] at h1; cases h1
    exact ⟨h2.symm.trans hb, h4 ▸ hfin⟩
  refine ⟨⟨by rw [nb.size]; have := H.bsz; omega, fun R x v e => ?_, H.fmone, ?_, ?_, ?_, ?_, ?_, ?_, ?_⟩, ⟨nb.os, nb.tape, nb.output, by rw [nb.size]; omega, hle, by simp, fun R x v h1 h2 => (by rw [h2] at h1; cases h1), ?_, ?_, fun R hR _ => nb.old R hR, fun R x hR _ => cold R x hR, ?_⟩⟩
  · have e' := H.fm R x v e
    exact (cold R x (cellAt_lt e')).trans e'
  · intro b v q e
    by_cases hbl : b = h.length
    · subst hbl; simp
    · have e : newHP K.hp h.length 0 p b v = some q := e
      rw [hold b v hbl] at e; have := H.dom _ _ _ e; simp; omega
  · intro b o' e
    rcases cases_get b o' e with ⟨rfl, rfl⟩ | ⟨hbl, e⟩
    · exact ho _ hle (newHP_same ..) (fun q eq => (Option.some.inj ((newHP_same K.hp h.length 0 p).symm.trans eq)).symm)
    · refine (H.obj b o' e).keep hle (hold b _ hbl) (fun R lo hi he x _ _ => cold R x (extlt b o' R lo hi e he)) (fun hbr q eq => nb.old _ ?_)
      refine (H.host b o' q e ?_).2
      cases o' <;> simp_all [bare, curVer]
  · intro b o' q e e2
    rcases cases_get b o' e with ⟨rfl, rfl⟩ | ⟨hbl, e⟩
    · have e2 : newHP K.hp h.length 0 p h.length (curVer o') = some q := e2
      rw [hself] at e2; cases e2
      rw [hb, nb.size]; have := H.bsz; omega
    · have e2 : newHP K.hp h.length 0 p b (curVer o') = some q := e2
      rw [hold b _ hbl] at e2
      have := H.host b o' q e e2
      rw [nb.size]; omega
  · intro b o' R lo hi e e2
    rcases cases_get b o' e with ⟨rfl, rfl⟩ | ⟨hbl, e⟩
    · obtain ⟨lo', he, _⟩ := regOf_ext e2
      obtain ⟨rfl, hh⟩ := extnew R lo' hi he
      obtain ⟨f, hf, hfz⟩ := nb.new
      refine ⟨⟨c, t, f, hf, hh, hfz⟩, fun x h1 h2 => ⟨nb.free x (by omega), ?_⟩⟩
      cases e3 : K.fm w.heap.size x with
      | none => rfl
      | some u => exact absurd (cellAt_lt (H.fm _ _ _ e3)) (Nat.lt_irrefl _)
    · have e2 : regOf (newHP K.hp h.length 0 p) b o' = some (R, lo, hi) := e2
      rw [regOf_eq (hold b _ hbl)] at e2
      obtain ⟨⟨c', t', f', h1, h2⟩, h3⟩ := H.reg b o' R lo hi e e2
      have hR : R < w.heap.size := (Array.getElem?_eq_some_iff.1 h1).1
      exact ⟨⟨c', t', f', (nb.old R hR).trans h1, h2⟩, fun x a b => ⟨(frozen_congr (nb.old R hR) x).trans (h3 x a b).1, (h3 x a b).2⟩⟩
  · intro b b' o1 o2 R lo hi lo' hi' hne e1 e2 x1 x2
    have x1 : extOf (newHP K.hp h.length 0 p) b o1 = some (R, lo, hi) := x1
    have x2 : extOf (newHP K.hp h.length 0 p) b' o2 = some (R, lo', hi') := x2
    rcases cases_get b o1 e1 with ⟨rfl, rfl⟩ | ⟨hbl, f1⟩
    · rcases cases_get b' o2 e2 with ⟨rfl, rfl⟩ | ⟨hbl', f2⟩
      · exact absurd rfl hne
      · rw [extOf_eq (hold b' _ hbl')] at x2
        have := extlt _ _ _ _ _ f2 x2
        have := (extnew _ _ _ x1).1
        omega
    · rw [extOf_eq (hold b _ hbl)] at x1
      rcases cases_get b' o2 e2 with ⟨rfl, rfl⟩ | ⟨hbl', f2⟩
      · have := extlt _ _ _ _ _ f1 x1
        have := (extnew _ _ _ x2).1
        omega
      · rw [extOf_eq (hold b' _ hbl')] at x2
        exact H.dis b b' o1 o2 R lo hi lo' hi' hne f1 f2 x1 x2
  · intro b b' o1 o2 p1 p2 hne e1 e2 b1 b2 q1 q2
    have q1 : newHP K.hp h.length 0 p b 0 = some p1 := q1
    have q2 : newHP K.hp h.length 0 p b' 0 = some p2 := q2
    rcases cases_get b o1 e1 with ⟨rfl, rfl⟩ | ⟨hbl, f1⟩
    · rw [hbare] at b1; cases b1
    · rcases cases_get b' o2 e2 with ⟨rfl, rfl⟩ | ⟨hbl', f2⟩
      · rw [hbare] at b2; cases b2
      · rw [hold b 0 hbl] at q1; rw [hold b' 0 hbl'] at q2
        exact H.mobj b b' o1 o2 p1 p2 hne f1 f2 b1 b2 q1 q2
  · intro b o' v q e e2
    have e2 : newHP K.hp h.length 0 p b v = some q := e2
    rcases cases_get b o' e with ⟨rfl, rfl⟩ | ⟨hbl, e⟩
    · rcases Nat.eq_zero_or_pos v with rfl | hv0
      · omega
      · rw [newHP_ne (by omega), hnone] at e2; cases e2
    · rw [hold b _ hbl] at e2; exact H.ver b o' v q e e2
  · rintro R ⟨b, o', q, e, e2, rfl⟩
    rcases cases_get b o' e with ⟨rfl, rfl⟩ | ⟨hbl, e⟩
    · have e2 : newHP K.hp h.length 0 p h.length (curVer o') = some q := e2
      rw [hself] at e2; cases e2; exact .inl (Nat.le_of_eq hb.symm)
    · have e2 : newHP K.hp h.length 0 p b (curVer o') = some q := e2
      rw [hold b _ hbl] at e2; exact .inr ⟨b, o', q, e, e2, rfl⟩
  · rintro R x ⟨b, o', lo, hi, e, e2, h1, h2⟩
    rcases cases_get b o' e with ⟨rfl, rfl⟩ | ⟨hbl, e⟩
    · obtain ⟨lo', he, _⟩ := regOf_ext e2
      exact .inl (Nat.le_of_eq (extnew R lo' hi he).1.symm)
    · have e2 : regOf (newHP K.hp h.length 0 p) b o' = some (R, lo, hi) := e2
      rw [regOf_eq (hold b _ hbl)] at e2; exact .inr ⟨b, o', lo, hi, e, e2, h1, h2⟩
  · intro b hbl hn
    exact ⟨hget_old (Nat.ne_of_lt hbl), fun v => (hold b v (Nat.ne_of_lt hbl)).trans (hn v)⟩
end Dv
end

section
set_option autoImplicit false
namespace Dv
open Go

/-! ### Cells of one region written, or a new block -/
structure Chg (w w' : World) (R lo hi : Nat) : Prop where
  os : w'.os = w.os
  tape : w'.tape = w.tape
  output : w'.output = w.output
  size : w.heap.size ≤ w'.heap.size
  oth : ∀ R', R' < w.heap.size → R' ≠ R → w'.heap[R']? = w.heap[R']?
  blk : ∀ c t f, w.heap[R]? = some (.cells c t f) → ∃ c', w'.heap[R]? = some (.cells c' t f) ∧ c'.size = c.size ∧ ∀ x, x < lo ∨ hi ≤ x → c'[x]? = c[x]?
theorem Chg.refl (w : World) (R lo hi : Nat) : Chg w w R lo hi := ⟨rfl, rfl, rfl, Nat.le_refl _, fun _ _ _ => rfl, fun c _ _ e => ⟨c, e, rfl, fun _ _ => rfl⟩⟩
theorem Chg.same {w w' : World} (s : SameMem w w') (R lo hi : Nat) : Chg w w' R lo hi :=
  ⟨s.os, s.tape, s.output, by rw [s.heap]; exact Nat.le_refl _, fun _ _ _ => by rw [s.heap], fun c _ _ e => ⟨c, by rw [s.heap]; exact e, rfl, fun _ _ => rfl⟩⟩
theorem Chg.trans {w w1 w2 : World} {R lo hi : Nat} (a : Chg w w1 R lo hi) (b : Chg w1 w2 R lo hi) : Chg w w2 R lo hi := by
  refine ⟨b.os.trans a.os, b.tape.trans a.tape, b.output.trans a.output, Nat.le_trans a.size b.size, fun R' h1 h2 => (b.oth R' (Nat.lt_of_lt_of_le h1 a.size) h2).trans (a.oth R' h1 h2), fun c t f e => ?_⟩
  obtain ⟨c1, e1, s1, x1⟩ := a.blk c t f e
  obtain ⟨c2, e2, s2, x2⟩ := b.blk c1 t f e1
  exact ⟨c2, e2, s2.trans s1, fun x h => (x2 x h).trans (x1 x h)⟩
theorem Chg.mono {w w' : World} {R lo hi lo' hi' : Nat} (a : Chg w w' R lo hi) (h1 : lo' ≤ lo) (h2 : hi ≤ hi') : Chg w w' R lo' hi' := by
  refine ⟨a.os, a.tape, a.output, a.size, a.oth, fun c t f e => ?_⟩
  obtain ⟨c', e', s, x⟩ := a.blk c t f e
  exact ⟨c', e', s, fun y hy => x y (by omega)⟩
theorem Chg.setCell (w : World) (R x : Nat) (v : Value) : Chg w (w.setCell ⟨R, x, none⟩ v) R x (x + 1) := by
  refine ⟨rfl, rfl, rfl, by simp, fun R' _ hne => ?_, fun c t f e => ?_⟩
  · simp only [World.setCell, Array.getElem?_modify]; rw [if_neg (fun h => hne h.symm)]
  · refine ⟨c.setIfInBounds x v, ?_, by simp, fun y hy => ?_⟩
    · simp only [World.setCell, Array.getElem?_modify, if_true, e, Option.map_some]; simp
    · rw [Array.getElem?_setIfInBounds_ne (by omega)]
theorem NewBlk.chg {w w' : World} {c : Array Value} {t : TypeId} (n : NewBlk w w' c t) (R lo hi : Nat) (hR : R < w.heap.size) : Chg w w' R lo hi :=
  ⟨n.os, n.tape, n.output, by rw [n.size]; omega, fun R' h _ => n.old R' h, fun c' t' f e => ⟨c', (n.old R hR).trans e, rfl, fun _ _ => rfl⟩⟩
theorem Chg.cell {w w' : World} {R lo hi : Nat} (a : Chg w w' R lo hi) {c : Array Value} {t : TypeId} {f : Nat × Nat} (e : w.heap[R]? = some (.cells c t f)) (x : Nat) (hx : x < lo ∨ hi ≤ x) : cellAt w' R x = cellAt w R x := by
  obtain ⟨c', e', _, h⟩ := a.blk c t f e
  simp only [cellAt, World.cell?, e, e']
  simpa using h x hx
theorem Chg.frozen {w w' : World} {R lo hi : Nat} (a : Chg w w' R lo hi) {c : Array Value} {t : TypeId} {f : Nat × Nat} (e : w.heap[R]? = some (.cells c t f)) (x : Nat) : w'.frozen? ⟨R, x, none⟩ = w.frozen? ⟨R, x, none⟩ := by
  obtain ⟨c', e', _, _⟩ := a.blk c t f e
  simp only [World.frozen?, e, e']

/-- An object is another one, in its own place or in a new block. -/
theorem put_ok {base : Nat} {K : Kn} {h : Heap} {w w' : World} (H : HR base K h w) {b : Nat} {o : DObj} (hb : hget h b = some o) {p : Place} (hp : K.hp b (curVer o) = some p)
    {lo : Nat} (hreg : regOf K.hp b o = some (p.blk, lo, p.fin)) (hlo : p.off ≤ lo) (o' : DObj) (hbare : bare o' = false) (W : Chg w w' p.blk lo p.fin)
    (hp' : HP) (hle : K.hp.le hp') (hoth : ∀ b' v, b' ≠ b → hp' b' v = K.hp b' v) (p' : Place) (hpp : hp' b (curVer o') = some p')
    (hpl : (p'.blk = p.blk ∧ p.off ≤ p'.off ∧ p'.fin ≤ p.fin ∧ ∀ R lo' hi', regOf hp' b o' = some (R, lo', hi') → lo ≤ lo') ∨
      (p'.blk = w.heap.size ∧ ∃ c t f, w'.heap[w.heap.size]? = some (.cells c t f) ∧ p'.fin ≤ c.size ∧ FzOK c.size f ∧ ∀ x, x < c.size → w'.frozen? ⟨w.heap.size, x, none⟩ = false))
    (ho' : ObjR ⟨K.fm, hp'⟩ w' b o') (hver : ∀ v q, hp' b v = some q → v ≤ curVer o') :
    HR base ⟨K.fm, hp'⟩ (hset h b o') w' ∧ FP K h w ⟨K.fm, hp'⟩ (hset h b o') w' := by
  have hbl := hget_lt hb
  have kle : K.le ⟨K.fm, hp'⟩ := ⟨FM.le.refl _, hle⟩
  have hbo : bare o = false := by cases o <;> simp_all [regOf, bare]
  obtain ⟨⟨c0, t0, f0, eR, hc0, hfz0⟩, hfree⟩ := H.reg b o _ _ _ hb hreg
  have hRsz : p.blk < w.heap.size := (Array.getElem?_eq_some_iff.1 eR).1
  obtain ⟨lo0, hext, _⟩ := regOf_ext hreg
  have hext : extOf K.hp b o = some (p.blk, p.off, p.fin) := by
    obtain ⟨q, h1, h2, h3, h4⟩ := extOf_hp hext
    rw [hp] at h1; cases h1
    rw [hext, ← h3]
  have cases_get : ∀ b1 o1, hget (hset h b o') b1 = some o1 → (b1 = b ∧ o1 = o') ∨ (b1 ≠ b ∧ hget h b1 = some o1) := fun b1 o1 e => by
    by_cases hb1 : b1 = b
    · subst hb1; rw [hget_hset_same hbl] at e; cases e; exact .inl ⟨rfl, rfl⟩
    · rw [hget_hset_ne hb1] at e; exact .inr ⟨hb1, e⟩
  have extlt : ∀ b1 o1 R lo hi, hget h b1 = some o1 → extOf K.hp b1 o1 = some (R, lo, hi) → R < w.heap.size := fun b1 o1 R lo hi e1 e2 => by
    obtain ⟨q, h1, h2, _⟩ := extOf_hp e2
    exact h2 ▸ (H.host b1 o1 q e1 h1).2
  -- cells outside of the region
  have cout : ∀ R x, R < w.heap.size → ¬(R = p.blk ∧ lo ≤ x ∧ x < p.fin) → cellAt w' R x = cellAt w R x := fun R x hR hn => by
    by_cases hRe : R = p.blk
    · subst hRe; exact W.cell eR x (by omega)
    · exact cellAt_congr (W.oth R hR hRe) x
  have extnew : ∀ R lo' hi', extOf hp' b o' = some (R, lo', hi') → (R = p.blk ∧ p.off ≤ lo' ∧ hi' ≤ p.fin) ∨ R = w.heap.size := fun R lo' hi' e => by
    obtain ⟨q, h1, h2, h3, h4⟩ := extOf_hp e
    rw [hpp] at h1; cases h1
    rcases hpl with ⟨a1, a2, a3, _⟩ | ⟨a1, _⟩
    · exact .inl ⟨h2 ▸ a1, h3 ▸ a2, h4 ▸ a3⟩
    · exact .inr (h2 ▸ a1)
  have hostnew : ∀ R, Host ⟨K.fm, hp'⟩ (hset h b o') R → w.heap.size ≤ R ∨ Host K h R := by
    rintro R ⟨b1, o1, q, e, e2, rfl⟩
    rcases cases_get b1 o1 e with ⟨rfl, rfl⟩ | ⟨hb1, e⟩
    · have e2 : hp' b1 (curVer o1) = some q := e2
      rw [hpp] at e2; cases e2
      rcases hpl with ⟨a1, _⟩ | ⟨a1, _⟩
      · exact .inr ⟨b1, o, p, hb, hp, a1.symm⟩
      · exact .inl (Nat.le_of_eq a1.symm)
    · have e2 : hp' b1 (curVer o1) = some q := e2
      rw [hoth b1 _ hb1] at e2; exact .inr ⟨b1, o1, q, e, e2, rfl⟩
  have hmapold : ∀ b1 o1, b1 ≠ b → hget h b1 = some o1 → bare o1 = true → ∀ q, K.hp b1 0 = some q → w'.heap[q.blk]? = w.heap[q.blk]? := fun b1 o1 hb1 e hbr q eq => by
    have hq := H.host b1 o1 q e (by cases o1 <;> simp_all [bare, curVer])
    refine W.oth _ hq.2 fun e3 => ?_
    have := H.obj b1 o1 e
    cases o1 with
    | mapo es => obtain ⟨_, _, h1, _⟩ := this q eq; rw [e3, eR] at h1; cases h1
    | loop => obtain ⟨_, h1, _⟩ := this q eq; rw [e3, eR] at h1; cases h1
    | _ => simp [bare] at hbr
  refine ⟨⟨Nat.le_trans H.bsz W.size, fun R x v e => ?_, H.fmone, ?_, ?_, ?_, ?_, ?_, ?_, ?_⟩, ⟨W.os, W.tape, W.output, W.size, kle, by rw [hset_length]; exact Nat.le_refl _, fun R x v h1 h2 => (by rw [h2] at h1; cases h1), hostnew, ?_, ?_, ?_, ?_⟩⟩
  · have e' := H.fm R x v e
    refine (cout R x (cellAt_lt e') ?_).trans e'
    rintro ⟨rfl, h1, h2⟩
    have := (hfree x h1 h2).2
    rw [show K.fm p.blk x = some v from e] at this; cases this
  · intro b1 v q e
    rw [hset_length]
    by_cases hb1 : b1 = b
    · subst hb1; exact hbl
    · have e : hp' b1 v = some q := e
      rw [hoth b1 v hb1] at e; exact H.dom _ _ _ e
  · intro b1 o1 e
    rcases cases_get b1 o1 e with ⟨rfl, rfl⟩ | ⟨hb1, e⟩
    · exact ho'
    · refine (H.obj b1 o1 e).keep kle (hoth b1 _ hb1) (fun R lo1 hi1 he x h1 h2 => cout R x (extlt b1 o1 R lo1 hi1 e he) ?_) (hmapold b1 o1 hb1 e)
      rintro ⟨rfl, h3, h4⟩
      have := H.dis b1 b o1 o p.blk lo1 hi1 p.off p.fin hb1 e hb he hext
      omega
  · intro b1 o1 q e e2
    rcases cases_get b1 o1 e with ⟨rfl, rfl⟩ | ⟨hb1, e⟩
    · have e2 : hp' b1 (curVer o1) = some q := e2
      rw [hpp] at e2; cases e2
      rcases hpl with ⟨a1, _⟩ | ⟨a1, c, t, f, a2, _⟩
      · have := H.host b1 o p hb hp; rw [a1]; exact ⟨this.1, Nat.lt_of_lt_of_le this.2 W.size⟩
      · have := H.bsz; rw [a1]; exact ⟨this, (Array.getElem?_eq_some_iff.1 a2).1⟩
    · have e2 : hp' b1 (curVer o1) = some q := e2
      rw [hoth b1 _ hb1] at e2
      have := H.host b1 o1 q e e2
      exact ⟨this.1, Nat.lt_of_lt_of_le this.2 W.size⟩
  · intro b1 o1 R lo1 hi1 e e2
    rcases cases_get b1 o1 e with ⟨rfl, rfl⟩ | ⟨hb1, e⟩
    · have e2 : regOf hp' b1 o1 = some (R, lo1, hi1) := e2
      obtain ⟨q, h1, h2, h3⟩ := regOf_hp e2
      rw [hpp] at h1; cases h1
      rcases hpl with ⟨a1, a2, a3, a4⟩ | ⟨a1, c, t, f, a2, a3, afz, a4⟩
      · obtain ⟨c', e', s', _⟩ := W.blk c0 t0 f0 eR
        have hRp : R = p.blk := h2 ▸ a1
        refine ⟨⟨c', t0, f0, by rw [hRp]; exact e', by omega, by rw [s']; exact hfz0⟩, fun x y1 y2 => ?_⟩
        have := a4 _ _ _ e2
        have hf := hfree x (by omega) (by omega)
        rw [hRp]
        exact ⟨(W.frozen eR x).trans hf.1, hf.2⟩
      · have hRp : R = w.heap.size := h2 ▸ a1
        refine ⟨⟨c, t, f, by rw [hRp]; exact a2, by omega, afz⟩, fun x y1 y2 => ?_⟩
        rw [hRp]
        refine ⟨a4 x (by omega), ?_⟩
        cases e3 : K.fm w.heap.size x with
        | none => rfl
        | some u => exact absurd (cellAt_lt (H.fm _ _ _ e3)) (Nat.lt_irrefl _)
    · have e2 : regOf hp' b1 o1 = some (R, lo1, hi1) := e2
      rw [regOf_eq (hoth b1 _ hb1)] at e2
      obtain ⟨⟨c1, t1, f1, h1, h2⟩, h3⟩ := H.reg b1 o1 R lo1 hi1 e e2
      by_cases hRe : R = p.blk
      · subst hRe
        obtain ⟨c', e', s', _⟩ := W.blk c1 t1 f1 h1
        exact ⟨⟨c', t1, f1, e', by omega, by rw [s']; exact h2.2⟩, fun x a b => ⟨(W.frozen h1 x).trans (h3 x a b).1, (h3 x a b).2⟩⟩
      · have hR : R < w.heap.size := (Array.getElem?_eq_some_iff.1 h1).1
        exact ⟨⟨c1, t1, f1, (W.oth R hR hRe).trans h1, h2⟩, fun x a b => ⟨(frozen_congr (W.oth R hR hRe) x).trans (h3 x a b).1, (h3 x a b).2⟩⟩
  · intro b1 b2 o1 o2 R lo1 hi1 lo2 hi2 hne e1 e2 x1 x2
    have x1 : extOf hp' b1 o1 = some (R, lo1, hi1) := x1
    have x2 : extOf hp' b2 o2 = some (R, lo2, hi2) := x2
    rcases cases_get b1 o1 e1 with ⟨rfl, rfl⟩ | ⟨hb1, f1⟩
    · rcases cases_get b2 o2 e2 with ⟨rfl, rfl⟩ | ⟨hb2, f2⟩
      · exact absurd rfl hne
      · rw [extOf_eq (hoth b2 _ hb2)] at x2
        rcases extnew _ _ _ x1 with ⟨rfl, y1, y2⟩ | y1
        · have := H.dis b1 b2 o o2 _ _ _ _ _ hne hb f2 hext x2; omega
        · have := extlt _ _ _ _ _ f2 x2; omega
    · rw [extOf_eq (hoth b1 _ hb1)] at x1
      rcases cases_get b2 o2 e2 with ⟨rfl, rfl⟩ | ⟨hb2, f2⟩
      · rcases extnew _ _ _ x2 with ⟨rfl, y1, y2⟩ | y1
        · have := H.dis b1 b2 o1 o _ _ _ _ _ hne f1 hb x1 hext; omega
        · have := extlt _ _ _ _ _ f1 x1; omega
      · rw [extOf_eq (hoth b2 _ hb2)] at x2
        exact H.dis b1 b2 o1 o2 R lo1 hi1 lo2 hi2 hne f1 f2 x1 x2
  · intro b1 b2 o1 o2 p1 p2 hne e1 e2 r1 r2 q1 q2
    have q1 : hp' b1 0 = some p1 := q1
    have q2 : hp' b2 0 = some p2 := q2
    rcases cases_get b1 o1 e1 with ⟨rfl, rfl⟩ | ⟨hb1, f1⟩
    · rw [hbare] at r1; cases r1
    · rcases cases_get b2 o2 e2 with ⟨rfl, rfl⟩ | ⟨hb2, f2⟩
      · rw [hbare] at r2; cases r2
      · rw [hoth b1 0 hb1] at q1; rw [hoth b2 0 hb2] at q2
        exact H.mobj b1 b2 o1 o2 p1 p2 hne f1 f2 r1 r2 q1 q2
  · intro b1 o1 v q e e2
    rcases cases_get b1 o1 e with ⟨rfl, rfl⟩ | ⟨hb1, e⟩
    · exact hver v q e2
    · have e2 : hp' b1 v = some q := e2
      rw [hoth b1 _ hb1] at e2; exact H.ver b1 o1 v q e e2
  · rintro R x ⟨b1, o1, lo1, hi1, e, e2, h1, h2⟩
    rcases cases_get b1 o1 e with ⟨rfl, rfl⟩ | ⟨hb1, e⟩
    · have e2 : regOf hp' b1 o1 = some (R, lo1, hi1) := e2
      obtain ⟨q, h3, h4, h5⟩ := regOf_hp e2
      rw [hpp] at h3; cases h3
      rcases hpl with ⟨a1, a2, a3, a4⟩ | ⟨a1, _⟩
      · have := a4 _ _ _ e2
        refine .inr ⟨b1, o, lo, p.fin, hb, ?_, by omega, by omega⟩
        rw [hreg, ← a1, h4]
      · exact .inl (by omega)
    · have e2 : regOf hp' b1 o1 = some (R, lo1, hi1) := e2
      rw [regOf_eq (hoth b1 _ hb1)] at e2; exact .inr ⟨b1, o1, lo1, hi1, e, e2, h1, h2⟩
  · intro R hR hn
    exact W.oth R hR fun e => hn ⟨b, o, p, hb, hp, e.symm⟩
  · intro R x hR hn
    refine cout R x hR ?_
    rintro ⟨rfl, h1, h2⟩
    exact hn ⟨b, o, lo, p.fin, hb, hreg, h1, h2⟩
  · intro b1 hb1 hn
    have hne : b1 ≠ b := fun e => by subst e; rw [hn] at hp; cases hp
    exact ⟨hget_hset_ne hne, fun v => (hoth b1 v hne).trans (hn v)⟩
end Dv
end

section
set_option autoImplicit false
set_option linter.unusedVariables false
namespace Dv
open Go

theorem mapO_len {α β : Type} {f : α → Option β} : ∀ {l : List α} {l' : List β}, mapO f l = some l' → l'.length = l.length
  | [], l', e => by simp [mapO] at e; subst e; rfl
  | x :: r, l', e => by
    simp only [mapO] at e
    split at e
    · rename_i y s h1 h2; cases e; simp [mapO_len h2]
    · cases e
theorem mapO_at {α β : Type} {f : α → Option β} : ∀ {l : List α} {l' : List β} (e : mapO f l = some l') (i : Nat) (hi : i < l.length) (hi' : i < l'.length), f l[i] = some l'[i]
  | [], _, _, i, hi, _ => by simp at hi
  | x :: r, l', e, i, hi, hi' => by
    simp only [mapO] at e
    split at e
    · rename_i y s h1 h2
      cases e
      cases i with
      | zero => exact h1
      | succ i => exact mapO_at h2 i (by simpa using hi) (by simpa using hi')
    · cases e

/-- What is known for good of the rows and objects of a list. -/
def Cov (K : Kn) (h : Heap) (w : World) (fm' : FM) (l : List (Nat × Nat)) : Prop := ∀ b u, (b, u) ∈ l → match hget h b with
  | some (.row sz es v _) => ∀ p, K.hp b v = some p → ∀ i, i < u → i < es.length → ∀ j, j < sz → fm' p.blk (p.off + i * sz + j) = cellAt w p.blk (p.off + i * sz + j)
  | some (.obj cells _) => ∀ p, K.hp b 0 = some p → ∀ j, j < cells.length → fm' p.blk (p.off + j) = cellAt w p.blk (p.off + j)
  | _ => True
theorem Cov.sub {K : Kn} {h : Heap} {w : World} {fm' : FM} {l l' : List (Nat × Nat)} (c : Cov K h w fm' l) (hs : ∀ x, x ∈ l' → x ∈ l) : Cov K h w fm' l' := fun b u m => c b u (hs _ m)

theorem getD_eq {α : Type} (l : Array α) (j : Nat) (d x : α) (h : l[j]? = some x) : l.getD j d = x := by simp [Array.getD_eq_getD_getElem?, h]

theorem deep_ok {base : Nat} {K : Kn} {h : Heap} {w : World} (H : HR base K h w) {fm' : FM} (hf : K.fm.le fm') : ∀ (n : Nat) (v d : DV), deep h n v = some d → Cov K h w fm' (reach h n v) → ∀ val, K.V v val → VR fm' noHP d val := by
  intro n
  induction n with
  | zero => intro v d e; simp [deep] at e
  | succ n ih =>
    intro v d e hc val hv
    have ihl : ∀ (l l' : List DV), mapO (deep h n) l = some l' → Cov K h w fm' (l.flatMap (reach h n)) → ∀ vals : Nat → Value, (∀ j (hj : j < l.length), K.V l[j] (vals j)) → ∀ j (hj : j < l'.length), VR fm' noHP l'[j] (vals j) := by
      intro l l' em hcl vals hvs j hj
      have hj' : j < l.length := by rw [← mapO_len em]; exact hj
      exact ih _ _ (mapO_at em j hj' hj) (hcl.sub fun x hx => List.mem_flatMap.2 ⟨l[j], List.getElem_mem hj', hx⟩) _ (hvs j hj')
    cases v with
    | bool b => simp only [deep] at e; cases e; cases hv; exact .bool b
    | int k i => simp only [deep] at e; cases e; cases hv; exact .int k i
    | str s => simp only [deep] at e; cases e; cases hv; exact .str _
    | nil => simp only [deep] at e; cases e; cases hv; exact .nil
    | nsl => simp only [deep] at e; cases e; cases hv; exact .nsl
    | nilFn => simp only [deep] at e; cases e; cases hv; exact .nilFn
    | nilIface => simp only [deep] at e; cases e; cases hv; exact .nilIface
    | nmp => simp only [deep] at e; cases e; cases hv; exact .nmp
    | dsl z es =>
      simp only [deep] at e; cases e
      cases hv with
      | dsl R o cap vals hsz hcap h1 h2 => exact .dsl R o cap vals hsz hcap (fun i j hi hj => hf _ _ _ (h1 i j hi hj)) (fun i hi j hj => VR.mono hf (h2 i hi j hj) (HP.le.refl _))
      | dsl0 a cap => exact .dsl0 a cap
    | dptr cells off =>
      simp only [deep] at e; cases e
      cases hv with
      | dptr R o vals h1 h2 => exact .dptr R o vals (fun j hj => hf _ _ _ (h1 j hj)) (fun j hj => VR.mono hf (h2 j hj) (HP.le.refl _))
    | sl b ver z off len =>
      simp only [deep] at e
      cases hg : hget h b with
      | none => rw [hg] at e; cases e
      | some o =>
        rw [hg] at e
        cases o with
        | row sz es v' f =>
          simp only at e
          split at e
          · rename_i hcond
            obtain ⟨hver, hlen⟩ := hcond
            subst hver
            obtain ⟨es', em, e⟩ := Option.map_eq_some_iff.1 e
            subst e
            have hr : reach h (n + 1) (.sl b ver z off len) = (b, off + len) :: ((es.drop off).take len).flatMap fun cs => cs.flatMap (reach h n) := by simp [reach, hg]
            rw [hr] at hc
            have hcb := hc b (off + len) (by simp)
            rw [hg] at hcb
            have hl : es'.length = len := by rw [mapO_len em]; simp; omega
            have hob := H.obj b _ hg
            -- the place, out of either form
            obtain ⟨p, hp, hps⟩ : ∃ p, K.hp b ver = some p ∧ p.sz = z := by
              cases hv with
              | sl cap hp hs _ _ => exact ⟨_, hp, hs⟩
              | sl0 a hp hs => exact ⟨_, hp, hs⟩
            obtain ⟨h1, h2, h3, h4, h5⟩ := hob p hp
            have hzs : z = sz := hps.symm.trans h1
            subst hzs
            -- an element of the copy
            have hat : ∀ i (hi : i < es'.length), ∃ hi2 : off + i < es.length, mapO (deep h n) es[off + i] = some es'[i] ∧ es[off + i] ∈ (es.drop off).take len := by
              intro i hi
              have hi3 : i < ((es.drop off).take len).length := by rw [← mapO_len em]; exact hi
              have hi2 : off + i < es.length := by simp at hi3; omega
              have := mapO_at em i hi3 hi
              have e2 : ((es.drop off).take len)[i] = es[off + i] := by simp
              rw [e2] at this
              exact ⟨hi2, this, e2 ▸ List.getElem_mem hi3⟩
            have hsz' : ∀ i (hi : i < es'.length), es'[i].length = z := fun i hi => by
              obtain ⟨hi2, hm, _⟩ := hat i hi
              rw [mapO_len hm]; exact h4 _ hi2
            have hcells : ∀ i (hi : i < es'.length) j, j < z → fm' p.blk (p.off + off * z + i * z + j) = some ((cellAt w p.blk (p.off + off * z + i * z + j)).getD undef) := fun i hi j hj => by
              obtain ⟨hi2, hm, _⟩ := hat i hi
              obtain ⟨u, hu, _⟩ := h5 _ hi2 j (by rw [h4 _ hi2]; exact hj)
              have e3 : p.off + off * z + i * z + j = p.off + (off + i) * z + j := by rw [Nat.add_mul]; omega
              rw [e3, hcb p hp (off + i) (by omega) hi2 j hj, hu]; rfl
            have hvals : ∀ i (hi : i < es'.length) j (hj : j < es'[i].length), VR fm' noHP es'[i][j] ((cellAt w p.blk (p.off + off * z + i * z + j)).getD undef) := fun i hi j hj => by
              obtain ⟨hi2, hm, hmem⟩ := hat i hi
              refine ihl es[off + i] es'[i] hm (hc.sub fun x hx => List.mem_cons_of_mem _ (List.mem_flatMap.2 ⟨_, hmem, hx⟩)) (fun j => (cellAt w p.blk (p.off + off * z + i * z + j)).getD undef) (fun j hj => ?_) j hj
              obtain ⟨u, hu, hr⟩ := h5 _ hi2 j hj
              have e3 : p.off + off * z + i * z + j = p.off + (off + i) * z + j := by rw [Nat.add_mul]; omega
              rw [e3, hu]; exact hr.1
            cases hv with
            | sl cap hp' hs hlc hfin =>
              rw [hp] at hp'; cases hp'
              have := VR.dsl (fm := fm') (hp := noHP) p.blk (p.off + off * z) cap (fun i j => (cellAt w p.blk (p.off + off * z + i * z + j)).getD undef) hsz' (by omega) (fun i j hi hj => hcells i hi j hj) hvals
              rw [hl] at this
              exact this
            | sl0 a hp' hs =>
              have : es' = [] := List.eq_nil_of_length_eq_zero hl
              subst this
              exact .dsl0 a 0
          · cases e
        | _ => cases e
    | ptr b off =>
      simp only [deep] at e
      cases hg : hget h b with
      | none => rw [hg] at e; cases e
      | some o =>
        rw [hg] at e
        cases o with
        | obj cells f =>
          obtain ⟨cells', em, e⟩ := Option.map_eq_some_iff.1 e
          subst e
          have hr : reach h (n + 1) (.ptr b off) = (b, 0) :: cells.flatMap (reach h n) := by simp [reach, hg]
          rw [hr] at hc
          have hcb := hc b 0 (by simp)
          rw [hg] at hcb
          cases hv with
          | ptr hp =>
            rename_i p
            obtain ⟨h1, h2⟩ := H.obj b _ hg p hp
            have hl := mapO_len em
            refine .dptr p.blk p.off (fun j => (cellAt w p.blk (p.off + j)).getD undef) (fun j hj => ?_) (fun j hj => ?_)
            · obtain ⟨u, hu, _⟩ := h2 j (by omega)
              rw [hcb p hp j (by omega), hu]; rfl
            · refine ihl cells cells' em (hc.sub fun x hx => List.mem_cons_of_mem _ hx) (fun j => (cellAt w p.blk (p.off + j)).getD undef) (fun j hj => ?_) j hj
              obtain ⟨u, hu, hr⟩ := h2 j hj
              rw [hu]; exact hr.1
        | _ => cases e
    | fn f a b =>
      cases f with
      | func g =>
        simp only [deep] at e
        split at e
        · rename_i a' b' h1 h2
          cases e
          have hr : reach h (n + 1) (.fn (.func g) a b) = a.flatMap (reach h n) ++ b.flatMap (reach h n) := by simp [reach]
          rw [hr] at hc
          cases hv with
          | fn fa ca hfa hca v1 v2 =>
            refine .fn fa ca (by rw [mapO_len h1]; exact hfa) (by rw [mapO_len h2]; exact hca) (fun j hj => ?_) (fun j hj => ?_)
            · exact ihl a a' h1 (hc.sub fun x hx => List.mem_append_left _ hx) (fun j => fa.getD j undef) v1 j hj
            · exact ihl b b' h2 (hc.sub fun x hx => List.mem_append_right _ hx) (fun j => ca.getD j undef) v2 j hj
        · cases e
      | _ => simp [deep] at e
    | iface t v =>
      simp only [deep] at e
      obtain ⟨d', em, e⟩ := Option.map_eq_some_iff.1 e
      subst e
      cases hv with
      | iface hv => exact .iface (ih v d' em (hc.sub fun x hx => by simpa [reach] using hx) _ hv)
    | agg cs =>
      simp only [deep] at e
      obtain ⟨cs', em, e⟩ := Option.map_eq_some_iff.1 e
      subst e
      cases hv with
      | agg vs hs hv => exact .agg vs (by rw [mapO_len em]; exact hs) (fun j hj => ihl cs cs' em (hc.sub fun x hx => by simpa [reach] using hx) (fun j => vs.getD j undef) hv j hj)
    | tup cs =>
      simp only [deep] at e
      obtain ⟨cs', em, e⟩ := Option.map_eq_some_iff.1 e
      subst e
      cases hv with
      | tup vs hs hv => exact .tup vs (by rw [mapO_len em]; exact hs) (fun j hj => ihl cs cs' em (hc.sub fun x hx => by simpa [reach] using hx) (fun j => vs.getD j undef) hv j hj)
    | unk => simp [deep] at e
    | eptr => simp [deep] at e
    | mp => simp [deep] at e
end Dv
end

section
set_option autoImplicit false
set_option linter.unusedVariables false
namespace Dv
open Go

theorem reach_host {base : Nat} {K : Kn} {h : Heap} {w : World} (H : HR base K h w) : ∀ (n : Nat) (v : DV) (val : Value), K.V v val → ∀ b u, (b, u) ∈ reach h n v → ∃ ver p, K.hp b ver = some p := by
  intro n
  induction n with
  | zero => intro v val _ b u hm; simp [reach] at hm
  | succ n ih =>
    intro v val hv b u hm
    have ihl : ∀ (l : List DV) (vals : Nat → Value), (∀ j (hj : j < l.length), K.V l[j] (vals j)) → (b, u) ∈ l.flatMap (reach h n) → ∃ ver p, K.hp b ver = some p := by
      intro l vals hvs hm
      obtain ⟨x, hx, hm⟩ := List.mem_flatMap.1 hm
      obtain ⟨j, hj, rfl⟩ := List.getElem_of_mem hx
      exact ih _ _ (hvs j hj) b u hm
    cases v with
    | sl b0 ver z off len =>
      simp only [reach] at hm
      cases hg : hget h b0 with
      | none => rw [hg] at hm; cases hm
      | some o =>
        rw [hg] at hm
        cases o with
        | row sz es v' f =>
          simp only at hm
          split at hm
          · rename_i hver
            subst hver
            obtain ⟨p, hp⟩ : ∃ p, K.hp b0 ver = some p := by cases hv <;> exact ⟨_, by assumption⟩
            rcases List.mem_cons.1 hm with e | hm
            · cases e; exact ⟨ver, p, hp⟩
            · obtain ⟨cs, hcs, hm⟩ := List.mem_flatMap.1 hm
              obtain ⟨x, hx, hm⟩ := List.mem_flatMap.1 hm
              obtain ⟨j, hj, rfl⟩ := List.getElem_of_mem hx
              have hcs' : cs ∈ es := List.mem_of_mem_drop (List.mem_of_mem_take hcs)
              obtain ⟨i, hi, rfl⟩ := List.getElem_of_mem hcs'
              obtain ⟨_, _, _, _, h5⟩ := H.obj b0 _ hg p hp
              obtain ⟨y, _, hr, _⟩ := h5 i hi j hj
              exact ih _ _ hr b u hm
          · cases hm
        | _ => simp at hm
    | ptr b0 off =>
      simp only [reach] at hm
      cases hg : hget h b0 with
      | none => rw [hg] at hm; cases hm
      | some o =>
        rw [hg] at hm
        cases o with
        | obj cells f =>
          cases hv with
          | ptr hp =>
            rcases List.mem_cons.1 hm with e | hm
            · cases e; exact ⟨0, _, hp⟩
            · obtain ⟨_, h2⟩ := H.obj b0 _ hg _ hp
              obtain ⟨x, hx, hm⟩ := List.mem_flatMap.1 hm
              obtain ⟨j, hj, rfl⟩ := List.getElem_of_mem hx
              obtain ⟨y, _, hr, _⟩ := h2 j hj
              exact ih _ _ hr b u hm
        | _ => simp at hm
    | fn f a c =>
      simp only [reach] at hm
      cases hv with
      | fn fa ca _ _ v1 v2 =>
        rcases List.mem_append.1 hm with hm | hm
        · exact ihl a (fun j => fa.getD j undef) v1 hm
        · exact ihl c (fun j => ca.getD j undef) v2 hm
      | yld => simp at hm
    | iface t v =>
      simp only [reach] at hm
      cases hv with
      | iface hv => exact ih _ _ hv b u hm
    | agg cs =>
      simp only [reach] at hm
      cases hv with
      | agg vs _ hv => exact ihl cs (fun j => vs.getD j undef) hv hm
    | tup cs =>
      simp only [reach] at hm
      cases hv with
      | tup vs _ hv => exact ihl cs (fun j => vs.getD j undef) hv hm
    | _ => simp [reach] at hm

/-! ### Marks -/
inductive Mk : DObj → DObj → Prop
  | same (o : DObj) : Mk o o
  | row (sz : Nat) (es : List (List DV)) (v f f' : Nat) (h : f ≤ f') : Mk (.row sz es v f) (.row sz es v f')
  | obj (cells : List DV) (f : Bool) : Mk (.obj cells f) (.obj cells true)
theorem Mk.trans {a b c : DObj} (h : Mk a b) (h' : Mk b c) : Mk a c := by
  cases h with
  | same => exact h'
  | row sz es v f f' hf =>
    cases h' with
    | same => exact .row _ _ _ _ _ hf
    | row _ _ _ _ f2 hf2 => exact .row _ _ _ _ _ (Nat.le_trans hf hf2)
  | obj cells f =>
    cases h' with
    | same => exact .obj _ _
    | obj => exact .obj _ _
/-- A mark's word. -/
def marked (u : Nat) : DObj → Prop
  | .row _ _ _ f => u ≤ f
  | .obj _ f => f = true
  | _ => True
theorem Mk.marked {a b : DObj} (h : Mk a b) {u : Nat} (hm : Dv.marked u a) : Dv.marked u b := by
  cases h with
  | same => exact hm
  | row sz es v f f' hf => exact Nat.le_trans (show u ≤ f from hm) hf
  | obj cells f => exact rfl
theorem Mk.curVer {a b : DObj} (h : Mk a b) : Dv.curVer b = Dv.curVer a := by cases h <;> rfl
theorem Mk.bare {a b : DObj} (h : Mk a b) : Dv.bare b = Dv.bare a := by cases h <;> rfl
theorem Mk.ext {a b : DObj} (h : Mk a b) (hp : HP) (i : Nat) : extOf hp i b = extOf hp i a := by cases h <;> rfl
theorem Mk.reg {a b : DObj} (h : Mk a b) {hp : HP} {i R lo hi : Nat} (e : regOf hp i b = some (R, lo, hi)) : ∃ lo', regOf hp i a = some (R, lo', hi) ∧ lo' ≤ lo := by
  cases h with
  | same => exact ⟨lo, e, Nat.le_refl _⟩
  | row sz es v f f' hf =>
    simp only [regOf, Option.map_eq_some_iff, Prod.mk.injEq] at e ⊢
    obtain ⟨p, hp', h1, h2, h3⟩ := e
    exact ⟨p.off + f * p.sz, ⟨p, hp', h1, rfl, h3⟩, by rw [← h2]; exact Nat.add_le_add_left (Nat.mul_le_mul_right _ hf) _⟩
  | obj cells f => simp [regOf] at e
theorem Mk.objR {K : Kn} {w : World} {i : Nat} {a b : DObj} (h : Mk a b) (ho : ObjR K w i a) : ObjR K w i b := by
  cases h with
  | same => exact ho
  | row => exact ho
  | obj => exact ho
theorem mark_length (h : Heap) (x : Nat × Nat) : (mark h x).length = h.length := by
  unfold mark; split <;> simp [hset_length]
theorem marks_length (l : List (Nat × Nat)) : ∀ h : Heap, (l.foldl mark h).length = h.length := by
  induction l with
  | nil => exact fun h => rfl
  | cons x l ih => exact fun h => (ih _).trans (mark_length h x)
theorem mark_get (h : Heap) (x : Nat × Nat) (b : Nat) (o : DObj) (e : hget h b = some o) : ∃ o', hget (mark h x) b = some o' ∧ Mk o o' ∧ (b = x.1 → marked x.2 o') := by
  unfold mark
  split
  · rename_i sz es v f hg
    by_cases hb : b = x.1
    · subst hb
      rw [hg] at e; cases e
      exact ⟨_, hget_hset_same (hget_lt hg), .row _ _ _ _ _ (Nat.le_max_left _ _), fun _ => Nat.le_max_right _ _⟩
    · exact ⟨o, (hget_hset_ne hb).trans e, .same o, fun h => absurd h hb⟩
  · rename_i cells f hg
    by_cases hb : b = x.1
    · subst hb
      rw [hg] at e; cases e
      exact ⟨_, hget_hset_same (hget_lt hg), .obj _ _, fun _ => rfl⟩
    · exact ⟨o, (hget_hset_ne hb).trans e, .same o, fun h => absurd h hb⟩
  · rename_i h1 h2
    refine ⟨o, e, .same o, ?_⟩
    rintro rfl
    cases o with
    | row => exact absurd e (h1 _ _ _ _)
    | obj => exact absurd e (h2 _ _)
    | _ => trivial
theorem marks_get (l : List (Nat × Nat)) : ∀ (h : Heap) (b : Nat) (o : DObj), hget h b = some o → ∃ o', hget (l.foldl mark h) b = some o' ∧ Mk o o' ∧ ∀ u, (b, u) ∈ l → marked u o' := by
  induction l with
  | nil => exact fun h b o e => ⟨o, e, .same o, fun _ hm => by cases hm⟩
  | cons x l ih =>
    intro h b o e
    obtain ⟨o1, e1, m1, k1⟩ := mark_get h x b o e
    obtain ⟨o2, e2, m2, k2⟩ := ih (mark h x) b o1 e1
    refine ⟨o2, e2, m1.trans m2, fun u hm => ?_⟩
    rcases List.mem_cons.1 hm with hx | hm
    · subst hx; exact m2.marked (k1 rfl)
    · exact k2 u hm
theorem marks_other (l : List (Nat × Nat)) : ∀ (h : Heap) (b : Nat), (∀ u, (b, u) ∉ l) → hget (l.foldl mark h) b = hget h b := by
  induction l with
  | nil => exact fun h b _ => rfl
  | cons x l ih =>
    intro h b hn
    have hb : b ≠ x.1 := fun e => hn x.2 (by rw [e]; exact List.mem_cons_self ..)
    refine (ih _ b fun u hm => hn u (List.mem_cons_of_mem _ hm)).trans ?_
    show hget (mark h x) b = hget h b
    unfold mark
    split
    · exact hget_hset_ne hb
    · exact hget_hset_ne hb
    · rfl
theorem marks_back (l : List (Nat × Nat)) {h : Heap} {b : Nat} {o' : DObj} (e : hget (l.foldl mark h) b = some o') : ∃ o, hget h b = some o ∧ Mk o o' ∧ ∀ u, (b, u) ∈ l → marked u o' := by
  cases hg : hget h b with
  | none =>
    exfalso
    have hlt : b < h.length := by rw [← marks_length l h]; exact hget_lt e
    have : ∀ (h : Heap) (b : Nat), b < h.length → hget h b ≠ none := by
      intro h
      induction h with
      | nil => intro b hb; simp at hb
      | cons x h ih =>
        intro b hb
        simp only [hget]
        split
        · simp
        · exact ih b (by simp at hb; omega)
    exact this h b hlt hg
  | some o =>
    obtain ⟨o2, e2, m, k⟩ := marks_get l h b o hg
    rw [e2] at e; cases e
    exact ⟨o, rfl, m, k⟩

/-- A cell of a row's elements, or of an object. -/
def InExt (K : Kn) (h : Heap) (R x : Nat) : Prop := ∃ b o p, hget h b = some o ∧ K.hp b (curVer o) = some p ∧ p.blk = R ∧ match o with
  | .row sz es _ _ => ∃ i j, i < es.length ∧ j < sz ∧ x = p.off + i * sz + j
  | .obj cells _ => ∃ j, j < cells.length ∧ x = p.off + j
  | _ => False
theorem InExt.one {base : Nat} {K : Kn} {h : Heap} {w : World} (H : HR base K h w) {R x : Nat} (he : InExt K h R x) : ∃ v, cellAt w R x = some v ∧ v.oneCell' = true := by
  obtain ⟨b, o, p, h1, h2, rfl, h4⟩ := he
  have ho := H.obj b o h1
  cases o with
  | row sz es v f =>
    obtain ⟨i, j, hi, hj, rfl⟩ := h4
    obtain ⟨_, _, _, a4, a5⟩ := ho p h2
    obtain ⟨v, hv, _, h1⟩ := a5 i hi j (by rw [a4 i hi]; exact hj)
    exact ⟨v, hv, h1⟩
  | obj cells f =>
    obtain ⟨j, hj, rfl⟩ := h4
    obtain ⟨v, hv, _, h1⟩ := (ho p h2).2 j hj
    exact ⟨v, hv, h1⟩
  | _ => exact h4.elim
open Classical in
/-- What is frozen in rows and objects is known for good. -/
noncomputable def learn (K : Kn) (h h' : Heap) (w : World) : FM := fun R x => match K.fm R x with
  | some v => some v
  | none => if InExt K h R x ∧ ¬ InReg K h' R x then cellAt w R x else none
theorem learn_le (K : Kn) (h h' : Heap) (w : World) : K.fm.le (learn K h h' w) := fun R x v e => by simp [learn, e]
theorem learn_cell {base : Nat} {K : Kn} {h h' : Heap} {w : World} (H : HR base K h w) {R x : Nat} {v : Value} (e : learn K h h' w R x = some v) : cellAt w R x = some v := by
  unfold learn at e
  split at e
  · rename_i u hu; cases e; exact H.fm R x _ hu
  · split at e
    · exact e
    · cases e
theorem learn_one {base : Nat} {K : Kn} {h h' : Heap} {w : World} (H : HR base K h w) {R x : Nat} {v : Value} (e : learn K h h' w R x = some v) : v.oneCell' = true := by
  unfold learn at e
  split at e
  · rename_i u hu; cases e; exact H.fmone R x _ hu
  · split at e
    · rename_i hc
      obtain ⟨u, hu, h1⟩ := hc.1.one H
      rw [hu] at e; cases e; exact h1
    · cases e
theorem learn_at {K : Kn} {h h' : Heap} {w : World} {base : Nat} (H : HR base K h w) {R x : Nat} (he : InExt K h R x) (hn : ¬ InReg K h' R x) : learn K h h' w R x = cellAt w R x := by
  unfold learn
  split
  · rename_i u hu; exact (H.fm R x u hu).symm
  · rw [if_pos ⟨he, hn⟩]
theorem InExt.host {K : Kn} {h : Heap} {R x : Nat} (he : InExt K h R x) : Host K h R := by
  obtain ⟨b, o, p, h1, h2, h3, _⟩ := he
  exact ⟨b, o, p, h1, h2, h3⟩

theorem marks_ok {base : Nat} {K : Kn} {h : Heap} {w : World} (H : HR base K h w) (l : List (Nat × Nat)) (hl : ∀ b u, (b, u) ∈ l → ∃ ver p, K.hp b ver = some p) :
    HR base ⟨learn K h (l.foldl mark h) w, K.hp⟩ (l.foldl mark h) w ∧ FP K h w ⟨learn K h (l.foldl mark h) w, K.hp⟩ (l.foldl mark h) w ∧
      Cov K h w (learn K h (l.foldl mark h) w) l := by
  have kle : K.le ⟨learn K h (l.foldl mark h) w, K.hp⟩ := ⟨learn_le K h _ w, HP.le.refl _⟩
  refine ⟨⟨H.bsz, fun R x v e => learn_cell H e, fun R x v e => learn_one H e, fun b v p e => by rw [marks_length]; exact H.dom b v p e, ?_, ?_, ?_, ?_, ?_, ?_⟩,
    ⟨rfl, rfl, rfl, Nat.le_refl _, kle, by rw [marks_length]; exact Nat.le_refl _, ?_, ?_, ?_, fun _ _ _ => rfl, fun _ _ _ _ => rfl, ?_⟩, ?_⟩
  · intro b o' e
    obtain ⟨o, e1, m, _⟩ := marks_back l e
    exact m.objR ((H.obj b o e1).keep kle rfl (fun _ _ _ _ _ _ _ => rfl) (fun _ _ _ => rfl))
  · intro b o' p e e2
    obtain ⟨o, e1, m, _⟩ := marks_back l e
    rw [m.curVer] at e2
    exact H.host b o p e1 e2
  · intro b o' R lo hi e e2
    obtain ⟨o, e1, m, _⟩ := marks_back l e
    obtain ⟨lo', e3, hlo⟩ := m.reg e2
    obtain ⟨h1, h2⟩ := H.reg b o R lo' hi e1 e3
    refine ⟨h1, fun x a1 a2 => ⟨(h2 x (by omega) a2).1, ?_⟩⟩
    have h4 := (h2 x (by omega) a2).2
    show learn K h (l.foldl mark h) w R x = none
    unfold learn
    rw [h4]
    simp only
    rw [if_neg]
    rintro ⟨_, hn⟩
    exact hn ⟨b, o', lo, hi, e, e2, a1, a2⟩
  · intro b b' o1 o2 R lo hi lo' hi' hne e1 e2 x1 x2
    obtain ⟨q1, f1, m1, _⟩ := marks_back l e1
    obtain ⟨q2, f2, m2, _⟩ := marks_back l e2
    rw [m1.ext] at x1; rw [m2.ext] at x2
    exact H.dis b b' q1 q2 R lo hi lo' hi' hne f1 f2 x1 x2
  · intro b b' o1 o2 p p' hne e1 e2 b1 b2 k1 k2
    obtain ⟨q1, f1, m1, _⟩ := marks_back l e1
    obtain ⟨q2, f2, m2, _⟩ := marks_back l e2
    rw [m1.bare] at b1; rw [m2.bare] at b2
    exact H.mobj b b' q1 q2 p p' hne f1 f2 b1 b2 k1 k2
  · intro b o' v p e e2
    obtain ⟨o, e1, m, _⟩ := marks_back l e
    rw [m.curVer]
    exact H.ver b o v p e1 e2
  · intro R x v h1 h2
    have h1 : learn K h (l.foldl mark h) w R x = some v := h1
    unfold learn at h1
    rw [h2] at h1
    simp only at h1
    split at h1
    · rename_i hc; exact .inr hc.1.host
    · cases h1
  · rintro R ⟨b, o', p, e, e2, rfl⟩
    obtain ⟨o, e1, m, _⟩ := marks_back l e
    rw [m.curVer] at e2
    exact .inr ⟨b, o, p, e1, e2, rfl⟩
  · rintro R x ⟨b, o', lo, hi, e, e2, a1, a2⟩
    obtain ⟨o, e1, m, _⟩ := marks_back l e
    obtain ⟨lo', e3, hlo⟩ := m.reg e2
    exact .inr ⟨b, o, lo', hi, e1, e3, by omega, a2⟩
  · intro b hb hn
    refine ⟨marks_other l h b fun u hm => ?_, hn⟩
    obtain ⟨ver, p, e⟩ := hl b u hm
    rw [hn ver] at e; cases e
  · intro b u hm
    -- frozen cells of b: not in a region any more
    have notreg : ∀ o, hget h b = some o → ∀ R lo hi x, extOf K.hp b o = some (R, lo, hi) → lo ≤ x → x < hi →
        (∀ o', hget (l.foldl mark h) b = some o' → ∀ R' lo' hi', regOf K.hp b o' = some (R', lo', hi') → x < lo') → ¬ InReg K (l.foldl mark h) R x := by
      rintro o e R lo hi x he h1 h2 hno ⟨b1, o1, lo1, hi1, e1, e2, a1, a2⟩
      by_cases hb : b1 = b
      · subst hb
        have := hno o1 e1 _ _ _ e2
        omega
      · obtain ⟨q, f, m, _⟩ := marks_back l e1
        obtain ⟨lo3, e3, h3⟩ := regOf_ext e2
        rw [m.ext] at e3
        have := H.dis b1 b q o R lo3 hi1 lo hi hb f e e3 he
        omega
    cases hg : hget h b with
    | none => trivial
    | some o =>
      obtain ⟨o', e', m, k⟩ := marks_get l h b o hg
      have km := k u hm
      cases o with
      | row sz es v f =>
        intro p hp i hi hi2 j hj
        obtain ⟨a1, a2, a3, a4, a5⟩ := H.obj b _ hg p hp
        have hidx := idx_lt hi2 hj
        refine learn_at H ⟨b, _, p, hg, hp, rfl, i, j, hi2, hj, rfl⟩ (notreg _ hg p.blk p.off p.fin _ (by simp [extOf, hp]) (by omega) (by omega) ?_)
        intro o2 e2 R' lo' hi' er
        rw [e'] at e2; cases e2
        cases m with
        | same =>
          have km : u ≤ f := km
          simp only [regOf, hp, Option.map_some, Option.some.injEq, Prod.mk.injEq] at er
          have : (i + 1) * sz ≤ f * sz := Nat.mul_le_mul_right _ (by omega)
          rw [Nat.add_mul] at this
          rw [a1] at er
          omega
        | row _ _ _ _ f' hf =>
          have km : u ≤ f' := km
          simp only [regOf, hp, Option.map_some, Option.some.injEq, Prod.mk.injEq] at er
          have : (i + 1) * sz ≤ f' * sz := Nat.mul_le_mul_right _ (by omega)
          rw [Nat.add_mul] at this
          rw [a1] at er
          omega
      | obj cells f =>
        intro p hp j hj
        obtain ⟨a1, a2⟩ := H.obj b _ hg p hp
        refine learn_at H ⟨b, _, p, hg, hp, rfl, j, hj, rfl⟩ (notreg _ hg p.blk p.off p.fin _ (by simp [extOf, hp]) (by omega) (by omega) ?_)
        intro o2 e2 R' lo' hi' er
        rw [e'] at e2; cases e2
        cases m with
        | same =>
          have km : f = true := km
          subst km; simp [regOf] at er
        | obj => simp [regOf] at er
      | _ => trivial
end Dv
end

section
set_option autoImplicit false
set_option linter.unusedVariables false
set_option linter.unusedSimpArgs false
namespace Dv
open Go

/-! ### Types -/
def KR : TK → TypeDesc → Prop
  | .bool, d => d = .bool
  | .int k, d => d = .int k
  | .str, d => d = .string
  | .ptr e, d => d = .pointer e
  | .slice e, d => d = .slice e
  | .array n e, d => d = .array n e
  | .struct fs, d => ∃ fields : Array Field, d = .struct fields ∧ fs = fields.toList.map fun f => (f.offset, f.type)
  | .map k e, d => d = .map k e
  | .func, d => ∃ a b c, d = .func a b c
  | .iface, d => ∃ m, d = .interface m
  | .tuple, d => ∃ m, d = .tuple m
  | .other, d => (∀ fields, d ≠ .struct fields) ∧ (∀ n e, d ≠ .array n e)
def PlainT (P : Program) (t : Nat) : Prop := P.stoodInHeld t = false ∧ P.eqGuardType P.depth t = false ∧ ∀ fields : Array Field, P.underlying t = some (.struct fields) → ∀ f ∈ fields.toList, f.name ≠ "_"
structure TyOK (P : Program) (i : TI) (t : Nat) : Prop where
  ex : ∃ (q : TypeInfo) (d : TypeDesc) (z : Value), P.info? t = some q ∧ P.underlying t = some d ∧ KR i.kind d ∧ q.size = i.size ∧ q.bytes = i.bytes ∧
    q.zero = some z ∧ i.zero = z.cells.toList.map (ofConst 4) ∧ z.cells.size = i.size ∧ (i.agg = true ↔ ∃ cs, z = .agg cs) ∧ (∀ j (hj : j < z.cells.size), z.cells[j].oneCell' = true) ∧
    (∀ fields : Array Field, d = .struct fields → ∀ f ∈ fields.toList, (P.info? f.type).isSome = true) ∧ ∀ n e, d = .array n e → (P.info? e).isSome = true
  plain : i.plain = true → PlainT P t
def TIOK (P : Program) (ti : Nat → TI) : Prop := ∀ t, (1 ≤ (ti t).size ∨ (match (ti t).kind with | .other => False | _ => True)) → TyOK P (ti t) t

theorem TyOK.isAgg {P : Program} {i : TI} {t : Nat} (h : TyOK P i t) (w : World) : (Go.isAgg t).run P w = .ok i.agg w := by
  obtain ⟨q, d, z, h1, h2, h3, _⟩ := h.ex
  simp only [Go.isAgg, underlying, Sem.run_bind, run_program, Result.andThen_ok, h2, Sem.run_pure]
  cases hk : i.kind <;> rw [hk] at h3 <;> simp only [KR] at h3
  case struct fs => obtain ⟨f, rfl, _⟩ := h3; simp [TI.agg, hk]
  case array n e => subst h3; simp [TI.agg, hk]
  case func => obtain ⟨a, b, c, rfl⟩ := h3; simp [TI.agg, hk]
  case iface => obtain ⟨m, rfl⟩ := h3; simp [TI.agg, hk]
  case tuple => obtain ⟨m, rfl⟩ := h3; simp [TI.agg, hk]
  case other => cases d <;> simp_all [TI.agg]
  all_goals (subst h3; simp [TI.agg, hk])
theorem TyOK.sizeOf {P : Program} {i : TI} {t : Nat} (h : TyOK P i t) (w : World) : (Go.sizeOf t).run P w = .ok i.size w := by
  obtain ⟨q, d, z, h1, h2, h3, h4, _⟩ := h.ex
  simp [Go.sizeOf, typeInfo, h1, h4]
theorem TyOK.zero {P : Program} {i : TI} {t : Nat} (h : TyOK P i t) (w : World) : ∃ z : Value, (zeroValue t).run P w = .ok z w ∧ i.zero = z.cells.toList.map (ofConst 4) ∧ z.cells.size = i.size ∧ (i.agg = true ↔ ∃ cs, z = .agg cs) ∧ ∀ j (hj : j < z.cells.size), z.cells[j].oneCell' = true := by
  obtain ⟨q, d, z, h1, h2, h3, h4, h5, h6, h7, h8, h9, h10, _⟩ := h.ex
  exact ⟨z, by simp [zeroValue, typeInfo, h1, h6], h7, h8, h9, h10⟩
theorem TyOK.under {P : Program} {i : TI} {t : Nat} (h : TyOK P i t) : ∃ d, P.underlying t = some d ∧ KR i.kind d := by
  obtain ⟨q, d, z, h1, h2, h3, _⟩ := h.ex
  exact ⟨d, h2, h3⟩

/-! ### Constants -/
theorem ofConst_VR (fm : FM) (hp : HP) : ∀ (n : Nat) (v : Value), VR fm hp (ofConst n v) v := by
  intro n
  induction n with
  | zero => exact fun v => .unk v
  | succ n ih =>
    intro v
    have hl : ∀ (cs : Array Value) j (hj : j < (cs.toList.map (ofConst n)).length), VR fm hp (cs.toList.map (ofConst n))[j] (cs.getD j undef) := by
      intro cs j hj
      have hj' : j < cs.size := by simpa using hj
      rw [getD_eq cs j undef cs[j] (by simp [hj'])]
      simpa using ih cs[j]
    cases v with
    | bool b => exact .bool b
    | int k i => exact .int k i
    | string s => exact .str s
    | pointer a => cases a with
      | none => exact .nil
      | some a => exact .unk _
    | slice a len cap =>
      cases a with
      | none =>
        cases len with
        | zero => cases cap with
          | zero => exact .nsl
          | succ c => exact .unk _
        | succ l => exact .unk _
      | some a => exact .unk _
    | nilFunc => exact .nilFn
    | nilIface => exact .nilIface
    | map r => cases r with
      | none => exact .nmp
      | some r => exact .unk _
    | agg cs => exact .agg cs (by simp) (hl cs)
    | tuple cs => exact .tup cs (by simp) (hl cs)
    | func f a b =>
      cases f with
      | func g => exact .fn a b (by simp) (by simp) (hl a) (hl b)
      | _ => exact .unk _
    | iface t v => exact .iface (ih v)
    | _ => exact .unk _

/-! ### Reading cells -/
theorem addr_add (R o n : Nat) : (⟨R, o, none⟩ : Addr).add n = ⟨R, o + n, none⟩ := by unfold Addr.add; split <;> simp_all
theorem rd_ok {P : Program} {K : Kn} {w : World} {i : TI} {t : Nat} (ht : TyOK P i t) {cells : List DV} {R o off : Nat}
    (hc : ∀ j (hj : j < cells.length), ∃ v, cellAt w R (o + j) = some v ∧ K.V cells[j] v) {d : DV} (e : rdCells i.agg i.size cells off = some d) :
    ∃ v, (loadVar t ⟨R, o + off, none⟩).run P w = .ok v w ∧ K.V d v := by
  unfold rdCells at e
  cases ha : i.agg with
  | true =>
    rw [ha] at e
    simp only [cond_true] at e
    split at e
    · rename_i hle
      cases e
      let f : Nat → Value := fun j => (cellAt w R (o + off + j)).getD undef
      have hcell : ∀ j, j < i.size → w.cell? ((⟨R, o + off, none⟩ : Addr).add j) = some (f j) := fun j hj => by
        obtain ⟨v, hv, _⟩ := hc (off + j) (by omega)
        rw [addr_add]
        have : cellAt w R (o + off + j) = some v := by rw [Nat.add_assoc]; exact hv
        show cellAt w R (o + off + j) = some (f j)
        simp [f, this]
      refine ⟨.agg ((List.range i.size).map f).toArray, ?_, ?_⟩
      · simp only [loadVar, Sem.run_bind, ht.isAgg, Result.andThen_ok, ha, if_true, Sem.run_bind, ht.sizeOf, run_loadCells w _ i.size f hcell, Sem.run_pure]
      · refine .agg _ (by simp; omega) (fun j hj => ?_)
        have hj' : j < i.size := by simp at hj; omega
        obtain ⟨v, hv, hr⟩ := hc (off + j) (by omega)
        have e1 : ((cells.drop off).take i.size)[j] = cells[off + j] := by simp
        have e2 : (((List.range i.size).map f).toArray).getD j undef = v := by
          apply getD_eq
          have : cellAt w R (o + off + j) = some v := by rw [Nat.add_assoc]; exact hv
          simp [hj', f, this]
        rw [e1, e2]; exact hr
    · cases e
  | false =>
    rw [ha] at e
    simp only [cond_false] at e
    cases hs : Nat.beq i.size 1 with
    | false => rw [hs] at e; cases e
    | true =>
      rw [hs] at e
      simp only [cond_true] at e
      obtain ⟨hoff, e⟩ := List.getElem?_eq_some_iff.1 e
      subst e
      obtain ⟨v, hv, hr⟩ := hc off hoff
      refine ⟨v, ?_, hr⟩
      have hv : w.cell? ⟨R, o + off, none⟩ = some v := hv
      simp only [loadVar, Sem.run_bind, ht.isAgg, Result.andThen_ok, ha]
      rw [if_neg (by simp), run_load, hv]

theorem tyOf {P : Program} {ti : Nat → TI} (hT : TIOK P ti) {t : Nat} {cells : List DV} {off : Nat} {d : DV} (e : rdCells (ti t).agg (ti t).size cells off = some d) : TyOK P (ti t) t := by
  refine hT t ?_
  unfold rdCells at e
  cases ha : (ti t).agg with
  | true =>
    right
    unfold TI.agg at ha
    split at ha <;> simp_all
  | false =>
    rw [ha] at e
    left
    cases hs : Nat.beq (ti t).size 1 with
    | false => rw [hs] at e; cases e
    | true => have := Nat.eq_of_beq_eq_true hs; omega

/-- What a pointer points to reads so. -/
theorem load_ok {P : Program} {ti : Nat → TI} (hT : TIOK P ti) {base : Nat} {K : Kn} {h : Heap} {w : World} (H : HR base K h w) {t : Nat} {p d : DV} {pv : Value} (hp : K.V p pv) (e : dLoad (ti t) p h = some d) :
    ∃ v, (Instr.loadAt t pv).run P w = .ok v w ∧ K.V d v := by
  cases p with
  | dptr cells off =>
    simp only [dLoad] at e
    cases hp with
    | dptr R o vals h1 h2 =>
      obtain ⟨v, hv, hr⟩ := rd_ok (tyOf hT e) (K := K) (w := w) (R := R) (o := o) (fun j hj => ⟨vals j, H.fm _ _ _ (h1 j hj), VR.mono (FM.le.refl _) (h2 j hj) (noHP_le _)⟩) e
      exact ⟨v, by simpa [Instr.loadAt, Instr.sureAddr] using hv, hr⟩
  | ptr b off =>
    simp only [dLoad] at e
    cases hg : hget h b with
    | none => rw [hg] at e; cases e
    | some o =>
      rw [hg] at e
      cases o with
      | obj cells f =>
        simp only at e
        cases hp with
        | ptr hp =>
          rename_i p
          obtain ⟨_, h2⟩ := H.obj b _ hg p hp
          obtain ⟨v, hv, hr⟩ := rd_ok (tyOf hT e) (K := K) (w := w) (R := p.blk) (o := p.off) (fun j hj => by obtain ⟨v, a, b, _⟩ := h2 j hj; exact ⟨v, a, b⟩) e
          exact ⟨v, by simpa [Instr.loadAt, Instr.sureAddr] using hv, hr⟩
      | _ => cases e
  | eptr b v n off =>
    simp only [dLoad] at e
    cases hg : hget h b with
    | none => rw [hg] at e; cases e
    | some o =>
      rw [hg] at e
      cases o with
      | row sz es v' f =>
        simp only at e
        split at e
        · rename_i hver
          subst hver
          split at e
          · rename_i cells he
            obtain ⟨hn, rfl⟩ := List.getElem?_eq_some_iff.1 he
            cases hp with
            | eptr hp =>
              rename_i p
              obtain ⟨a1, a2, a3, a4, a5⟩ := H.obj b _ hg p hp
              obtain ⟨v', hv, hr⟩ := rd_ok (tyOf hT e) (K := K) (w := w) (R := p.blk) (o := p.off + n * sz) (fun j hj => by obtain ⟨v, a, b, _⟩ := a5 n hn j hj; exact ⟨v, a, b⟩) e
              exact ⟨v', by rw [a1]; simpa [Instr.loadAt, Instr.sureAddr] using hv, hr⟩
          · cases e
        · cases e
      | _ => cases e
  | _ => simp [dLoad] at e

/-! ### Writing cells -/
theorem storeCells_ok {P : Program} (R o : Nat) : ∀ (vs : List Value) (i : Nat) (w : World), (∃ c t f, w.heap[R]? = some (.cells c t f) ∧ o + i + vs.length ≤ c.size) →
    (∀ j, j < vs.length → w.frozen? ⟨R, o + i + j, none⟩ = false) → (∀ v ∈ vs, v.oneCell' = true) →
    ∃ w', (storeCells ⟨R, o, none⟩ vs i).run P w = .ok () w' ∧ Chg w w' R (o + i) (o + i + vs.length) ∧ ∀ j (hj : j < vs.length), cellAt w' R (o + i + j) = some vs[j] := by
  intro vs
  induction vs with
  | nil => intro i w _ _ _; exact ⟨w, rfl, Chg.refl _ _ _ _, fun j hj => by simp at hj⟩
  | cons v vs ih =>
    intro i w ⟨c, t, f, hc, hle⟩ hf h1
    simp only [List.length_cons] at hle
    have hcell : w.cell? ⟨R, o + i, none⟩ = some c[o + i] := by simp [World.cell?, hc, show o + i < c.size by omega]
    have hfr := hf 0 (by simp)
    simp only [Nat.add_zero] at hfr
    have hrun : (store ((⟨R, o, none⟩ : Addr).add i) v).run P w = .ok () (w.setCell ⟨R, o + i, none⟩ v) := by
      rw [addr_add, run_store P w _ v _ (h1 v (List.mem_cons_self ..)), hcell]
      simp [hfr]
    have hchg := Chg.setCell w R (o + i) v
    obtain ⟨c', hc', hs', hx'⟩ := hchg.blk c t f hc
    obtain ⟨w', hr, hg, hv⟩ := ih (i + 1) (w.setCell ⟨R, o + i, none⟩ v) ⟨c', t, f, hc', by omega⟩
      (fun j hj => by rw [World.frozen?_setCell]; have := hf (j + 1) (by simpa using hj); rwa [show o + i + (j + 1) = o + (i + 1) + j by omega] at this)
      (fun u hu => h1 u (List.mem_cons_of_mem _ hu))
    refine ⟨w', ?_, (hchg.mono (Nat.le_refl _) (by simp)).trans (hg.mono (by omega) (by simp; omega)), fun j hj => ?_⟩
    · simp only [storeCells, Sem.run_bind, hrun, Result.andThen_ok, hr]
    · cases j with
      | zero =>
        simp only [Nat.add_zero, List.getElem_cons_zero]
        rw [hg.cell hc' (o + i) (.inl (by omega))]
        exact World.cell?_setCell_same _ _ _ hcell
      | succ j =>
        have := hv j (by simpa using hj)
        rw [show o + i + (j + 1) = o + (i + 1) + j by omega]
        simpa using this
end Dv
end

section
set_option autoImplicit false
set_option linter.unusedVariables false
set_option linter.unusedSimpArgs false
namespace Dv
open Go

theorem one_VR {fm : FM} {hp : HP} {d : DV} {v : Value} (h : VR fm hp d v) (h1 : d.one = true) : v.oneCell' = true := by
  cases h <;> first | rfl | (simp [DV.one] at h1)
theorem cells_one {v : Value} (h : v.oneCell' = true) : v.cells = #[v] := by
  cases v <;> first | rfl | (simp [Value.oneCell'] at h)
theorem dcells_one {d : DV} (h : d.one = true) : d.cells = [d] := by
  cases d <;> first | rfl | (simp [DV.one] at h)
/-- A value that fits a type: its cells. -/
theorem okVal_ok {K : Kn} {i : TI} {d : DV} {v : Value} (h : okVal i d = true) (hv : K.V d v) :
    d.cells.length = i.size ∧ v.cells.size = i.size ∧ 1 ≤ i.size + (if i.agg then 1 else 0) ∧ (∀ j (hj : j < d.cells.length), ∃ hj' : j < v.cells.size, K.V d.cells[j] v.cells[j] ∧ v.cells[j].oneCell' = true ∧ d.cells[j].one = true) := by
  by_cases ha : ∃ cs, d = .agg cs
  · obtain ⟨cs, rfl⟩ := ha
    simp only [okVal, Bool.and_eq_true, List.all_eq_true] at h
    obtain ⟨⟨h1, h2⟩, h3⟩ := h
    have hl := Nat.eq_of_beq_eq_true h2
    cases hv with
    | agg vs hs hr =>
      refine ⟨hl, by rw [show (Value.agg vs).cells = vs from rfl, hs]; exact hl, by simp [h1], fun j hj => ?_⟩
      have hj' : j < vs.size := by rw [hs]; exact hj
      have e : vs.getD j undef = vs[j] := getD_eq _ _ _ _ (by simp [hj'])
      have := hr j hj
      rw [e] at this
      exact ⟨hj', this, one_VR this (h3 _ (List.getElem_mem hj)), h3 _ (List.getElem_mem hj)⟩
  · have hd : okVal i d = (!i.agg && Nat.beq i.size 1 && d.one) := by cases d <;> first | rfl | exact absurd ⟨_, rfl⟩ ha
    rw [hd] at h
    simp only [Bool.and_eq_true, Bool.not_eq_true'] at h
    obtain ⟨⟨h1, h2⟩, h3⟩ := h
    have hs := Nat.eq_of_beq_eq_true h2
    have hone := one_VR hv h3
    refine ⟨by rw [dcells_one h3, hs]; rfl, by rw [cells_one hone, hs]; rfl, by omega, fun j hj => ?_⟩
    have hj0 : j = 0 := by rw [dcells_one h3] at hj; simpa using hj
    subst hj0
    refine ⟨by rw [cells_one hone]; simp, ?_, ?_, ?_⟩
    · simp only [dcells_one h3, cells_one hone]; simpa using hv
    · simp only [cells_one hone]; simpa using hone
    · simp only [dcells_one h3]; simpa using h3
theorem okVal_size {i : TI} {d : DV} (h : okVal i d = true) : 1 ≤ i.size ∨ i.agg = true := by
  unfold okVal at h
  split at h
  · simp only [Bool.and_eq_true] at h; exact .inr h.1.1
  · simp only [Bool.and_eq_true] at h; have := Nat.eq_of_beq_eq_true h.1.2; exact .inl (by omega)
theorem agg_kind {i : TI} (h : i.agg = true) : match i.kind with | .other => False | _ => True := by
  unfold TI.agg at h
  split at h <;> simp_all
theorem tyVal {P : Program} {ti : Nat → TI} (hT : TIOK P ti) {t : Nat} {d : DV} (h : okVal (ti t) d = true) : TyOK P (ti t) t :=
  hT t ((okVal_size h).imp id agg_kind)

theorem wrCells_len {cells new cs : List DV} {off : Nat} (e : wrCells cells off new = some cs) : cs.length = cells.length ∧ off + new.length ≤ cells.length := by
  unfold wrCells at e
  split at e
  · cases e; simp; omega
  · cases e
theorem wrCells_at {cells new cs : List DV} {off : Nat} (e : wrCells cells off new = some cs) (j : Nat) (hj : j < cs.length) (hj' : j < cells.length) :
    (∃ hn : off ≤ j ∧ j < off + new.length, cs[j] = new[j - off]'(by omega)) ∨ (¬(off ≤ j ∧ j < off + new.length) ∧ cs[j] = cells[j]) := by
  have hl := wrCells_len e
  unfold wrCells at e
  split at e
  · cases e
    by_cases h1 : j < off
    · right
      refine ⟨by omega, ?_⟩
      rw [List.getElem_append_left (by simp; omega)]
      simp
    · by_cases h2 : j < off + new.length
      · left
        refine ⟨by omega, ?_⟩
        rw [List.getElem_append_right (by simp; omega)]
        rw [List.getElem_append_left (by simp; omega)]
        congr 1
        simp; omega
      · right
        refine ⟨by omega, ?_⟩
        rw [List.getElem_append_right (by simp; omega)]
        rw [List.getElem_append_right (by simp; omega)]
        simp only [List.getElem_drop]
        congr 1
        simp; omega
  · cases e

/-- What 'storeVar' does to cells of a region. -/
theorem storeVar_ok {P : Program} {i : TI} {t : Nat} (ht : TyOK P i t) {K : Kn} {d : DV} {v : Value} (hv : K.V d v) (hok : okVal i d = true) {w : World} {R o : Nat}
    (hR : ∃ c t f, w.heap[R]? = some (.cells c t f) ∧ o + i.size ≤ c.size) (hf : ∀ j, j < i.size → w.frozen? ⟨R, o + j, none⟩ = false) :
    ∃ w', (storeVar t ⟨R, o, none⟩ v).run P w = .ok () w' ∧ Chg w w' R o (o + i.size) ∧ ∀ j (hj : j < d.cells.length), ∃ u, cellAt w' R (o + j) = some u ∧ K.V d.cells[j] u ∧ u.oneCell' = true := by
  obtain ⟨l1, l2, _, l4⟩ := okVal_ok hok hv
  obtain ⟨c, t', f, hc, hle⟩ := hR
  obtain ⟨w', hr, hg, hx⟩ := storeCells_ok (P := P) R o v.cells.toList 0 w ⟨c, t', f, hc, by simpa [l2] using hle⟩ (fun j hj => by simpa using hf j (by simpa [l2] using hj)) (fun u hu => by
    obtain ⟨j, hj, rfl⟩ := List.getElem_of_mem hu
    obtain ⟨_, _, h1, _⟩ := l4 j (by rw [l1]; simpa [l2] using hj)
    simpa using h1)
  refine ⟨w', ?_, by simpa [l2] using hg, fun j hj => ?_⟩
  · simp only [storeVar, Sem.run_bind, ht.sizeOf, Result.andThen_ok]
    rw [if_neg (by simpa using l2)]
    simpa using hr
  · obtain ⟨hj', h1, h2, _⟩ := l4 j hj
    have := hx j (by simpa using hj')
    exact ⟨v.cells[j], by simpa using this, h1, h2⟩

theorem store_ok {P : Program} {ti : Nat → TI} (hT : TIOK P ti) {base : Nat} {K : Kn} {h h' : Heap} {w : World} (H : HR base K h w) {t : Nat} {p x : DV} {pv xv : Value} (hp : K.V p pv) (hx : K.V x xv)
    (e : dStore (ti t) p x h = some h') : ∃ w', (Instr.storeAt t pv xv).run P w = .ok () w' ∧ FP K h w K h' w' ∧ HR base K h' w' := by
  unfold dStore at e
  cases hok : okVal (ti t) x with
  | false => rw [hok] at e; cases e
  | true =>
    rw [hok] at e
    simp only [cond_true] at e
    have ht := tyVal hT hok
    obtain ⟨l1, l2, _, _⟩ := okVal_ok hok hx
    cases p with
    | ptr b off =>
      simp only at e
      cases hg : hget h b with
      | none => rw [hg] at e; cases e
      | some o =>
        rw [hg] at e
        cases o with
        | obj cells fr =>
          cases fr with
          | true => cases e
          | false =>
            simp only at e
            split at e
            · rename_i cs hcs
              cases e
              cases hp with
              | ptr hp =>
                rename_i p
                obtain ⟨a1, a2⟩ := H.obj b _ hg p hp
                have hreg : regOf K.hp b (.obj cells false) = some (p.blk, p.off, p.fin) := by simp [regOf, hp]
                obtain ⟨⟨c, t', f, hc, hle, _⟩, hfree⟩ := H.reg b _ _ _ _ hg hreg
                obtain ⟨w1, w2⟩ := wrCells_len hcs
                obtain ⟨w', hr, hg', hcell⟩ := storeVar_ok ht hx hok (w := w) (R := p.blk) (o := p.off + off) ⟨c, t', f, hc, by omega⟩ (fun j hj => (hfree _ (by omega) (by omega)).1)
                have := put_ok H hg hp hreg (Nat.le_refl _) (.obj cs false) rfl (hg'.mono (by omega) (by omega)) K.hp (HP.le.refl _) (fun _ _ _ => rfl) p hp
                  (.inl ⟨rfl, Nat.le_refl _, Nat.le_refl _, fun R lo' hi' er => by simp [regOf, hp] at er; omega⟩) (by
                    intro q hq
                    have hq : K.hp b 0 = some q := hq
                    rw [hp] at hq; cases hq
                    refine ⟨by omega, fun j hj => ?_⟩
                    rcases wrCells_at hcs j hj (by omega) with ⟨⟨n1, n2⟩, e1⟩ | ⟨hn, e1⟩
                    · obtain ⟨u, hu, hr1, hr2⟩ := hcell (j - off) (by omega)
                      exact ⟨u, by rw [← hu]; congr 1; omega, by rw [e1]; exact hr1, hr2⟩
                    · obtain ⟨u, hu, hr1, hr2⟩ := a2 j (by omega)
                      exact ⟨u, (hg'.cell hc _ (by omega)).trans hu, by rw [e1]; exact hr1, hr2⟩) (fun v q eq => by have := H.ver b _ v q hg eq; exact this)
                exact ⟨w', by simpa [Instr.storeAt, Instr.sureAddr] using hr, this.2, this.1⟩
            · cases e
        | _ => cases e
    | eptr b v n off =>
      simp only at e
      cases hg : hget h b with
      | none => rw [hg] at e; cases e
      | some o =>
        rw [hg] at e
        cases o with
        | row sz es v' fz =>
          simp only at e
          split at e
          · rename_i hcond
            obtain ⟨hver, hfz⟩ := hcond
            subst hver
            split at e
            · rename_i cells he
              obtain ⟨hn, rfl⟩ := List.getElem?_eq_some_iff.1 he
              split at e
              · rename_i cs hcs
                cases e
                cases hp with
                | eptr hp =>
                  rename_i p
                  obtain ⟨a1, a2, a3, a4, a5⟩ := H.obj b _ hg p hp
                  have hreg : regOf K.hp b (.row sz es v fz) = some (p.blk, p.off + fz * p.sz, p.fin) := by simp [regOf, hp]
                  obtain ⟨⟨c, t', f, hc, hle, _⟩, hfree⟩ := H.reg b _ _ _ _ hg hreg
                  obtain ⟨w1, w2⟩ := wrCells_len hcs
                  have hcl := a4 n hn
                  have hnsz : (n + 1) * sz ≤ es.length * sz := Nat.mul_le_mul_right _ hn
                  rw [Nat.add_mul] at hnsz
                  have hfsz : fz * sz ≤ n * sz := Nat.mul_le_mul_right _ hfz
                  have hlo : p.off + fz * p.sz ≤ p.off + n * sz := by rw [a1]; omega
                  obtain ⟨w', hr, hg', hcell⟩ := storeVar_ok ht hx hok (w := w) (R := p.blk) (o := p.off + n * sz + off) ⟨c, t', f, hc, by omega⟩ (fun j hj => (hfree _ (by omega) (by omega)).1)
                  have := put_ok H hg hp hreg (Nat.le_add_right _ _) (.row sz (es.set n cs) v fz) rfl (hg'.mono (by omega) (by omega)) K.hp (HP.le.refl _) (fun _ _ _ => rfl) p hp
                    (.inl ⟨rfl, Nat.le_refl _, Nat.le_refl _, fun R lo' hi' er => by simp [regOf, hp] at er; omega⟩) (by
                      intro q hq
                      have hq : K.hp b v = some q := hq
                      rw [hp] at hq; cases hq
                      refine ⟨a1, a2, by simpa using a3, fun i hi => ?_, fun i hi j hj => ?_⟩
                      · by_cases hin : i = n
                        · subst hin; simp; omega
                        · rw [List.getElem_set_ne (fun h => hin h.symm)]; exact a4 i (by simpa using hi)
                      · by_cases hin : i = n
                        · subst hin
                          simp only [List.getElem_set_self] at hj ⊢
                          rcases wrCells_at hcs j hj (by omega) with ⟨⟨n1, n2⟩, e1⟩ | ⟨hne, e1⟩
                          · obtain ⟨u, hu, hr1, hr2⟩ := hcell (j - off) (by omega)
                            exact ⟨u, by rw [← hu]; congr 1; omega, by rw [e1]; exact hr1, hr2⟩
                          · obtain ⟨u, hu, hr1, hr2⟩ := a5 i hn j (by omega)
                            exact ⟨u, (hg'.cell hc _ (by omega)).trans hu, by rw [e1]; exact hr1, hr2⟩
                        · have hi' : i < es.length := by simpa using hi
                          have e2 : (es.set n cs)[i] = es[i] := List.getElem_set_ne (fun h => hin h.symm) _
                          have hj : j < es[i].length := by simpa only [e2] using hj
                          obtain ⟨u, hu, hr1, hr2⟩ := a5 i hi' j hj
                          have hji : j < sz := by rw [← a4 i hi']; exact hj
                          have hsep : i * sz + j < n * sz ∨ (n + 1) * sz ≤ i * sz := by
                            rcases Nat.lt_or_gt_of_ne hin with hlt | hgt
                            · exact .inl (idx_lt hlt hji)
                            · exact .inr (Nat.mul_le_mul_right _ hgt)
                          rw [Nat.add_mul] at hsep
                          refine ⟨u, (hg'.cell hc _ (by omega)).trans hu, ?_, hr2⟩
                          have e3 : (es.set n cs)[i][j] = es[i][j] := by simp only [e2]
                          rw [e3]; exact hr1) (fun v q eq => by have := H.ver b _ v q hg eq; exact this)
                  exact ⟨w', by rw [a1]; simpa [Instr.storeAt, Instr.sureAddr] using hr, this.2, this.1⟩
              · cases e
            · cases e
          · cases e
        | _ => cases e
    | _ => cases e
end Dv
end

section
set_option autoImplicit false
set_option linter.unusedVariables false
set_option linter.unusedSimpArgs false
namespace Dv
open Go

theorem zero_cells {P : Program} {i : TI} {t : Nat} (h : TyOK P i t) (w : World) : ∃ z : Value, (zeroValue t).run P w = .ok z w ∧ z.cells.size = i.size ∧ i.zero.length = i.size ∧ (i.agg = true ↔ ∃ cs, z = .agg cs) ∧
    ∀ (fm : FM) (hp : HP) j (hj : j < i.zero.length), ∃ hj' : j < z.cells.size, VR fm hp i.zero[j] z.cells[j] ∧ z.cells[j].oneCell' = true := by
  obtain ⟨z, h1, h2, h3, h4, h5⟩ := h.zero w
  refine ⟨z, h1, h3, by rw [h2]; simpa using h3, h4, fun fm hp j hj => ?_⟩
  have hj' : j < z.cells.size := by rw [h2] at hj; simpa using hj
  refine ⟨hj', ?_, h5 j hj'⟩
  have : i.zero[j] = ofConst 4 z.cells[j] := by simp only [h2]; simp
  rw [this]; exact ofConst_VR ..

/-- A new object out of cells that are related. -/
theorem new_obj {base : Nat} {K : Kn} {h : Heap} {w w' : World} (H : HR base K h w) {c : Array Value} {t : TypeId} (nb : NewBlk w w' c t) {cells : List DV} (hs : c.size = cells.length)
    (hc : ∀ j (hj : j < cells.length), ∃ hj' : j < c.size, K.V cells[j] c[j] ∧ c[j].oneCell' = true) :
    ∃ K', FP K h w K' (.obj cells false :: h) w' ∧ HR base K' (.obj cells false :: h) w' ∧ K'.V (.ptr h.length 0) (.pointer (some ⟨w.heap.size, 0, none⟩)) := by
  have := alloc_ok H nb (.obj cells false) ⟨w.heap.size, 0, c.size, 1⟩ rfl rfl rfl (Nat.le_refl _) (fun K' hle h1 h2 p hp => by
    have := h2 p hp; subst this
    refine ⟨by simpa using hs, fun j hj => ?_⟩
    obtain ⟨hj', a, b⟩ := hc j hj
    exact ⟨c[j], by simp only [Nat.zero_add]; rw [nb.cell]; simp [hj'], a.mono hle, b⟩)
  exact ⟨_, this.2, this.1, .ptr (p := ⟨w.heap.size, 0, c.size, 1⟩) (newHP_same ..)⟩
theorem alloc_op {P : Program} {ti : Nat → TI} (hT : TIOK P ti) {base : Nat} {K : Kn} {h : Heap} {w : World} (H : HR base K h w) {t : Nat} (h1 : 1 ≤ (ti t).size) :
    ∃ w' K', (Instr.alloc t true (.tuple #[])).run P w = .ok (.pointer (some ⟨w.heap.size, 0, none⟩)) w' ∧ FP K h w K' (.obj (ti t).zero false :: h) w' ∧ HR base K' (.obj (ti t).zero false :: h) w' ∧
      K'.V (.ptr h.length 0) (.pointer (some ⟨w.heap.size, 0, none⟩)) := by
  have ht := hT t (.inl h1)
  obtain ⟨z, hz, hs, hl, _, hv⟩ := zero_cells ht w
  obtain ⟨K', a, b, c⟩ := new_obj H (NewBlk.alloc w z.cells t) (cells := (ti t).zero) (by omega) (fun j hj => hv K.fm K.hp j hj)
  exact ⟨_, K', by simp [Instr.alloc, hz, newVar, newRow], a, b, c⟩
theorem box_op {P : Program} {ti : Nat → TI} (hT : TIOK P ti) {base : Nat} {K : Kn} {h : Heap} {w : World} (H : HR base K h w) {t : Nat} {d : DV} {v : Value} (hv : K.V d v) (hok : okVal (ti t) d = true) :
    ∃ w' K', (Instr.box t v).run P w = .ok (.pointer (some ⟨w.heap.size, 0, none⟩)) w' ∧ FP K h w K' (.obj d.cells false :: h) w' ∧ HR base K' (.obj d.cells false :: h) w' ∧
      K'.V (.ptr h.length 0) (.pointer (some ⟨w.heap.size, 0, none⟩)) := by
  obtain ⟨l1, l2, _, l4⟩ := okVal_ok hok hv
  obtain ⟨K', a, b, c⟩ := new_obj H (NewBlk.alloc w v.cells t) (cells := d.cells) (by omega) (fun j hj => by obtain ⟨a, b, c, _⟩ := l4 j hj; exact ⟨a, b, c⟩)
  exact ⟨_, K', by simp [Instr.box, newVar, newRow], a, b, c⟩

/-! ### Addresses -/
theorem shift_ok {K : Kn} {p d : DV} {o : Nat} {v : Value} (hp : K.V p v) (e : dShift p o = some d) : ∃ R x, v = .pointer (some ⟨R, x, none⟩) ∧ K.V d (.pointer (some ⟨R, x + o, none⟩)) := by
  cases p with
  | dptr cells off =>
    cases e
    cases hp with
    | dptr R o' vals h1 h2 => exact ⟨R, o' + off, rfl, by rw [Nat.add_assoc]; exact .dptr R o' vals h1 h2⟩
  | ptr b off =>
    cases e
    cases hp with
    | ptr hp => exact ⟨_, _, rfl, by rw [Nat.add_assoc]; exact .ptr hp⟩
  | eptr b v i off =>
    cases e
    cases hp with
    | eptr hp => exact ⟨_, _, rfl, by rw [Nat.add_assoc]; exact .eptr hp⟩
  | _ => simp [dShift] at e
theorem fieldOff_ok {P : Program} {ti : Nat → TI} (hT : TIOK P ti) {t f o t' : Nat} (e : fieldOff (ti t) f = some (o, t')) :
    ∃ fields : Array Field, ∃ q, P.underlying t = some (.struct fields) ∧ fields[f]? = some q ∧ q.offset = o ∧ q.type = t' := by
  unfold fieldOff at e
  split at e
  · rename_i fs hk
    obtain ⟨d, h1, h2⟩ := (hT t (.inr (by rw [hk]; trivial))).under
    rw [hk] at h2
    obtain ⟨fields, rfl, rfl⟩ := h2
    simp only [List.getElem?_map, Option.map_eq_some_iff, Prod.mk.injEq, Array.getElem?_toList] at e
    obtain ⟨q, a, b, c⟩ := e
    exact ⟨fields, q, h1, a, b, c⟩
  · cases e
theorem fieldPlace_ok {P : Program} {ti : Nat → TI} (hT : TIOK P ti) {q : Field} (h1 : 1 ≤ (ti q.type).size) (R x : Nat) (w : World) :
    (fieldPlace ⟨R, x, none⟩ q).run P w = .ok ⟨R, x + q.offset, none⟩ w := by
  simp only [fieldPlace, Sem.run_bind, (hT q.type (.inl h1)).sizeOf, Result.andThen_ok]
  rw [if_neg (by omega), addr_add]; rfl
theorem fieldAddr_ok {P : Program} {c : Ctx} (hT : TIOK P c.ti) {K : Kn} {t f : Nat} {p d : DV} {v : Value} (hp : K.V p v) (e : dFieldAddr c (c.ti t) p f = some d) (w : World) :
    ∃ v', (Instr.fieldAt t v f).run P w = .ok v' w ∧ K.V d v' := by
  unfold dFieldAddr at e
  split at e
  · rename_i o t' ho
    obtain ⟨fields, q, h1, h2, rfl, rfl⟩ := fieldOff_ok hT ho
    cases hb : Nat.ble 1 (c.ti q.type).size with
    | false => rw [hb] at e; cases e
    | true =>
      rw [hb] at e
      obtain ⟨R, x, rfl, hv⟩ := shift_ok hp e
      refine ⟨_, ?_, hv⟩
      simp [Instr.fieldAt, underlying, h1, h2, Instr.sureAddr, fieldPlace_ok hT (Nat.le_of_ble_eq_true hb)]
  · cases e
theorem inRange_ok {n : Int} {len : Nat} (h : inRange n len = true) : 0 ≤ n ∧ n < (len : Int) := of_decide_eq_true h
theorem kind_ok {P : Program} {ti : Nat → TI} (hT : TIOK P ti) {t : Nat} {k : TK} (e : (ti t).kind = k) (hk : match k with | .other => False | _ => True) : ∃ d, P.underlying t = some d ∧ KR k d := by
  obtain ⟨d, h1, h2⟩ := (hT t (.inr (by rw [e]; cases k <;> first | trivial | exact hk.elim))).under
  exact ⟨d, h1, e ▸ h2⟩
theorem indexAddr_ok {P : Program} {c : Ctx} (hT : TIOK P c.ti) {K : Kn} {t : Nat} {x ix d : DV} {xv iv : Value} (hx : K.V x xv) (hi : K.V ix iv) (e : dIndexAddr c (c.ti t) x ix = some d) (w : World) :
    ∃ v', (Instr.indexAt t xv iv).run P w = .ok v' w ∧ K.V d v' := by
  unfold dIndexAddr at e
  split at e
  · rename_i k n
    cases hi
    split at e
    · rename_i el hk
      obtain ⟨dd, hu, hkr⟩ := kind_ok hT hk trivial
      have hkr : dd = .slice el := hkr
      subst hkr
      split at e
      · rename_i sz es
        cases hr : inRange n es.length with
        | false => rw [hr] at e; cases e
        | true =>
          obtain ⟨n0, n1⟩ := inRange_ok hr
          cases hb : Nat.beq sz (c.ti el).size with
          | false => rw [hr, hb] at e; cases e
          | true =>
            cases hb1 : Nat.ble 1 sz with
            | false => rw [hr, hb, hb1] at e; cases e
            | true =>
              rw [hr, hb, hb1] at e
              simp only [Bool.and_true, cond_true] at e
              have hsz := Nat.eq_of_beq_eq_true hb
              have h1 := Nat.le_of_ble_eq_true hb1
              split at e
              · rename_i cells hc
                obtain ⟨hn, rfl⟩ := List.getElem?_eq_some_iff.1 hc
                cases e
                cases hx with
                | dsl R o cap vals hs hcap f1 f2 =>
                  have hst := (hT el (.inl (by omega))).sizeOf w
                  refine ⟨.pointer (some ⟨R, o + n.toNat * sz + 0, none⟩), ?_, .dptr R (o + n.toNat * sz) (fun j => vals n.toNat j) (fun j hj => f1 _ j hn (by rw [← hs _ hn]; exact hj)) (fun j hj => f2 _ hn j hj)⟩
                  simp [Instr.indexAt, asIntOf, underlying, hu, n0, n1, hst, addr_add, ← hsz]
                | dsl0 a cap => simp at hn
              · cases e
      · rename_i b v z off len
        cases hr : inRange n len with
        | false => rw [hr] at e; cases e
        | true =>
          obtain ⟨n0, n1⟩ := inRange_ok hr
          cases hb : Nat.beq z (c.ti el).size with
          | false => rw [hr, hb] at e; cases e
          | true =>
            cases hb1 : Nat.ble 1 z with
            | false => rw [hr, hb, hb1] at e; cases e
            | true =>
              rw [hr, hb, hb1] at e
              simp only [Bool.and_true, cond_true] at e
              cases e
              have hsz := Nat.eq_of_beq_eq_true hb
              have h1 := Nat.le_of_ble_eq_true hb1
              have hst := (hT el (.inl (by omega))).sizeOf w
              cases hx with
              | sl cap hp hs hlen hfin =>
                rename_i p
                refine ⟨.pointer (some ⟨p.blk, p.off + (off + n.toNat) * p.sz + 0, none⟩), ?_, .eptr hp⟩
                have e1 : p.off + off * z + n.toNat * z = p.off + (off + n.toNat) * z := by rw [Nat.add_mul]; omega
                simp [Instr.indexAt, asIntOf, underlying, hu, n0, n1, hst, addr_add, ← hsz, hs, e1]
              | sl0 a hp hs => simp at n1; omega
      · cases e
    · rename_i len el hk
      obtain ⟨dd, hu, hkr⟩ := kind_ok hT hk trivial
      have hkr : dd = .array len el := hkr
      subst hkr
      cases hr : inRange n len with
      | false => rw [hr] at e; cases e
      | true =>
        obtain ⟨n0, n1⟩ := inRange_ok hr
        cases hb1 : Nat.ble 1 (c.ti el).size with
        | false => rw [hr, hb1] at e; cases e
        | true =>
          rw [hr, hb1] at e
          simp only [Bool.and_true, cond_true] at e
          have hst := (hT el (.inl (Nat.le_of_ble_eq_true hb1))).sizeOf w
          obtain ⟨R, x', rfl, hv⟩ := shift_ok hx e
          refine ⟨_, ?_, hv⟩
          simp [Instr.indexAt, asIntOf, underlying, hu, n0, n1, hst, addr_add, Instr.sureAddr]
    · cases e
  · cases e
end Dv
end

section
set_option autoImplicit false
set_option linter.unusedVariables false
set_option linter.unusedSimpArgs false
namespace Dv
open Go

/-- Cells and an array, one by one. -/
def CsR (K : Kn) (ds : List DV) (cs : Array Value) : Prop := cs.size = ds.length ∧ ∀ j (hj : j < ds.length), ∃ hj' : j < cs.size, K.V ds[j] cs[j]
theorem CsR.agg {K : Kn} {ds : List DV} {cs : Array Value} (h : CsR K ds cs) : K.V (.agg ds) (.agg cs) :=
  .agg cs h.1 fun j hj => by obtain ⟨hj', hv⟩ := h.2 j hj; rw [getD_eq cs j undef cs[j] (by simp [hj'])]; exact hv
theorem CsR.of_agg {K : Kn} {ds : List DV} {v : Value} (h : K.V (.agg ds) v) : ∃ cs, v = .agg cs ∧ CsR K ds cs := by
  cases h with
  | agg cs hs hv => exact ⟨cs, rfl, hs, fun j hj => ⟨by omega, by have := hv j hj; rwa [getD_eq cs j undef cs[j] (by simp [hs, hj])] at this⟩⟩

/-! ### A part of an aggregate -/
theorem part_ok {P : Program} {K : Kn} {i : TI} {t : Nat} (ht : TyOK P i t) {ds : List DV} {cs : Array Value} (hc : CsR K ds cs) {off : Nat} {d : DV} (e : rdCells i.agg i.size ds off = some d) (w : World) :
    ∃ v, (part t cs off).run P w = .ok v w ∧ K.V d v := by
  unfold rdCells at e
  cases ha : i.agg with
  | true =>
    rw [ha] at e
    simp only [cond_true] at e
    split at e
    · rename_i hle
      cases e
      refine ⟨.agg (cs.extract off (off + i.size)), ?_, ?_⟩
      · simp only [part, Sem.run_bind, ht.isAgg, Result.andThen_ok, ha, if_true, ht.sizeOf, Sem.run_pure]
      · refine CsR.agg ⟨by simp [hc.1]; omega, fun j hj => ?_⟩
        have hj' : j < i.size := by simp at hj; omega
        obtain ⟨h1, h2⟩ := hc.2 (off + j) (by omega)
        refine ⟨by simp [hc.1]; omega, ?_⟩
        simpa using h2
    · cases e
  | false =>
    rw [ha] at e
    simp only [cond_false] at e
    cases hs : Nat.beq i.size 1 with
    | false => rw [hs] at e; cases e
    | true =>
      rw [hs] at e
      simp only [cond_true] at e
      obtain ⟨hoff, e⟩ := List.getElem?_eq_some_iff.1 e
      subst e
      obtain ⟨h1, h2⟩ := hc.2 off hoff
      refine ⟨cs[off], ?_, h2⟩
      simp only [part, Sem.run_bind, ht.isAgg, Result.andThen_ok, ha]
      rw [if_neg (by simp)]
      simp [h1]
theorem field_ok {P : Program} {c : Ctx} (hT : TIOK P c.ti) {K : Kn} {t f : Nat} {x d : DV} {v : Value} (hx : K.V x v) (e : dField c (c.ti t) x f = some d) (w : World) :
    ∃ v', (Instr.field t v f).run P w = .ok v' w ∧ K.V d v' := by
  unfold dField at e
  split at e
  · rename_i o t' cs ho
    obtain ⟨fields, q, h1, h2, rfl, rfl⟩ := fieldOff_ok hT ho
    obtain ⟨vs, rfl, hc⟩ := CsR.of_agg hx
    obtain ⟨v', hr, hv⟩ := part_ok (tyOf hT e) hc e w
    exact ⟨v', by simp [Instr.field, underlying, h1, h2, asAgg, hr], hv⟩
  · cases e
theorem index_ok {P : Program} {c : Ctx} (hT : TIOK P c.ti) {K : Kn} {t : Nat} {x ix d : DV} {v iv : Value} (hx : K.V x v) (hi : K.V ix iv) (e : dIndex c (c.ti t) x ix = some d) (w : World) :
    ∃ v', (Instr.index t v iv).run P w = .ok v' w ∧ K.V d v' := by
  unfold dIndex at e
  split at e
  · rename_i k n
    cases hi
    split at e
    · rename_i len el cs hk
      obtain ⟨dd, hu, hkr⟩ := kind_ok hT hk trivial
      have hkr : dd = .array len el := hkr
      subst hkr
      cases hr : inRange n len with
      | false => rw [hr] at e; cases e
      | true =>
        obtain ⟨n0, n1⟩ := inRange_ok hr
        cases hb1 : Nat.ble 1 (c.ti el).size with
        | false => rw [hr, hb1] at e; cases e
        | true =>
          rw [hr, hb1] at e
          simp only [Bool.and_true, cond_true] at e
          obtain ⟨vs, rfl, hc⟩ := CsR.of_agg hx
          have ht := hT el (.inl (Nat.le_of_ble_eq_true hb1))
          obtain ⟨v', hr', hv⟩ := part_ok ht hc e w
          exact ⟨v', by simp [Instr.index, asIntOf, underlying, hu, n0, n1, ht.sizeOf, hr'], hv⟩
    · rename_i s hk
      obtain ⟨dd, hu, hkr⟩ := kind_ok hT hk trivial
      have hkr : dd = .string := hkr
      subst hkr
      cases hr : inRange n s.length with
      | false => rw [hr] at e; cases e
      | true =>
        obtain ⟨n0, n1⟩ := inRange_ok hr
        rw [hr] at e
        simp only [cond_true] at e
        split at e
        · rename_i b hb
          cases e
          cases hx with
          | str s' =>
            refine ⟨.int .u8 b.toNat, ?_, .int _ _⟩
            have hb' : s'[n.toNat]? = some b := by
              obtain ⟨hlt, e⟩ := List.getElem?_eq_some_iff.1 hb
              have hlt' : n.toNat < s'.size := by simpa using hlt
              rw [getElem?_pos s' n.toNat hlt']
              congr 1
            simp [Instr.index, asIntOf, underlying, hu, n0, hb']
        · cases e
    · cases e
  · cases e

/-! ### Building -/
def setAll (off : Nat) : List Value → Nat → Array Value → Array Value
  | [], _, cs => cs
  | v :: vs, k, cs => setAll off vs (k + 1) (cs.setIfInBounds (off + k) v)
theorem foldl_setAll (off : Nat) : ∀ (vs : List Value) (k : Nat) (cs : Array Value), (vs.zipIdx k).foldl (fun cs (c, j) => cs.setIfInBounds (off + j) c) cs = setAll off vs k cs
  | [], _, _ => rfl
  | v :: vs, k, cs => by simp only [List.zipIdx_cons, List.foldl_cons, setAll]; exact foldl_setAll off vs (k + 1) _
theorem setAll_size (off : Nat) : ∀ (vs : List Value) (k : Nat) (cs : Array Value), (setAll off vs k cs).size = cs.size
  | [], _, _ => rfl
  | v :: vs, k, cs => by simp only [setAll]; rw [setAll_size off vs (k + 1)]; simp
theorem setAll_at (off : Nat) : ∀ (vs : List Value) (k : Nat) (cs : Array Value) (x : Nat), (setAll off vs k cs)[x]? = if off + k ≤ x ∧ x < off + k + vs.length ∧ x < cs.size then vs[x - (off + k)]? else cs[x]?
  | [], k, cs, x => by simp only [setAll]; rw [if_neg (by simp only [List.length_nil]; omega)]
  | v :: vs, k, cs, x => by
    simp only [setAll]
    rw [setAll_at off vs (k + 1) _ x]
    simp only [Array.size_setIfInBounds, List.length_cons]
    by_cases h1 : x = off + k
    · subst h1
      by_cases h2 : off + k < cs.size
      · rw [if_neg (by omega), if_pos (by omega)]; simp [h2]
      · rw [if_neg (by omega), if_neg (by omega)]; simp [h2]
    · by_cases h2 : off + (k + 1) ≤ x ∧ x < off + (k + 1) + vs.length ∧ x < cs.size
      · rw [if_pos h2, if_pos (by omega)]
        rw [show x - (off + k) = (x - (off + (k + 1))) + 1 by omega]; simp
      · rw [if_neg h2, if_neg (by omega)]
        rw [Array.getElem?_setIfInBounds_ne (by omega)]
theorem setAll_ok {K : Kn} {ds new cs : List DV} {vs : Array Value} {off : Nat} {u : Value} (hc : CsR K ds vs) (e : wrCells ds off new = some cs) (hn : u.cells.size = new.length)
    (hv : ∀ j (hj : j < new.length), ∃ hj' : j < u.cells.size, K.V new[j] u.cells[j]) : CsR K cs (setAll off u.cells.toList 0 vs) := by
  obtain ⟨w1, w2⟩ := wrCells_len e
  refine ⟨by rw [setAll_size, hc.1, w1], fun j hj => ?_⟩
  refine ⟨by rw [setAll_size, hc.1]; omega, ?_⟩
  have hat := setAll_at off u.cells.toList 0 vs j
  simp only [Nat.add_zero, Array.length_toList] at hat
  have hjs : j < vs.size := by rw [hc.1]; omega
  rw [getElem?_pos _ j (by rw [setAll_size]; exact hjs)] at hat
  rcases wrCells_at e j hj (by omega) with ⟨⟨n1, n2⟩, e1⟩ | ⟨hne, e1⟩
  · rw [if_pos ⟨n1, by omega, hjs⟩] at hat
    obtain ⟨hj', hr⟩ := hv (j - off) (by omega)
    rw [show u.cells.toList[j - off]? = some u.cells[j - off] by simp [hj']] at hat
    rw [Option.some.inj hat, e1]; exact hr
  · rw [if_neg (by omega)] at hat
    rw [getElem?_pos _ j hjs] at hat
    obtain ⟨_, hr⟩ := hc.2 j (by omega)
    rw [Option.some.inj hat, e1]; exact hr
/-- Parts and values, one by one. -/
inductive PartsR (K : Kn) : List (Nat × DV) → List (Nat × Value) → Prop
  | nil : PartsR K [] []
  | cons {n : Nat} {d : DV} {v : Value} {l : List (Nat × DV)} {m : List (Nat × Value)} (h : K.V d v) (r : PartsR K l m) : PartsR K ((n, d) :: l) ((n, v) :: m)
theorem fill_ok {P : Program} {c : Ctx} (hT : TIOK P c.ti) {K : Kn} {dplace place : Nat → Option (Nat × Nat)} (hp : ∀ n o t, dplace n = some (o, t) → 1 ≤ (c.ti t).size + (if (c.ti t).agg then 1 else 0) → place n = some (o, (c.ti t).size)) :
    ∀ {l : List (Nat × DV)} {m : List (Nat × Value)} (hr : PartsR K l m) {ds cs : List DV} {vs : Array Value}, CsR K ds vs → dBuildParts c dplace ds l = some cs → ∃ vs', Instr.fill place vs m = some vs' ∧ CsR K cs vs' := by
  intro l m hr
  induction hr with
  | nil => intro ds cs vs hc e; simp only [dBuildParts] at e; cases e; exact ⟨vs, rfl, hc⟩
  | cons hv r ih =>
    rename_i n d v l m
    intro ds cs vs hc e
    simp only [dBuildParts] at e
    cases hpl : dplace n with
    | none => rw [hpl] at e; cases e
    | some x =>
      obtain ⟨o, t⟩ := x
      rw [hpl] at e
      simp only at e
      cases hok : okVal (c.ti t) d with
      | false => rw [hok] at e; cases e
      | true =>
        rw [hok] at e
        simp only [cond_true] at e
        split at e
        · rename_i cs1 hw
          obtain ⟨l1, l2, l3, l4⟩ := okVal_ok hok hv
          obtain ⟨w1, w2⟩ := wrCells_len hw
          have hc1 := setAll_ok (u := v) hc hw (by omega) (fun j hj => by obtain ⟨a, b, _⟩ := l4 j hj; exact ⟨a, b⟩)
          obtain ⟨vs', hf, hcr⟩ := ih hc1 e
          refine ⟨vs', ?_, hcr⟩
          simp only [Instr.fill, hp n o t hpl l3]
          rw [if_neg (by simp [l2, hc.1]; omega)]
          rw [← hf]
          congr 1
          rw [← foldl_setAll o]
          simp only [← Array.foldl_toList, Array.toList_zipIdx]
        · cases e
end Dv
end

section
set_option autoImplicit false
set_option linter.unusedVariables false
set_option linter.unusedSimpArgs false
namespace Dv
open Go

theorem places_some (P : Program) : ∀ (fs : List Field), (∀ f ∈ fs, (P.info? f.type).isSome = true) → ∃ places : List (Nat × Nat), fs.mapM (fun f => (P.info? f.type).map fun i => (f.offset, i.size)) = some places ∧
    ∀ (n : Nat) (f : Field) (i : TypeInfo), fs[n]? = some f → P.info? f.type = some i → places[n]? = some (f.offset, i.size)
  | [], _ => ⟨[], rfl, fun n f i h => by simp at h⟩
  | g :: fs, h => by
    obtain ⟨places, h1, h2⟩ := places_some P fs fun f hf => h f (List.mem_cons_of_mem _ hf)
    obtain ⟨gi, hgi⟩ := Option.isSome_iff_exists.1 (h g (List.mem_cons_self ..))
    refine ⟨(g.offset, gi.size) :: places, by simp [List.mapM_cons, hgi, h1], fun n f i hn hi => ?_⟩
    cases n with
    | zero => simp at hn; subst hn; rw [hgi] at hi; cases hi; rfl
    | succ n => simpa using h2 n f i (by simpa using hn) hi

theorem build_ok {P : Program} {c : Ctx} (hT : TIOK P c.ti) {K : Kn} {t : Nat} {l : List (Nat × DV)} {m : Array (Nat × Value)} (hr : PartsR K l m.toList) {d : DV} (e : dBuild c (c.ti t) l = some d) (w : World) :
    ∃ v, (Instr.build t m).run P w = .ok v w ∧ K.V d v := by
  unfold dBuild at e
  have zeroR : ∀ (ht : TyOK P (c.ti t) t) (q : TypeInfo) (z : Value), P.info? t = some q → q.zero = some z → CsR K (c.ti t).zero z.cells := by
    intro ht q z hq hz
    obtain ⟨z', h1, h2, h3, h4, h5⟩ := zero_cells ht w
    have : z' = z := by
      simp [zeroValue, typeInfo, hq, hz] at h1; exact h1.symm
    subst this
    exact ⟨by omega, fun j hj => by obtain ⟨a, b, _⟩ := h5 K.fm K.hp j hj; exact ⟨a, b⟩⟩
  split at e
  · rename_i fs hk
    obtain ⟨cs, hb, rfl⟩ := Option.map_eq_some_iff.1 e
    have ht := hT t (.inr (by rw [hk]; trivial))
    obtain ⟨q, dd, z, g1, g2, g3, g4, g5, g6, g7, g8, g9, g10, g11, g12⟩ := ht.ex
    rw [hk] at g3
    obtain ⟨fields, rfl, rfl⟩ := g3
    obtain ⟨places, p1, p2⟩ := places_some P fields.toList (g11 fields rfl)
    obtain ⟨vs', hf, hc⟩ := fill_ok hT (dplace := ((fields.toList.map fun f => (f.offset, f.type))[·]?)) (place := (places.toArray[·]?)) (by
      intro n o t' hn h1
      simp only [List.getElem?_map, Option.map_eq_some_iff, Prod.mk.injEq] at hn
      obtain ⟨f, a, rfl, rfl⟩ := hn
      have ht' : TyOK P (c.ti f.type) f.type := by
        refine hT _ ?_
        by_cases hag : (c.ti f.type).agg = true
        · exact .inr (agg_kind hag)
        · rw [if_neg hag] at h1; exact .inl (by omega)
      obtain ⟨q', _, _, f1, _, _, f4, _⟩ := ht'.ex
      have := p2 n f q' a f1
      rw [f4] at this
      simpa using this) hr (zeroR ht q z g1 g6) hb
    refine ⟨.agg vs', run_build w t m vs' ?_, hc.agg⟩
    unfold Program.built
    simp only [g1, g2, g6, p1]
    exact hf
  · rename_i len el hk
    obtain ⟨cs, hb, rfl⟩ := Option.map_eq_some_iff.1 e
    have ht := hT t (.inr (by rw [hk]; trivial))
    obtain ⟨q, dd, z, g1, g2, g3, g4, g5, g6, g7, g8, g9, g10, g11, g12⟩ := ht.ex
    rw [hk] at g3
    have g3 : dd = .array len el := g3
    subst g3
    -- the element's own size
    cases hq : P.info? el with
    | none => have := g12 len el rfl; rw [hq] at this; cases this
    | some qe =>
      obtain ⟨vs', hf, hc⟩ := fill_ok hT (dplace := fun n => some (n * (c.ti el).size, el)) (place := fun i => some (i * qe.size, qe.size)) (by
        intro n o t' hn h1
        cases hn
        have ht' : TyOK P (c.ti el) el := by
          refine hT _ ?_
          by_cases hag : (c.ti el).agg = true
          · exact .inr (agg_kind hag)
          · rw [if_neg hag] at h1; exact .inl (by omega)
        obtain ⟨q', _, _, f1, _, _, f4, _⟩ := ht'.ex
        rw [hq] at f1; cases f1
        rw [f4]) hr (zeroR ht q z g1 g6) hb
      refine ⟨.agg vs', run_build w t m vs' ?_, hc.agg⟩
      unfold Program.built
      simp only [g1, g2, g6, hq]
      exact hf
  · cases e
end Dv
end

section
set_option autoImplicit false
set_option linter.unusedVariables false
set_option linter.unusedSimpArgs false
namespace Dv
open Go

/-- Elements and a row of cells. -/
def EsR (K : Kn) (sz : Nat) (es : List (List DV)) (cs : Array Value) : Prop :=
  (∀ i (hi : i < es.length), es[i].length = sz) ∧ ∀ i (hi : i < es.length) j (hj : j < es[i].length), ∃ v, cs[i * sz + j]? = some v ∧ K.V es[i][j] v ∧ v.oneCell' = true

theorem new_row {base : Nat} {K : Kn} {h : Heap} {w w' : World} (H : HR base K h w) {c : Array Value} {t : TypeId} (nb : NewBlk w w' c t) {sz : Nat} {es : List (List DV)} (h1 : 1 ≤ sz)
    (he : EsR K sz es c) {cap : Nat} (hl : es.length ≤ cap) (hc : cap * sz ≤ c.size) :
    ∃ K', FP K h w K' (.row sz es 0 0 :: h) w' ∧ HR base K' (.row sz es 0 0 :: h) w' ∧ K'.V (.sl h.length 0 sz 0 es.length) (.slice (some ⟨w.heap.size, 0, none⟩) es.length cap) := by
  have hles : es.length * sz ≤ cap * sz := Nat.mul_le_mul_right _ hl
  have := alloc_ok H nb (.row sz es 0 0) ⟨w.heap.size, 0, cap * sz, sz⟩ rfl rfl rfl hc (fun K' hle k1 k2 p hp => by
    have := k2 p hp; subst this
    refine ⟨rfl, h1, by simpa using hles, he.1, fun i hi j hj => ?_⟩
    obtain ⟨v, a, b, d⟩ := he.2 i hi j hj
    exact ⟨v, by simp only [Nat.zero_add]; rw [nb.cell]; exact a, b.mono hle, d⟩)
  refine ⟨_, this.2, this.1, ?_⟩
  have hv := VR.sl (fm := K.fm) (hp := newHP K.hp h.length 0 ⟨w.heap.size, 0, cap * sz, sz⟩) (b := h.length) (v := 0) (sz := sz) (off := 0) (len := es.length) (p := ⟨w.heap.size, 0, cap * sz, sz⟩) cap (newHP_same ..) rfl hl (by simp)
  simpa using hv

/-- A new block that is written no more. -/
theorem new_frozen {base : Nat} {K : Kn} {h : Heap} {w w' : World} (H : HR base K h w) {c : Array Value} {t : TypeId} (nb : NewBlk w w' c t) (h1 : ∀ x (hx : x < c.size), c[x].oneCell' = true) :
    ∃ K', FP K h w K' h w' ∧ HR base K' h w' ∧ K'.hp = K.hp ∧ ∀ x, K'.fm w.heap.size x = c[x]? := by
  let fm' : FM := fun R x => if R = w.heap.size then c[x]? else K.fm R x
  have hfresh : ∀ x, K.fm w.heap.size x = none := fun x => by
    cases e : K.fm w.heap.size x with
    | none => rfl
    | some u => exact absurd (cellAt_lt (H.fm _ _ _ e)) (Nat.lt_irrefl _)
  have hle : K.le ⟨fm', K.hp⟩ := ⟨fun R x v e => by
    by_cases hR : R = w.heap.size
    · subst hR; rw [hfresh] at e; cases e
    · simp [fm', hR, e], HP.le.refl _⟩
  have cold : ∀ R x, R < w.heap.size → cellAt w' R x = cellAt w R x := fun R x hR => cellAt_congr (nb.old R hR) x
  have hlt : ∀ b o R lo hi, hget h b = some o → extOf K.hp b o = some (R, lo, hi) → R < w.heap.size := fun b o R lo hi e1 e2 => by
    obtain ⟨q, h1, h2, _⟩ := extOf_hp e2
    exact h2 ▸ (H.host b o q e1 h1).2
  refine ⟨⟨fm', K.hp⟩, ⟨nb.os, nb.tape, nb.output, by rw [nb.size]; omega, hle, Nat.le_refl _, ?_, fun R h => .inr h, fun R x h => .inr h, fun R hR _ => nb.old R hR, fun R x hR _ => cold R x hR, fun _ _ hn => ⟨rfl, hn⟩⟩,
    ⟨by rw [nb.size]; have := H.bsz; omega, ?_, ?_, H.dom, ?_, ?_, ?_, H.dis, H.mobj, H.ver⟩, rfl, fun x => by simp [fm']⟩
  · intro R x v e1 e2
    by_cases hR : R = w.heap.size
    · exact .inl (Nat.le_of_eq hR.symm)
    · simp [fm', hR, e2] at e1
  · intro R x v e
    by_cases hR : R = w.heap.size
    · subst hR; rw [nb.cell]; simpa [fm'] using e
    · have e : K.fm R x = some v := by simpa [fm', hR] using e
      have := H.fm R x v e
      exact (cold R x (cellAt_lt this)).trans this
  · intro R x v e
    by_cases hR : R = w.heap.size
    · have e : c[x]? = some v := by simpa [fm', hR] using e
      obtain ⟨hx, rfl⟩ := Array.getElem?_eq_some_iff.1 e
      exact h1 x hx
    · exact H.fmone R x v (by simpa [fm', hR] using e)
  · intro b o e
    refine (H.obj b o e).keep hle rfl (fun R lo hi he x _ _ => cold R x (hlt b o R lo hi e he)) (fun hb p hp => nb.old _ ?_)
    exact (H.host b o p e (by cases o <;> simp_all [bare, curVer])).2
  · intro b o p e1 e2
    have := H.host b o p e1 e2
    rw [nb.size]; omega
  · intro b o R lo hi e1 e2
    obtain ⟨⟨c', t', f', a1, a2⟩, a3⟩ := H.reg b o R lo hi e1 e2
    have hR : R < w.heap.size := (Array.getElem?_eq_some_iff.1 a1).1
    refine ⟨⟨c', t', f', (nb.old R hR).trans a1, a2⟩, fun x x1 x2 => ⟨(frozen_congr (nb.old R hR) x).trans (a3 x x1 x2).1, ?_⟩⟩
    have := (a3 x x1 x2).2
    simpa [fm', Nat.ne_of_lt hR] using this
/-- Flat or deep: what a cell's value says without any heap. -/
theorem dsl_of {K K' : Kn} {c : Array Value} {sz : Nat} {es : List (List DV)} {R : Nat} (he : EsR K sz es c) (hR : ∀ x, K'.fm R x = c[x]?) (hle : K.le K')
    (hd : ∀ i (hi : i < es.length) j (hj : j < es[i].length) v, K.V es[i][j] v → VR K.fm noHP es[i][j] v) (cap : Nat) (hcap : es.length ≤ cap) : K'.V (.dsl sz es) (.slice (some ⟨R, 0, none⟩) es.length cap) := by
  refine .dsl R 0 cap (fun i j => (c[i * sz + j]?).getD undef) he.1 hcap (fun i j hi hj => ?_) (fun i hi j hj => ?_)
  · obtain ⟨v, a, _⟩ := he.2 i hi j (by rw [he.1 i hi]; exact hj)
    rw [Nat.zero_add, hR, a]; rfl
  · obtain ⟨v, a, b, _⟩ := he.2 i hi j hj
    rw [a]; exact VR.mono hle.1 (hd i hi j hj v b) (HP.le.refl _)
end Dv
end

section
set_option autoImplicit false
set_option linter.unusedVariables false
set_option linter.unusedSimpArgs false
namespace Dv
open Go

theorem flat_VR {fm : FM} {hp hp' : HP} {d : DV} {v : Value} (h : VR fm hp d v) (hf : d.flat = true) : VR fm hp' d v := by
  cases h with
  | bool b => exact .bool b
  | int k n => exact .int k n
  | str s => exact .str s
  | nil => exact .nil
  | dptr R o vals h1 h2 => exact .dptr R o vals h1 h2
  | nsl => exact .nsl
  | dsl R o cap vals hsz hcap h1 h2 => exact .dsl R o cap vals hsz hcap h1 h2
  | dsl0 a cap => exact .dsl0 a cap
  | nilFn => exact .nilFn
  | nmp => exact .nmp
  | nilIface => exact .nilIface
  | _ => simp [DV.flat] at hf

theorem repl_length {α : Type} (n : Nat) (x : α) : (repl n x).length = n := by induction n <;> simp_all [repl]
theorem repl_at {α : Type} (n : Nat) (x : α) (i : Nat) (hi : i < (repl n x).length) : (repl n x)[i] = x := by
  induction n generalizing i with
  | zero => simp [repl] at hi
  | succ n ih => cases i with
    | zero => rfl
    | succ i => exact ih i (by simpa [repl] using hi)

/-- 'n' elements of the zero value. -/
theorem zeros_EsR {P : Program} {i : TI} {t : Nat} (ht : TyOK P i t) (w : World) : ∃ z : Value, (zeroValue t).run P w = .ok z w ∧ z.cells.size = i.size ∧ ∀ (K : Kn) (n m : Nat), n ≤ m → 1 ≤ i.size →
    EsR K i.size (repl n i.zero) ((Array.range (m * i.size)).map fun x => z.cells[x % z.cells.size]!) := by
  obtain ⟨z, h1, h2, h3, h4, h5⟩ := zero_cells ht w
  refine ⟨z, h1, h2, fun K n m hnm hs => ⟨fun i hi => by rw [repl_at]; exact h3, fun a ha j hj => ?_⟩⟩
  have ha' : a < n := by rw [repl_length] at ha; exact ha
  have hj' : j < i.size := by rw [repl_at, h3] at hj; exact hj
  obtain ⟨hjz, hv, hone⟩ := h5 K.fm K.hp j (by omega)
  have hidx := idx_lt (show a < m by omega) hj'
  refine ⟨z.cells[j], ?_, ?_, hone⟩
  · simp only [Array.getElem?_map, Array.getElem?_range, hidx, if_true, Option.map_some]
    rw [h2]
    have : (a * i.size + j) % i.size = j := by rw [Nat.mul_comm, Nat.mul_add_mod, Nat.mod_eq_of_lt hj']
    rw [this]
    simp [hjz]
  · have e : (repl n i.zero)[a] = i.zero := repl_at _ _ _ ha
    simp only [e]; exact hv

theorem setElems_ok {P : Program} {c : Ctx} (hT : TIOK P c.ti) {K : Kn} {el : Nat} (h1 : 1 ≤ (c.ti el).size) : ∀ {l : List (Nat × DV)} {m : List (Nat × Value)} (hr : PartsR K l m) {es es' : List (List DV)} {vs : Array Value},
    EsR K (c.ti el).size es vs → vs.size = es.length * (c.ti el).size → dSetElems (c.ti el) es l = some es' →
    ∃ vs', Instr.fill (fun i => some (i * (c.ti el).size, (c.ti el).size)) vs m = some vs' ∧ EsR K (c.ti el).size es' vs' ∧ vs'.size = vs.size ∧ es'.length = es.length := by
  intro l m hr
  induction hr with
  | nil => intro es es' vs he hs e; simp only [dSetElems] at e; cases e; exact ⟨vs, rfl, he, rfl, rfl⟩
  | cons hv r ih =>
    rename_i n d v l m
    intro es es' vs he hs e
    simp only [dSetElems] at e
    cases hok : okVal (c.ti el) d with
    | false => rw [hok] at e; cases e
    | true =>
      cases hn : decide (n < es.length) with
      | false => rw [hok, hn] at e; cases e
      | true =>
        rw [hok, hn] at e
        simp only [Bool.and_true, cond_true] at e
        have hn := of_decide_eq_true hn
        obtain ⟨l1, l2, l3, l4⟩ := okVal_ok hok hv
        have hidx : (n + 1) * (c.ti el).size ≤ es.length * (c.ti el).size := Nat.mul_le_mul_right _ hn
        rw [Nat.add_mul] at hidx
        have hnew : EsR K (c.ti el).size (es.set n d.cells) (setAll (n * (c.ti el).size) v.cells.toList 0 vs) := by
          refine ⟨fun i hi => ?_, fun i hi j hj => ?_⟩
          · by_cases hin : i = n
            · subst hin; simp; exact l1
            · rw [List.getElem_set_ne (fun h => hin h.symm)]; exact he.1 i (by simpa using hi)
          · have hat := setAll_at (n * (c.ti el).size) v.cells.toList 0 vs (i * (c.ti el).size + j)
            simp only [Nat.add_zero, Array.length_toList] at hat
            by_cases hin : i = n
            · subst hin
              simp only [List.getElem_set_self] at hj ⊢
              obtain ⟨hj', a, b, _⟩ := l4 j hj
              rw [if_pos (by omega)] at hat
              refine ⟨v.cells[j], ?_, a, b⟩
              rw [hat]; simp [hj']
            · have hi' : i < es.length := by simpa using hi
              have e2 : (es.set n d.cells)[i] = es[i] := List.getElem_set_ne (fun h => hin h.symm) _
              have hj2 : j < es[i].length := by simpa only [e2] using hj
              have hji : j < (c.ti el).size := by rw [← he.1 i hi']; exact hj2
              have hsep : i * (c.ti el).size + j < n * (c.ti el).size ∨ (n + 1) * (c.ti el).size ≤ i * (c.ti el).size := by
                rcases Nat.lt_or_gt_of_ne hin with hlt | hgt
                · exact .inl (idx_lt hlt hji)
                · exact .inr (Nat.mul_le_mul_right _ hgt)
              rw [Nat.add_mul] at hsep
              rw [if_neg (by omega)] at hat
              obtain ⟨u, a, b, d'⟩ := he.2 i hi' j hj2
              have e3 : (es.set n d.cells)[i][j] = es[i][j] := by simp only [e2]
              exact ⟨u, hat.trans a, by rw [e3]; exact b, d'⟩
        obtain ⟨vs', hf, he', hs', hl'⟩ := ih hnew (by rw [setAll_size, hs]; simp) e
        refine ⟨vs', ?_, he', by rw [hs', setAll_size], by rw [hl']; simp⟩
        simp only [Instr.fill]
        rw [if_neg (by simp [l2, hs]; omega)]
        rw [← hf]
        congr 1
        rw [← foldl_setAll (n * (c.ti el).size)]
        simp only [← Array.foldl_toList, Array.toList_zipIdx]

/-- A composite of elements: a live row, or one that is written no more. -/
theorem buildSlice_ok {P : Program} {c : Ctx} (hT : TIOK P c.ti) {base : Nat} {K : Kn} {h : Heap} {w : World} (H : HR base K h w) {t n sz : Nat} {l : List (Nat × DV)} {m : Array (Nat × Value)} (hr : PartsR K l m.toList)
    {es : List (List DV)} (e : dBuildSlice c (c.ti t) n l = some (sz, es)) :
    ∃ w', (Instr.buildSlice t n m).run P w = .ok (.slice (some ⟨w.heap.size, 0, none⟩) n n) w' ∧
      (∃ K', FP K h w K' (.row sz es 0 0 :: h) w' ∧ HR base K' (.row sz es 0 0 :: h) w' ∧ K'.V (.sl h.length 0 sz 0 n) (.slice (some ⟨w.heap.size, 0, none⟩) n n)) ∧
      ((es.all fun cs => cs.all DV.flat) = true → ∃ K', FP K h w K' h w' ∧ HR base K' h w' ∧ K'.V (.dsl sz es) (.slice (some ⟨w.heap.size, 0, none⟩) n n)) := by
  unfold dBuildSlice at e
  split at e
  · rename_i el hk
    obtain ⟨dd, hu, hkr⟩ := kind_ok hT hk trivial
    have hkr : dd = .slice el := hkr
    subst hkr
    cases hc1 : decide (n ≤ 1000000) && decide (1 ≤ (c.ti el).size) && decide ((c.ti el).size ≤ 16) with
    | false => rw [hc1] at e; cases e
    | true =>
      rw [hc1] at e
      simp only [cond_true] at e
      simp only [Bool.and_eq_true, decide_eq_true_eq] at hc1
      obtain ⟨⟨n1, n2⟩, n3⟩ := hc1
      obtain ⟨es', hb, e⟩ := Option.map_eq_some_iff.1 e
      cases e
      have ht := hT el (.inl n2)
      obtain ⟨z, hz, hzs, hE⟩ := zeros_EsR ht w
      have hE := hE K n n (Nat.le_refl _) n2
      obtain ⟨vs', hf, he', hs', hl'⟩ := setElems_ok hT n2 hr hE (by rw [repl_length]; simp) hb
      have hl : es.length = n := by rw [hl', repl_length]
      have hcells : vs'.size = n * (c.ti el).size := by rw [hs']; simp
      have hprod : n * (c.ti el).size ≤ 1000000 * 16 := Nat.mul_le_mul n1 n3
      refine ⟨w.alloc (.cells vs' el), ?_, ?_, ?_⟩
      · simp only [Instr.buildSlice, Sem.run_bind, run_underlying hu, Result.andThen_ok, ht.sizeOf]
        rw [if_neg (by omega)]
        by_cases h0 : n * (c.ti el).size = 0
        · have e0 : ((Array.range (n * (c.ti el).size)).map fun x => (#[] : Array Value)[x % (#[] : Array Value).size]!) = ((Array.range (n * (c.ti el).size)).map fun x => z.cells[x % z.cells.size]!) :=
            Array.ext (by simp) (fun i h1 _ => absurd h1 (by simp [h0]))
          rw [if_pos h0]
          simp only [Sem.run_bind, Sem.run_pure, Result.andThen_ok]
          rw [e0, hf]
          simp [newRow]
        · rw [if_neg h0]
          simp only [Sem.run_bind, hz, Sem.run_pure, Result.andThen_ok]
          rw [hf]
          simp [newRow]
      · obtain ⟨K', a, b, d⟩ := new_row H (NewBlk.alloc w vs' el) n2 he' (cap := n) (by omega) (by omega)
        rw [hl] at d
        exact ⟨K', a, b, d⟩
      · intro hflat
        have hone : ∀ x (hx : x < vs'.size), vs'[x].oneCell' = true := fun x hx => by
          have hx' : x < n * (c.ti el).size := by omega
          have hi : x / (c.ti el).size < es.length := by rw [hl]; exact Nat.div_lt_of_lt_mul (by rw [Nat.mul_comm]; exact hx')
          have hj : x % (c.ti el).size < (c.ti el).size := Nat.mod_lt _ n2
          obtain ⟨u, a, _, b⟩ := he'.2 _ hi _ (by rw [he'.1 _ hi]; exact hj)
          have ex : x / (c.ti el).size * (c.ti el).size + x % (c.ti el).size = x := by rw [Nat.mul_comm]; exact Nat.div_add_mod _ _
          rw [ex] at a
          obtain ⟨_, rfl⟩ := Array.getElem?_eq_some_iff.1 a
          exact b
        obtain ⟨K', a, b, d, f⟩ := new_frozen H (NewBlk.alloc w vs' el) hone
        refine ⟨K', a, b, ?_⟩
        have := dsl_of he' f a.kle (fun i hi j hj v hv => flat_VR hv (by
          simp only [List.all_eq_true] at hflat
          exact hflat _ (List.getElem_mem hi) _ (List.getElem_mem hj))) n (by omega)
        rw [hl] at this
        exact this
  · cases e
end Dv
end

section
set_option autoImplicit false
set_option linter.unusedVariables false
set_option linter.unusedSimpArgs false
namespace Dv
open Go
theorem extract_at (s' : ByteArray) (n i : Nat) (h : i < n) (h2 : n ≤ s'.size) : (s'.extract 0 n).data[i]? = some (s'.data[i]'(by show i < s'.size; omega)) := by
  have h3 : i < s'.data.size := by show i < s'.size; omega
  have e : (s'.extract 0 n).data = s'.data.extract 0 n := by
    first | exact ByteArray.data_extract .. | simp [ByteArray.extract, ByteArray.copySlice]
  rw [e, Array.getElem?_extract]
  simp; omega

theorem divmod (x sz : Nat) : x / sz * sz + x % sz = x := by rw [Nat.mul_comm]; exact Nat.div_add_mod _ _
theorem rowRead {P : Program} {w : World} {R o n sz : Nat} (hc : ∀ i, i < n → ∀ j, j < sz → ∃ v, cellAt w R (o + i * sz + j) = some v) :
    ∃ A : Array Value, (loadCells ⟨R, o, none⟩ (n * sz)).run P w = .ok A w ∧ A.size = n * sz ∧ ∀ i, i < n → ∀ j, j < sz → A[i * sz + j]? = cellAt w R (o + i * sz + j) := by
  have hcell : ∀ x, x < n * sz → w.cell? ((⟨R, o, none⟩ : Addr).add x) = some ((cellAt w R (o + x)).getD undef) := fun x hx => by
    have hs : 0 < sz := by rcases Nat.eq_zero_or_pos sz with h | h; · subst h; simp at hx
                           · exact h
    obtain ⟨v, hv⟩ := hc (x / sz) (Nat.div_lt_of_lt_mul (by rw [Nat.mul_comm]; exact hx)) (x % sz) (Nat.mod_lt _ hs)
    rw [Nat.add_assoc, divmod] at hv
    rw [addr_add]
    show cellAt w R (o + x) = _
    rw [hv]; rfl
  refine ⟨_, run_loadCells w _ _ _ hcell, by simp, fun i hi j hj => ?_⟩
  obtain ⟨v, hv⟩ := hc i hi j hj
  have := idx_lt hi hj
  simp only [List.getElem?_toArray, List.getElem?_map]
  rw [List.getElem?_range this]
  simp only [Option.map_some, ← Nat.add_assoc]
  rw [hv]; rfl

/-- The elements that a slice or a string reads. -/
theorem elems_ok {P : Program} {base : Nat} {K : Kn} {h : Heap} {w : World} (H : HR base K h w) {sz : Nat} {x : DV} {v : Value} (hx : K.V x v) {es : List (List DV)} (e : dElems sz x h = some es) :
    (Builtin.lenOf v).run P w = .ok es.length w ∧ ∀ n, n ≤ es.length → ∃ A : Array Value, (Builtin.firstCells sz n v).run P w = .ok A w ∧ A.size = n * sz ∧ EsR K sz (es.take n) A := by
  -- rows of memory
  have mem : ∀ (R o cap : Nat) (es : List (List DV)) (hs : ∀ i (hi : i < es.length), es[i].length = sz) (hc : ∀ i (hi : i < es.length) j (hj : j < es[i].length), ∃ u, cellAt w R (o + i * sz + j) = some u ∧ K.V es[i][j] u ∧ u.oneCell' = true),
      (Builtin.lenOf (.slice (some ⟨R, o, none⟩) es.length cap)).run P w = .ok es.length w ∧ ∀ n, n ≤ es.length → ∃ A : Array Value, (Builtin.firstCells sz n (.slice (some ⟨R, o, none⟩) es.length cap)).run P w = .ok A w ∧ A.size = n * sz ∧ EsR K sz (es.take n) A := by
    intro R o cap es hs hc
    refine ⟨rfl, fun n hn => ?_⟩
    obtain ⟨A, a1, a2, a3⟩ := rowRead (P := P) (w := w) (R := R) (o := o) (n := n) (sz := sz) (fun i hi j hj => by
      obtain ⟨u, hu, _⟩ := hc i (by omega) j (by rw [hs]; exact hj)
      exact ⟨u, hu⟩)
    refine ⟨A, a1, a2, fun i hi => ?_, fun i hi j hj => ?_⟩
    · simp only [List.getElem_take]; exact hs i (by simp at hi; omega)
    · have hi' : i < n := by simp at hi; omega
      have hie : i < es.length := by omega
      have e1 : (es.take n)[i] = es[i] := List.getElem_take
      have hj' : j < es[i].length := by simpa only [e1] using hj
      obtain ⟨u, hu, hv, h1⟩ := hc i hie j hj'
      refine ⟨u, (a3 i hi' j (by rw [← hs i hie]; exact hj')).trans hu, ?_, h1⟩
      have e2 : (es.take n)[i][j] = es[i][j] := by simp only [e1]
      rw [e2]; exact hv
  cases x with
  | dsl z es0 =>
    simp only [dElems] at e
    cases hb : Nat.beq z sz with
    | false => rw [hb] at e; cases e
    | true =>
      rw [hb] at e
      have hz := Nat.eq_of_beq_eq_true hb
      subst hz
      cases e
      cases hx with
      | dsl R o cap vals hs hcap f1 f2 =>
        exact mem R o cap es hs fun i hi j hj => ⟨vals i j, H.fm _ _ _ (f1 i j hi (by rw [← hs i hi]; exact hj)), VR.mono (FM.le.refl _) (f2 i hi j hj) (noHP_le _), H.fmone _ _ _ (f1 i j hi (by rw [← hs i hi]; exact hj))⟩
      | dsl0 a cap =>
        refine ⟨rfl, fun n hn => ?_⟩
        have : n = 0 := by simpa using hn
        subst this
        exact ⟨#[], by simp [Builtin.firstCells, loadCells, loadCellsFrom], by simp, fun i hi => by simp at hi, fun i hi => by simp at hi⟩
  | nsl =>
    simp only [dElems] at e
    cases e
    cases hx
    refine ⟨rfl, fun n hn => ?_⟩
    have : n = 0 := by simpa using hn
    subst this
    exact ⟨#[], rfl, by simp, fun i hi => by simp at hi, fun i hi => by simp at hi⟩
  | sl b ver z off len =>
    simp only [dElems] at e
    cases hb : Nat.beq z sz with
    | false => rw [hb] at e; cases e
    | true =>
      rw [hb] at e
      have hz := Nat.eq_of_beq_eq_true hb
      subst hz
      simp only [cond_true] at e
      cases hg : hget h b with
      | none => rw [hg] at e; cases e
      | some o =>
        rw [hg] at e
        cases o with
        | row sz' es0 v' f =>
          simp only at e
          split at e
          · rename_i hcond
            obtain ⟨hver, hlen⟩ := hcond
            subst hver
            cases e
            have hl : ((es0.drop off).take len).length = len := by simp; omega
            cases hx with
            | sl cap hp hs hlc hfin =>
              rename_i p
              obtain ⟨a1, a2, a3, a4, a5⟩ := H.obj b _ hg p hp
              have hzz : z = sz' := hs.symm.trans a1
              subst hzz
              have := mem p.blk (p.off + off * z) cap ((es0.drop off).take len) (fun i hi => by simp only [List.getElem_take, List.getElem_drop]; exact a4 _ (by simp at hi; omega)) (fun i hi j hj => by
                have e1 : ((es0.drop off).take len)[i] = es0[off + i]'(by simp at hi; omega) := by simp
                have hj' : j < (es0[off + i]'(by simp at hi; omega)).length := by simpa only [e1] using hj
                obtain ⟨u, hu, hv, h1⟩ := a5 (off + i) (by simp at hi; omega) j hj'
                have e3 : p.off + off * z + i * z + j = p.off + (off + i) * z + j := by rw [Nat.add_mul]; omega
                have e2 : ((es0.drop off).take len)[i][j] = (es0[off + i]'(by simp at hi; omega))[j] := by simp only [e1]
                exact ⟨u, by rw [e3]; exact hu, by rw [e2]; exact hv, h1⟩)
              rw [hl] at this ⊢
              exact this
            | sl0 a hp hs =>
              have h0 : ((es0.drop off).take 0) = [] := by simp
              rw [h0]
              refine ⟨rfl, fun n hn => ?_⟩
              have : n = 0 := by simpa using hn
              subst this
              exact ⟨#[], by simp [Builtin.firstCells, loadCells, loadCellsFrom], by simp, fun i hi => by simp at hi, fun i hi => by simp at hi⟩
          · cases e
        | _ => cases e
  | str s =>
    simp only [dElems] at e
    cases hb : Nat.beq 1 sz with
    | false => rw [hb] at e; cases e
    | true =>
      rw [hb] at e
      have hz := Nat.eq_of_beq_eq_true hb
      subst hz
      cases e
      cases hx with
      | str s' =>
        refine ⟨by simp [Builtin.lenOf], fun n hn => ?_⟩
        have hn' : n ≤ s'.size := by simpa using hn
        refine ⟨(s'.extract 0 n).data.map fun b => .int .u8 b.toNat, rfl, ?_, fun i hi => ?_, fun i hi j hj => ?_⟩
        · simp; omega
        · simp
        · have hi' : i < n := by simp at hi; omega
          have e1 : ((s'.data.toList.map fun b => [DV.int .u8 b.toNat]).take n)[i] = [DV.int .u8 (s'.data[i]'(by show i < s'.size; omega)).toNat] := by simp
          have hj0 : j = 0 := by have := hj; simp only [e1] at this; simpa using this
          subst hj0
          refine ⟨.int .u8 (s'.data[i]'(by show i < s'.size; omega)).toNat, ?_, ?_, rfl⟩
          · simp only [Nat.mul_one, Nat.add_zero, Array.getElem?_map]
            have : (s'.extract 0 n).data[i]? = some (s'.data[i]'(by show i < s'.size; omega)) := by
              exact extract_at s' n i hi' hn'
            rw [this]; rfl
          · have e2 : ((s'.data.toList.map fun b => [DV.int .u8 b.toNat]).take n)[i][0] = DV.int .u8 (s'.data[i]'(by show i < s'.size; omega)).toNat := by simp only [e1]; rfl
            rw [e2]; exact .int _ _
  | _ => simp [dElems] at e
end Dv
end

section
set_option autoImplicit false
set_option linter.unusedVariables false
set_option linter.unusedSimpArgs false
namespace Dv
open Go

/-! ### Lengths -/
theorem run_getObj_some {P : Program} {w : World} {r : Nat} {o : Obj} (h : w.heap[r]? = some o) (hb : match o with | .cells .. => False | _ => True) : (getObj r).run P w = .ok o w := by
  cases o <;> first | exact hb.elim | simp [getObj, Sem.run, h]
theorem len_ok {P : Program} {c : Ctx} (hT : TIOK P c.ti) {base : Nat} {K : Kn} {h : Heap} {w : World} (H : HR base K h w) {t ty : Nat} {x d : DV} {v : Value} (hx : K.V x v) (e : dLen (c.ti t) x h = some d) :
    ∃ u, (Builtin.len_ #[t] ty #[v]).run P w = .ok u w ∧ K.V d u := by
  unfold dLen at e
  split at e
  · rename_i hk
    obtain ⟨dd, hu, hkr⟩ := kind_ok hT hk trivial
    have hkr : dd = .string := hkr
    subst hkr
    split at e
    · cases e
      cases hx with
      | str s => exact ⟨_, by simp [Builtin.len_, run_underlying hu]; rfl, by simpa [goInt] using VR.int .i64 s.size⟩
    · cases e
  · rename_i el hk
    obtain ⟨dd, hu, hkr⟩ := kind_ok hT hk trivial
    have hkr : dd = .slice el := hkr
    subst hkr
    split at e
    · cases e
      cases hx with
      | dsl => exact ⟨_, by simp [Builtin.len_, run_underlying hu]; rfl, .int ..⟩
      | dsl0 a cap => exact ⟨_, by simp [Builtin.len_, run_underlying hu]; rfl, by simpa [goInt] using VR.int .i64 0⟩
    · cases e
      cases hx with
      | nsl => exact ⟨_, by simp [Builtin.len_, run_underlying hu]; rfl, by simpa [goInt] using VR.int .i64 0⟩
    · cases e
      cases hx with
      | sl => exact ⟨_, by simp [Builtin.len_, run_underlying hu]; rfl, .int ..⟩
      | sl0 => exact ⟨_, by simp [Builtin.len_, run_underlying hu]; rfl, by simpa [goInt] using VR.int .i64 0⟩
    · cases e
  · rename_i kt el hk
    obtain ⟨dd, hu, hkr⟩ := kind_ok hT hk trivial
    have hkr : dd = .map kt el := hkr
    subst hkr
    split at e
    · cases e
      cases hx with
      | nmp => exact ⟨_, by simp [Builtin.len_, run_underlying hu]; rfl, by simpa [goInt] using VR.int .i64 0⟩
    · rename_i b
      split at e
      · rename_i es hg
        cases e
        cases hx with
        | mp hp =>
          obtain ⟨ents, clock, h1, h2, _⟩ := H.obj b _ hg _ hp
          exact ⟨.int .i64 ents.size, by simp [Builtin.len_, run_underlying hu, run_getObj_some h1 trivial]; rfl, by rw [h2]; exact .int ..⟩
      · cases e
    · cases e
  · cases e

/-! ### Slices of slices -/
def OptR (K : Kn) (o : Option DV) (ov : Option Value) : Prop := match o, ov with | none, none => True | some x, some v => K.V x v | _, _ => False
theorem asBound_ok {P : Program} {K : Kn} {n lo d r : Nat} {o : Option DV} (e : asBound n lo d o = some r) {ov : Option Value} (ho : OptR K o ov) :
    (o = none ∧ ov = none ∧ r = d) ∨ ∃ k i, ov = some (.int k i) ∧ (lo : Int) ≤ i ∧ i ≤ (n : Int) ∧ r = i.toNat := by
  cases o with
  | none => cases ov with
    | none => cases e; exact .inl ⟨rfl, rfl, rfl⟩
    | some v => cases ho
  | some x => cases ov with
    | none => cases ho
    | some v =>
      right
      cases x with
      | int k i =>
        simp only [asBound] at e
        cases hc : decide ((lo : Int) ≤ i ∧ i ≤ (n : Int)) with
        | false => rw [hc] at e; cases e
        | true =>
          rw [hc] at e
          have hc := of_decide_eq_true hc
          cases e
          cases ho
          exact ⟨k, i, rfl, hc.1, hc.2, rfl⟩
      | _ => cases e
theorem bounds_ok {P : Program} {K : Kn} {isSlice : Bool} {len cap a b : Nat} {lo hi : Option DV} (e1 : asBound len 0 len hi = some b) (e2 : asBound b 0 0 lo = some a) (hc : len ≤ cap)
    {lov hiv : Option Value} (hl : OptR K lo lov) (hh : OptR K hi hiv) (w : World) :
    (Instr.sliceBounds isSlice len cap lov hiv none).run P w = .ok (a, b, cap) w ∧ a ≤ b ∧ b ≤ len := by
  have s1 : ∀ (k : IntKind) (i : Int) (n : Nat) (code : BoundsCode), 0 ≤ i → i ≤ (n : Int) → (Instr.sliceBound (.int k i) n code).run P w = .ok i.toNat w := fun k i n code h0 h1 => by
    simp [Instr.sliceBound, asIntOf, h0, h1]
  rcases asBound_ok (P := P) e1 hh with ⟨rfl, rfl, rfl⟩ | ⟨k, i, rfl, i0, i1, rfl⟩
  · rcases asBound_ok (P := P) e2 hl with ⟨rfl, rfl, rfl⟩ | ⟨k', i', rfl, j0, j1, rfl⟩
    · exact ⟨by simp [Instr.sliceBounds], by omega, by omega⟩
    · refine ⟨?_, by omega, by omega⟩
      have := s1 k' i' b (if (none : Option Value).isSome then .slice3C else .sliceB) (by omega) j1
      simp only [Instr.sliceBounds, Sem.run_bind, Sem.run_pure, Result.andThen_ok]
      rw [this]; rfl
  · have hi' := s1 k i cap (if isSlice then .sliceAcap else .sliceAlen) (by omega) (by omega)
    rcases asBound_ok (P := P) e2 hl with ⟨rfl, rfl, rfl⟩ | ⟨k', i', rfl, j0, j1, rfl⟩
    · refine ⟨?_, by omega, by omega⟩
      simp only [Instr.sliceBounds, Sem.run_bind, Sem.run_pure, Result.andThen_ok]
      rw [hi']; rfl
    · refine ⟨?_, by omega, by omega⟩
      have := s1 k' i' i.toNat (if (none : Option Value).isSome then .slice3C else .sliceB) (by omega) (by omega)
      simp only [Instr.sliceBounds, Sem.run_bind, Sem.run_pure, Result.andThen_ok]
      rw [hi']
      simp only [Result.andThen_ok]
      rw [this]; rfl

theorem slice_ok {P : Program} {c : Ctx} (hT : TIOK P c.ti) {K : Kn} {t : Nat} {x d : DV} {v : Value} {lo hi : Option DV} {lov hiv : Option Value} (hx : K.V x v) (hl : OptR K lo lov) (hh : OptR K hi hiv)
    (e : dSlice c (c.ti t) x lo hi = some d) (w : World) : ∃ u, (Instr.sliceAt t v lov hiv none).run P w = .ok u w ∧ K.V d u := by
  unfold dSlice at e
  split at e
  · rename_i hk
    obtain ⟨dd, hu, hkr⟩ := kind_ok hT hk trivial
    have hkr : dd = .string := hkr
    subst hkr
    split at e
    · rename_i s
      split at e
      · rename_i b eb
        split at e
        · rename_i a ea
          cases e
          cases hx with
          | str s =>
            obtain ⟨hr, h1, h2⟩ := bounds_ok (P := P) (isSlice := false) eb ea (Nat.le_refl _) hl hh w
            have hs : s.data.toList.length = s.size := by rw [Array.length_toList]; rfl
            rw [hs] at hr h2
            refine ⟨.string (s.extract a b), ?_, ?_⟩
            · simp only [Instr.sliceAt, Instr.slice, Sem.run_bind, run_underlying hu, Result.andThen_ok, Option.isSome_none, Bool.false_eq_true, if_false, hr]; rfl
            · have : ((s.data.toList.take b).drop a) = (s.extract a b).data.toList := by
                have e1 : (s.extract a b).data = s.data.extract a b := by
                  first | exact ByteArray.data_extract .. | simp [ByteArray.extract, ByteArray.copySlice]
                rw [e1]; simp [List.extract, List.take_drop]; rw [show a + (b - a) = b by omega]
              rw [this]; exact .str _
        · cases e
      · cases e
    · cases e
  · rename_i el hk
    obtain ⟨dd, hu, hkr⟩ := kind_ok hT hk trivial
    have hkr : dd = .slice el := hkr
    subst hkr
    cases hb1 : Nat.ble 1 (c.ti el).size with
    | false => rw [hb1] at e; cases e
    | true =>
      rw [hb1] at e
      simp only [cond_true] at e
      have h1 := Nat.le_of_ble_eq_true hb1
      have hst := (hT el (.inl h1)).sizeOf (P := P)
      split at e
      · rename_i sz es
        cases hb : Nat.beq sz (c.ti el).size with
        | false => rw [hb] at e; cases e
        | true =>
          rw [hb] at e
          simp only [cond_true] at e
          have hsz := Nat.eq_of_beq_eq_true hb
          split at e
          · rename_i b eb
            split at e
            · rename_i a ea
              cases e
              have hlen : ((es.take b).drop a).length = b - a := by
                obtain ⟨_, _, h3⟩ := bounds_ok (P := P) (isSlice := true) eb ea (Nat.le_refl _) hl hh w
                simp; omega
              cases hx with
              | dsl R o cap vals hs hcap f1 f2 =>
                obtain ⟨hr, g1, g2⟩ := bounds_ok (P := P) (isSlice := true) eb ea hcap hl hh w
                refine ⟨_, by simp [Instr.sliceAt, Instr.slice, run_underlying hu, hr, hst, addr_add]; rfl, ?_⟩
                rw [← hlen, ← hsz]
                by_cases hz : b - a = 0
                · have : (es.take b).drop a = [] := List.eq_nil_of_length_eq_zero (by omega)
                  rw [this]
                  split <;> exact .dsl0 _ _
                · rw [if_neg (by omega)]
                  refine .dsl R (o + a * sz) (cap - a) (fun i j => vals (a + i) j) (fun i hi => ?_) (by omega) (fun i j hi hj => ?_) (fun i hi j hj => ?_)
                  · simp only [List.getElem_drop, List.getElem_take]; exact hs _ _
                  · have := f1 (a + i) j (by omega) hj
                    rw [Nat.add_mul] at this
                    rw [← this]; congr 1; omega
                  · have e1 : ((es.take b).drop a)[i] = es[a + i]'(by omega) := by simp
                    have hj' : j < (es[a + i]'(by omega)).length := by simpa only [e1] using hj
                    have e2 : ((es.take b).drop a)[i][j] = (es[a + i]'(by omega))[j] := by simp only [e1]
                    rw [e2]; exact f2 (a + i) (by omega) j hj'
              | dsl0 a' cap =>
                obtain ⟨hr, g1, g2⟩ := bounds_ok (P := P) (isSlice := true) eb ea (Nat.zero_le cap) hl hh w
                have g3 : b = 0 := by simpa using g2
                have g4 : a = 0 := by omega
                subst g3; subst g4
                simp only [List.length_nil] at hr
                refine ⟨_, by simp [Instr.sliceAt, Instr.slice, run_underlying hu, hr, hst]; rfl, ?_⟩
                simp only [List.take_nil, List.drop_nil]
                split <;> exact .dsl0 _ _
            · cases e
          · cases e
      · rename_i bk ver z off len
        cases hb : Nat.beq z (c.ti el).size with
        | false => rw [hb] at e; cases e
        | true =>
          rw [hb] at e
          simp only [cond_true] at e
          have hsz := Nat.eq_of_beq_eq_true hb
          split at e
          · rename_i b eb
            split at e
            · rename_i a ea
              cases e
              cases hx with
              | sl cap hp hs hlen hfin =>
                rename_i p
                obtain ⟨hr, g1, g2⟩ := bounds_ok (P := P) (isSlice := true) eb ea hlen hl hh w
                refine ⟨_, by simp [Instr.sliceAt, Instr.slice, run_underlying hu, hr, hst, addr_add]; rfl, ?_⟩
                by_cases hz : cap = a
                · rw [if_pos hz]
                  have hba : b - a = 0 := by omega
                  rw [hba, hz, Nat.sub_self]
                  exact .sl0 _ hp hs
                · rw [if_neg hz, ← hsz]
                  have := VR.sl (fm := K.fm) (hp := K.hp) (b := bk) (v := ver) (sz := z) (off := off + a) (len := b - a) (p := p) (cap - a) hp hs (by omega) (by rw [← hfin]; congr 2; omega)
                  rw [Nat.add_mul, ← Nat.add_assoc] at this
                  exact this
              | sl0 a' hp hs =>
                obtain ⟨hr, g1, g2⟩ := bounds_ok (P := P) (isSlice := true) eb ea (Nat.le_refl 0) hl hh w
                have g4 : a = 0 := by omega
                have g3 : b = 0 := by omega
                subst g3; subst g4
                refine ⟨_, by simp [Instr.sliceAt, Instr.slice, run_underlying hu, hr, hst]; rfl, .sl0 _ hp hs⟩
            · cases e
          · cases e
      · split at e
        · rename_i b eb
          split at e
          · rename_i a ea
            cases e
            cases hx with
            | nsl =>
              obtain ⟨hr, g1, g2⟩ := bounds_ok (P := P) (isSlice := true) eb ea (Nat.le_refl 0) hl hh w
              have g4 : a = 0 := by omega
              have g3 : b = 0 := by omega
              subst g3; subst g4
              refine ⟨_, by simp [Instr.sliceAt, Instr.slice, run_underlying hu, hr, hst], .nsl⟩
          · cases e
        · cases e
      · cases e
  · cases e
end Dv
end

section
set_option autoImplicit false
set_option linter.unusedVariables false
set_option linter.unusedSimpArgs false
namespace Dv
open Go

/-! ### Rows that grow -/
theorem EsR.append {K : Kn} {sz : Nat} {xs ys : List (List DV)} {A B : Array Value} (ha : EsR K sz xs A) (hb : EsR K sz ys B) (hs : A.size = xs.length * sz) : EsR K sz (xs ++ ys) (A ++ B) := by
  refine ⟨fun i hi => ?_, fun i hi j hj => ?_⟩
  · by_cases h : i < xs.length
    · rw [List.getElem_append_left h]; exact ha.1 i h
    · rw [List.getElem_append_right (by omega)]; exact hb.1 _ _
  · by_cases h : i < xs.length
    · have e1 : (xs ++ ys)[i] = xs[i] := List.getElem_append_left h
      have hj' : j < xs[i].length := by simpa only [e1] using hj
      have e2 : (xs ++ ys)[i][j] = xs[i][j] := by simp only [e1]
      obtain ⟨v, a, b, c⟩ := ha.2 i h j hj'
      refine ⟨v, ?_, by rw [e2]; exact b, c⟩
      rw [Array.getElem?_append_left (by rw [ha.1 i h] at hj'; rw [hs]; exact idx_lt h hj')]
      exact a
    · have hl : i - xs.length < ys.length := by simp at hi; omega
      have e1 : (xs ++ ys)[i] = ys[i - xs.length] := List.getElem_append_right (by omega)
      have hj' : j < ys[i - xs.length].length := by simpa only [e1] using hj
      have e2 : (xs ++ ys)[i][j] = ys[i - xs.length][j] := by simp only [e1]
      obtain ⟨v, a, b, c⟩ := hb.2 _ hl j hj'
      refine ⟨v, ?_, by rw [e2]; exact b, c⟩
      have e3 : i * sz + j = A.size + ((i - xs.length) * sz + j) := by
        have h2 : i * sz = xs.length * sz + (i - xs.length) * sz := by rw [← Nat.add_mul]; congr 1; omega
        omega
      rw [e3, Array.getElem?_append_right (by omega)]
      rw [← a]; congr 1; omega
theorem EsR.pad {K : Kn} {sz : Nat} {xs : List (List DV)} {A B : Array Value} (ha : EsR K sz xs A) : EsR K sz xs (A ++ B) := by
  refine ⟨ha.1, fun i hi j hj => ?_⟩
  obtain ⟨v, a, b, c⟩ := ha.2 i hi j hj
  refine ⟨v, ?_, b, c⟩
  rw [Array.getElem?_append_left (Array.getElem?_eq_some_iff.1 a).1]; exact a
theorem EsR.mono {K K' : Kn} (hk : K.le K') {sz : Nat} {xs : List (List DV)} {A : Array Value} (ha : EsR K sz xs A) : EsR K' sz xs A :=
  ⟨ha.1, fun i hi j hj => by obtain ⟨v, a, b, c⟩ := ha.2 i hi j hj; exact ⟨v, a, b.mono hk, c⟩⟩
theorem NewBlk.drew (w : World) (c : Array Value) (t : TypeId) : NewBlk w (w.drew.alloc (.cells c t)) c t := by
  have := NewBlk.alloc w.drew c t
  exact ⟨this.os, this.tape, this.output, this.size, this.old, this.new, this.free⟩

/-- What append asks of the type of its second argument: no number. -/
def NoInt (d : TypeDesc) : Prop := d = .string ∨ ∃ e, d = .slice e

theorem append_new {P : Program} {c : Ctx} (hT : TIOK P c.ti) {K : Kn} {w : World} {t t' ty el : Nat} {d' : TypeDesc} (hu : P.underlying t = some (.slice el)) (hu' : P.underlying t' = some d') (hn : NoInt d')
    (h1 : 1 ≤ (c.ti el).size) (hby : (c.ti el).bytes ≤ 4096) {a : Option Addr} {sl cap n : Nat} {xv : Value} (hcap : sl ≤ cap) (hnone : a = none → sl = 0 ∧ cap = 0) (hover : cap < sl + n) (hmax : sl + n ≤ maxRow)
    {olds : List (List DV)} {A : Array Value} (hA : EsR K (c.ti el).size olds A) (hAs : A.size = sl * (c.ti el).size) (hol : olds.length = sl)
    {xs : List (List DV)} {B : Array Value} (hlen : (Builtin.lenOf xv).run P w = .ok n w) (hxl : xs.length = n)  (hB : EsR K (c.ti el).size xs B) (hBs : B.size = n * (c.ti el).size) (hfc : (Builtin.firstCells (c.ti el).size n xv).run P w.drew = .ok B w.drew) (hold' : (Builtin.firstCells (c.ti el).size sl (.slice a sl cap)).run P w.drew = .ok A w.drew) :
    ∃ (C : Array Value) (cap' : Nat), (Builtin.append_ #[t, t'] ty #[.slice a sl cap, xv]).run P w = .ok (.slice (some ⟨w.heap.size, 0, none⟩) (sl + n) cap') (w.drew.alloc (.cells C el)) ∧
      EsR K (c.ti el).size (olds ++ xs) C ∧ sl + n ≤ cap' ∧ C.size = cap' * (c.ti el).size := by
  have ht := hT el (.inl h1)
  obtain ⟨q, d, z, i1, i2, i3, i4, i5, i6, i7, i8, i9, i10, _⟩ := ht.ex
  have hge := grownCap_ge w (sl + n) cap el
  refine ⟨A ++ B ++ Builtin.zeroCells z.cells (grownCap w (sl + n) cap el - (sl + n)), grownCap w (sl + n) cap el, ?_, ((hA.append hB (by rw [hAs, hol])).pad), hge, ?_⟩
  · have h63 : ¬ (9223372036854775807 < ((sl : Int) + (n : Int))) := by simp [maxRow] at hmax; omega
    have h48 : ¬ (281474976710656 < Builtin.nextslicecap (sl + n) cap * (c.ti el).bytes) := by
      have h2 : Builtin.nextslicecap (sl + n) cap ≤ 2 * (sl + n) := nextslicecap_le hover
      have h3 : Builtin.nextslicecap (sl + n) cap * (c.ti el).bytes ≤ 2 * (sl + n) * 4096 := Nat.mul_le_mul h2 hby
      simp [maxRow] at hmax; omega
    have hroom : ¬ (sl + n ≤ cap) := by omega
    rw [← i5] at h48
    rw [← i4] at hfc hold'
    rcases hn with rfl | ⟨e', rfl⟩ <;>
    simp [Builtin.append_, run_underlying hu, run_underlying hu', Go.sizeOf, typeInfo, zeroValue, i1, i6, hlen, hroom, h63, h48, Question.forced, hfc, hold', newRow, grownCap]
  · simp [Builtin.zeroCells, hAs, hBs, i8]
    rw [← Nat.add_mul, ← Nat.add_mul]; congr 1; omega
end Dv
end

section
set_option autoImplicit false
set_option linter.unusedVariables false
set_option linter.unusedSimpArgs false
namespace Dv
open Go

theorem EsR.at {K : Kn} {sz : Nat} {es : List (List DV)} {A : Array Value} (he : EsR K sz es A) (hs : A.size = es.length * sz) (x : Nat) (hx : x < A.size) : A[x].oneCell' = true := by
  have h1 : 0 < sz := by rcases Nat.eq_zero_or_pos sz with h | h; · subst h; rw [Nat.mul_zero] at hs; omega
                         · exact h
  have hi : x / sz < es.length := Nat.div_lt_of_lt_mul (by rw [Nat.mul_comm]; omega)
  obtain ⟨u, a, _, b⟩ := he.2 _ hi (x % sz) (by rw [he.1 _ hi]; exact Nat.mod_lt _ h1)
  rw [divmod] at a
  obtain ⟨_, rfl⟩ := Array.getElem?_eq_some_iff.1 a
  exact b
theorem EsR.one {K : Kn} {sz : Nat} {es : List (List DV)} {A : Array Value} (he : EsR K sz es A) (hs : A.size = es.length * sz) : ∀ v ∈ A.toList, v.oneCell' = true := by
  intro v hv
  obtain ⟨x, hx, rfl⟩ := List.getElem_of_mem hv
  simpa using he.at hs x (by simpa using hx)

/-- Elements written over a part of a row that may be written. -/
theorem rowWrite {P : Program} {base : Nat} {K : Kn} {h : Heap} {w : World} (H : HR base K h w) {b ver fz sz : Nat} {es : List (List DV)} (hg : hget h b = some (.row sz es ver fz)) {p : Place} (hp : K.hp b ver = some p)
    {at_ : Nat} (hfz : fz ≤ at_) {xs : List (List DV)} {A : Array Value} (hA : EsR K sz xs A) (hAs : A.size = xs.length * sz) (hfit : p.off + (at_ + xs.length) * sz ≤ p.fin) :
    ∃ w', (storeCells ⟨p.blk, p.off + at_ * sz, none⟩ A.toList).run P w = .ok () w' ∧ Chg w w' p.blk (p.off + fz * sz) p.fin ∧
      (∀ i (hi : i < xs.length) j (hj : j < xs[i].length), ∃ u, cellAt w' p.blk (p.off + (at_ + i) * sz + j) = some u ∧ K.V xs[i][j] u ∧ u.oneCell' = true) ∧
      (∀ x, x < p.off + at_ * sz ∨ p.off + (at_ + xs.length) * sz ≤ x → cellAt w' p.blk x = cellAt w p.blk x) := by
  obtain ⟨a1, a2, a3, a4, a5⟩ := H.obj b _ hg p hp
  have hreg : regOf K.hp b (.row sz es ver fz) = some (p.blk, p.off + fz * p.sz, p.fin) := by simp [regOf, hp]
  obtain ⟨⟨c, t', f, hc, hle, _⟩, hfree⟩ := H.reg b _ _ _ _ hg hreg
  rw [a1] at hfree
  have e1 : (at_ + xs.length) * sz = at_ * sz + xs.length * sz := Nat.add_mul ..
  have e2 : fz * sz ≤ at_ * sz := Nat.mul_le_mul_right _ hfz
  obtain ⟨w', hr, hch, hcell⟩ := storeCells_ok (P := P) p.blk (p.off + at_ * sz) A.toList 0 w ⟨c, t', f, hc, by simp [hAs]; omega⟩ (fun j hj => (hfree _ (by omega) (by simp [hAs] at hj; omega)).1) (hA.one hAs)
  simp only [Nat.add_zero, Array.length_toList, hAs] at hch
  refine ⟨w', hr, hch.mono (by omega) (by omega), fun i hi j hj => ?_, fun x hx => hch.cell hc x (by omega)⟩
  obtain ⟨u, a, d, e⟩ := hA.2 i hi j hj
  obtain ⟨hx, rfl⟩ := Array.getElem?_eq_some_iff.1 a
  have := hcell (i * sz + j) (by simpa using hx)
  refine ⟨_, ?_, d, e⟩
  rw [Nat.add_mul, ← Nat.add_assoc] 
  simpa [Nat.add_assoc] using this

/-- A row with other elements, in the same place or in a new block: its next version. -/
theorem regrow {base : Nat} {K : Kn} {h : Heap} {w w' : World} (H : HR base K h w) {b ver fz sz : Nat} {es : List (List DV)} (hg : hget h b = some (.row sz es ver fz)) {p : Place} (hp : K.hp b ver = some p)
    (W : Chg w w' p.blk (p.off + fz * sz) p.fin) {es' : List (List DV)} {fz' : Nat} {p' : Place} (hsz : p'.sz = sz) (hfin : p'.off + es'.length * sz ≤ p'.fin)
    (hpl : (p'.blk = p.blk ∧ p.off ≤ p'.off ∧ p'.fin ≤ p.fin ∧ p.off + fz * sz ≤ p'.off + fz' * sz) ∨
      (p'.blk = w.heap.size ∧ ∃ c t f, w'.heap[w.heap.size]? = some (.cells c t f) ∧ p'.fin ≤ c.size ∧ FzOK c.size f ∧ ∀ x, x < c.size → w'.frozen? ⟨w.heap.size, x, none⟩ = false))
    (hel : ∀ i (hi : i < es'.length), es'[i].length = sz)
    (hc : ∀ i (hi : i < es'.length) j (hj : j < es'[i].length), ∃ u, cellAt w' p'.blk (p'.off + i * sz + j) = some u ∧ K.V es'[i][j] u ∧ u.oneCell' = true) :
    ∃ K', FP K h w K' (hset h b (.row sz es' (ver + 1) fz')) w' ∧ HR base K' (hset h b (.row sz es' (ver + 1) fz')) w' ∧ K.le K' ∧ K'.hp b (ver + 1) = some p' := by
  obtain ⟨a1, a2, _⟩ := H.obj b _ hg p hp
  have hnone : K.hp b (ver + 1) = none := by
    cases e : K.hp b (ver + 1) with
    | none => rfl
    | some q => have := H.ver b _ _ q hg e; simp only [curVer] at this; omega
  have hreg : regOf K.hp b (.row sz es ver fz) = some (p.blk, p.off + fz * sz, p.fin) := by simp [regOf, hp, a1]
  have hle : K.hp.le (newHP K.hp b (ver + 1) p') := newHP_le hnone
  have := put_ok H hg hp hreg (Nat.le_add_right _ _) (.row sz es' (ver + 1) fz') rfl W (newHP K.hp b (ver + 1) p') hle (fun b' v hne => newHP_ne (fun e => hne e.1)) p' (newHP_same ..)
    (hpl.imp (fun ⟨x1, x2, x3, x4⟩ => ⟨x1, x2, x3, fun R lo' hi' er => by
      have er : ((newHP K.hp b (ver + 1) p') b (ver + 1)).map (fun p => (p.blk, p.off + fz' * p.sz, p.fin)) = some (R, lo', hi') := er
      rw [newHP_same] at er
      simp only [Option.map_some, Option.some.injEq, Prod.mk.injEq, hsz] at er
      omega⟩) id)
    (by
      intro q hq
      have hq : newHP K.hp b (ver + 1) p' b (ver + 1) = some q := hq
      rw [newHP_same] at hq
      cases hq
      refine ⟨hsz, a2, hfin, hel, fun i hi j hj => ?_⟩
      obtain ⟨u, x1, x2, x3⟩ := hc i hi j hj
      exact ⟨u, x1, VR.mono (FM.le.refl _) x2 hle, x3⟩)
    (fun v q hq => by
      show v ≤ ver + 1
      by_cases hv : v = ver + 1
      · omega
      · rw [newHP_ne (fun e => hv e.2)] at hq
        have := H.ver b _ _ q hg hq
        simp only [curVer] at this; omega)
  exact ⟨_, this.2, this.1, ⟨FM.le.refl _, hle⟩, newHP_same ..⟩

theorem append_ok {P : Program} {c : Ctx} (hT : TIOK P c.ti) {base : Nat} {K : Kn} {h h' : Heap} {w : World} (H : HR base K h w) {t t' ty : Nat} {d' : TypeDesc} (hu' : P.underlying t' = some d') (hn : NoInt d')
    {s x d : DV} {sv xv : Value} (hs : K.V s sv) (hx : K.V x xv) (e : dAppend c (c.ti t) s x h = some (d, h')) :
    ∃ u w' K', (Builtin.append_ #[t, t'] ty #[sv, xv]).run P w = .ok u w' ∧ FP K h w K' h' w' ∧ HR base K' h' w' ∧ K'.V d u := by
  unfold dAppend at e
  split at e
  · rename_i el hk
    obtain ⟨dd, hu, hkr⟩ := kind_ok hT hk trivial
    have hkr : dd = .slice el := hkr
    subst hkr
    cases hb1 : Nat.ble 1 (c.ti el).size with
    | false => rw [hb1] at e; cases e
    | true =>
    rw [hb1] at e
    simp only [cond_true] at e
    have n2 := Nat.le_of_ble_eq_true hb1
    have hst := (hT el (.inl n2)).sizeOf (P := P)
    split at e
    · rename_i xs hxs
      have el0 := elems_ok (P := P) H hx hxs
      have Hd : HR base K h w.drew := H.same ⟨rfl, rfl, rfl, rfl⟩
      have el1 := elems_ok (P := P) Hd hx hxs
      generalize hnn : xs.length = n at el0 el1
      obtain ⟨hlen, hfirst⟩ := el0
      obtain ⟨_, hfirstd⟩ := el1
      obtain ⟨A, hA1, hA2, hA3⟩ := hfirst n (Nat.le_refl _)
      obtain ⟨B, hB1, hB2, hB3⟩ := hfirstd n (Nat.le_refl _)
      rw [← hnn, List.take_length] at hA3 hB3
      have room : ∀ (a : Option Addr) (sl cap : Nat) (w1 : World), sl + n ≤ cap → (match a with | some a => (storeCells (a.add (sl * (c.ti el).size)) A.toList).run P w = .ok () w1 | none => w1 = w) →
          (Builtin.append_ #[t, t'] ty #[.slice a sl cap, xv]).run P w = .ok (.slice a (sl + n) cap) w1 := by
        intro a sl cap w1 hroom hsto
        cases a with
        | none =>
          subst hsto
          rcases hn with rfl | ⟨e', rfl⟩ <;> simp [Builtin.append_, run_underlying hu, run_underlying hu', hst, hlen, hroom, hA1]
        | some a =>
          rcases hn with rfl | ⟨e', rfl⟩ <;> simp [Builtin.append_, run_underlying hu, run_underlying hu', hst, hlen, hroom, hA1, hsto]
      split at e
      · cases hs with
        | nsl =>
          split at e
          · cases e
            have hn0 : n = 0 := by rw [← hnn]; rfl
            subst hn0
            exact ⟨_, w, K, room none 0 0 w (Nat.le_refl _) rfl, FP.refl _ _ _, H, .nsl⟩
          · rename_i y ys
            cases hc1 : decide ((y :: ys).length ≤ maxRow) && decide ((c.ti el).bytes ≤ 4096) with
            | false => rw [hc1] at e; cases e
            | true =>
              rw [hc1] at e
              simp only [cond_true] at e
              simp only [Bool.and_eq_true, decide_eq_true_eq] at hc1
              obtain ⟨n1, n3⟩ := hc1
              cases e
              have hpos : 0 < n := by rw [← hnn]; simp
              obtain ⟨C, cap', hr, hC, hcap', hCs⟩ := append_new (K := K) (ty := ty) hT hu hu' hn n2 n3 (a := none) (sl := 0) (cap := 0) (n := n) (xv := xv) (Nat.le_refl _) (fun _ => ⟨rfl, rfl⟩) (by omega) (by omega)
                (olds := []) (A := #[]) ⟨fun i hi => by simp at hi, fun i hi => by simp at hi⟩ (by simp) rfl hlen hnn hB3 hB2 hB1 rfl
              simp only [Nat.zero_add, List.nil_append] at hr hC hcap'
              obtain ⟨K', f1, f2, f3⟩ := new_row H (NewBlk.drew w C el) n2 hC (cap := cap') (by omega) (by omega)
              rw [hnn] at f3 ⊢
              exact ⟨_, _, K', hr, f1, f2, f3⟩
      · rename_i b ver z off len
        split at e
        · rename_i sz es v' fz hg
          split at e
          · rename_i hcond
            obtain ⟨rfl, c1, rfl, c3, c4, c5⟩ := hcond
            rw [hnn] at e c4
            cases e
            have hol : ((es.drop off).take len).length = len := by simp; omega
            have hnl : ((es.drop off).take len ++ xs).length = len + n := by rw [List.length_append, hol, hnn]
            have full := elems_ok (P := P) Hd (sz := (c.ti el).size) (x := .sl b ver (c.ti el).size off len) (v := sv)
            cases hs with
            | sl cap hp hs hlc hfin =>
              rename_i p
              obtain ⟨a1, a2, a3, a4, a5⟩ := H.obj b _ hg p hp
              have hz : z = (c.ti el).size := hs.symm.trans a1
              subst hz
              have hnel : ∀ i (hi : i < ((es.drop off).take len ++ xs).length), ((es.drop off).take len ++ xs)[i].length = (c.ti el).size := fun i hi => by
                by_cases hil : i < ((es.drop off).take len).length
                · rw [List.getElem_append_left hil]; simp only [List.getElem_take, List.getElem_drop]; exact a4 _ _
                · rw [List.getElem_append_right (by omega)]; exact hA3.1 _ _
              have m1 : (off + cap) * (c.ti el).size = off * (c.ti el).size + cap * (c.ti el).size := Nat.add_mul ..
              have m3 : (off + len) * (c.ti el).size = off * (c.ti el).size + len * (c.ti el).size := Nat.add_mul ..
              have m4 : fz * (c.ti el).size ≤ (off + len) * (c.ti el).size := Nat.mul_le_mul_right _ c5
              by_cases hroom : len + n ≤ cap
              · -- in its place
                have m2 : (len + n) * (c.ti el).size ≤ cap * (c.ti el).size := Nat.mul_le_mul_right _ hroom
                have m5 : (off + len + n) * (c.ti el).size = off * (c.ti el).size + (len + n) * (c.ti el).size := by rw [Nat.add_assoc, Nat.add_mul]
                obtain ⟨w', hr, hch, hnew, hold⟩ := rowWrite (P := P) H hg hp c5 hA3 (by rw [hA2, hnn]) (by rw [hnn]; omega)
                rw [hnn] at hold
                have m6 : fz * (c.ti el).size ≤ off * (c.ti el).size + (fz - off) * (c.ti el).size := by
                  rw [← Nat.add_mul]; exact Nat.mul_le_mul_right _ (by omega)
                obtain ⟨K', f1, f2, f3, f4⟩ := regrow H hg hp hch (es' := (es.drop off).take len ++ xs) (fz' := fz - off) (p' := ⟨p.blk, p.off + off * (c.ti el).size, p.fin, (c.ti el).size⟩) rfl
                  (by rw [hnl]; simp only; omega) (.inl ⟨rfl, by simp, Nat.le_refl _, by simp only; omega⟩) hnel (fun i hi j hj => by
                    have hjs : j < (c.ti el).size := by rw [← hnel i hi]; exact hj
                    have e0 : p.off + off * (c.ti el).size + i * (c.ti el).size + j = p.off + (off + i) * (c.ti el).size + j := by rw [Nat.add_mul]; omega
                    simp only [e0]
                    by_cases hil : i < ((es.drop off).take len).length
                    · have hil' : i < len := by omega
                      have e1 : ((es.drop off).take len ++ xs)[i] = es[off + i]'(by omega) := by rw [List.getElem_append_left hil]; simp
                      have hj' : j < (es[off + i]'(by omega)).length := by simpa only [e1] using hj
                      have e2 : ((es.drop off).take len ++ xs)[i][j] = (es[off + i]'(by omega))[j] := by simp only [e1]
                      obtain ⟨u, b1, b2, b3⟩ := a5 (off + i) (by omega) j hj'
                      refine ⟨u, ?_, by rw [e2]; exact b2, b3⟩
                      rw [hold]
                      · exact b1
                      · left
                        have := idx_lt (show off + i < off + len by omega) hjs
                        omega
                    · have hxi : i - len < xs.length := by omega
                      have e1 : ((es.drop off).take len ++ xs)[i] = xs[i - len] := by rw [List.getElem_append_right (by omega)]; simp only [hol]
                      have hj' : j < xs[i - len].length := by simpa only [e1] using hj
                      have e2 : ((es.drop off).take len ++ xs)[i][j] = xs[i - len][j] := by simp only [e1]
                      obtain ⟨u, b1, b2, b3⟩ := hnew (i - len) hxi j hj'
                      refine ⟨u, ?_, by rw [e2]; exact b2, b3⟩
                      rw [show off + len + (i - len) = off + i by omega] at b1; exact b1)
                refine ⟨_, w', K', room (some ⟨p.blk, p.off + off * (c.ti el).size, none⟩) len cap w' hroom ?_, f1, f2, ?_⟩
                · simp only [addr_add]
                  rw [show p.off + off * (c.ti el).size + len * (c.ti el).size = p.off + (off + len) * (c.ti el).size by omega]
                  exact hr
                · have := VR.sl (fm := K'.fm) (hp := K'.hp) (b := b) (v := ver + 1) (sz := (c.ti el).size) (off := 0) (len := len + n) cap f4 rfl hroom (by simp only [Nat.zero_add]; omega)
                  simpa using this
              · -- in a new block
                have olds : ∀ w1 : World, (∀ R x, cellAt w1 R x = cellAt w R x) → HR base K h w1 → ∃ A1 : Array Value, (Builtin.firstCells (c.ti el).size len (.slice (some ⟨p.blk, p.off + off * (c.ti el).size, none⟩) len cap)).run P w1 = .ok A1 w1 ∧ A1.size = len * (c.ti el).size ∧ EsR K (c.ti el).size ((es.drop off).take len) A1 := by
                  intro w1 _ H1
                  have := elems_ok (P := P) H1 (sz := (c.ti el).size) (x := .sl b ver (c.ti el).size off len) (v := .slice (some ⟨p.blk, p.off + off * (c.ti el).size, none⟩) len cap) (.sl cap hp hs hlc hfin) (es := (es.drop off).take len)
                    (by simp only [dElems, Nat.beq_refl, cond_true, hg]; simp [c1])
                  obtain ⟨A1, x1, x2, x3⟩ := this.2 len (by rw [hol]; exact Nat.le_refl _)
                  rw [List.take_of_length_le (Nat.le_of_eq hol)] at x3
                  exact ⟨A1, x1, x2, x3⟩
                obtain ⟨A1, x1, x2, x3⟩ := olds w.drew (fun _ _ => rfl) Hd
                obtain ⟨C, cap', hr, hC, hcap', hCs⟩ := append_new (K := K) (ty := ty) hT hu hu' hn n2 c3 (a := some ⟨p.blk, p.off + off * (c.ti el).size, none⟩) (sl := len) (cap := cap) (n := n) (xv := xv) hlc (by simp) (by omega) c4
                  x3 x2 hol hlen hnn hB3 hB2 hB1 x1
                have nb := NewBlk.drew w C el
                have hRlt : p.blk < w.heap.size := (H.host b _ p hg hp).2
                have m2 : (len + n) * (c.ti el).size ≤ cap' * (c.ti el).size := Nat.mul_le_mul_right _ hcap'
                obtain ⟨f, hf, hfz⟩ := nb.new
                obtain ⟨K', f1, f2, f3, f4⟩ := regrow H hg hp (nb.chg _ _ _ hRlt) (es' := (es.drop off).take len ++ xs) (fz' := fz - off) (p' := ⟨w.heap.size, 0, C.size, (c.ti el).size⟩) rfl
                  (by rw [hnl]; simp only; omega) (.inr ⟨rfl, C, el, f, hf, Nat.le_refl _, hfz, nb.free⟩) hC.1 (fun i hi j hj => by
                    obtain ⟨u, b1, b2, b3⟩ := hC.2 i hi j hj
                    exact ⟨u, by simp only [Nat.zero_add]; rw [nb.cell]; exact b1, b2, b3⟩)
                refine ⟨_, _, K', hr, f1, f2, ?_⟩
                have := VR.sl (fm := K'.fm) (hp := K'.hp) (b := b) (v := ver + 1) (sz := (c.ti el).size) (off := 0) (len := len + n) cap' f4 rfl hcap' (by simp only [Nat.zero_add]; omega)
                simpa using this
            | sl0 a hp hs =>
              rename_i p
              obtain ⟨a1, a2, a3, a4, a5⟩ := H.obj b _ hg p hp
              have hz : z = (c.ti el).size := hs.symm.trans a1
              subst hz
              have e0 : (es.drop off).take 0 = [] := by simp
              rw [e0, List.nil_append, Nat.zero_add]
              by_cases hn0 : n = 0
              · have hxn : xs = [] := List.eq_nil_of_length_eq_zero (by omega)
                subst hxn
                subst hn0
                have m4 : fz * (c.ti el).size ≤ es.length * (c.ti el).size := Nat.mul_le_mul_right _ (by omega)
                obtain ⟨K', f1, f2, f3, f4⟩ := regrow H hg hp (Chg.refl w _ _ _) (es' := []) (fz' := fz - off) (p' := ⟨p.blk, p.fin, p.fin, (c.ti el).size⟩) rfl
                  (by simp) (.inl ⟨rfl, by simp only; omega, Nat.le_refl _, by simp only; omega⟩) (fun i hi => by simp at hi) (fun i hi => by simp at hi)
                refine ⟨_, w, K', room (some a) 0 0 w (Nat.le_refl _) ?_, f1, f2, .sl0 a f4 rfl⟩
                have : A.toList = [] := List.eq_nil_of_length_eq_zero (by simp [hA2])
                rw [this]; rfl
              · obtain ⟨C, cap', hr, hC, hcap', hCs⟩ := append_new (K := K) (ty := ty) hT hu hu' hn n2 c3 (a := some a) (sl := 0) (cap := 0) (n := n) (xv := xv) (Nat.le_refl _) (by simp) (by omega) (by omega)
                  (olds := []) (A := #[]) ⟨fun i hi => by simp at hi, fun i hi => by simp at hi⟩ (by simp) rfl hlen hnn hB3 hB2 hB1 (by simp [Builtin.firstCells, loadCells, loadCellsFrom])
                simp only [Nat.zero_add, List.nil_append] at hr hC hcap'
                have nb := NewBlk.drew w C el
                have hRlt : p.blk < w.heap.size := (H.host b _ p hg hp).2
                have m2 : n * (c.ti el).size ≤ cap' * (c.ti el).size := Nat.mul_le_mul_right _ hcap'
                obtain ⟨f, hf, hfz⟩ := nb.new
                obtain ⟨K', f1, f2, f3, f4⟩ := regrow H hg hp (nb.chg _ _ _ hRlt) (es' := xs) (fz' := fz - off) (p' := ⟨w.heap.size, 0, C.size, (c.ti el).size⟩) rfl
                  (by rw [hnn]; simp only; omega) (.inr ⟨rfl, C, el, f, hf, Nat.le_refl _, hfz, nb.free⟩) hC.1 (fun i hi j hj => by
                    obtain ⟨u, b1, b2, b3⟩ := hC.2 i hi j hj
                    exact ⟨u, by simp only [Nat.zero_add]; rw [nb.cell]; exact b1, b2, b3⟩)
                refine ⟨_, _, K', hr, f1, f2, ?_⟩
                have := VR.sl (fm := K'.fm) (hp := K'.hp) (b := b) (v := ver + 1) (sz := (c.ti el).size) (off := 0) (len := n) cap' f4 rfl hcap' (by simp only [Nat.zero_add]; omega)
                simpa using this
          · cases e
        · cases e
      · cases e
    · cases e
  · cases e
end Dv
end
