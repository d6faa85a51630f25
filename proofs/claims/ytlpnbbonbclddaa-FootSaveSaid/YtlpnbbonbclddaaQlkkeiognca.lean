/- The abstract machine: an evaluator of the model's code over values whose memory is told by content or by name; what it reckons is shown of the model's runs in the texts behind this one. -/
import Derived.Below
import Derived.WalkKit
import Derived.Laws.StructEq
import Derived.Laws.Strings
namespace Go.Proofs.Ytlpnbbonbclddaa.A
open Go Go.RowKit
set_option linter.unusedVariables false
set_option linter.unusedSimpArgs false
/-- An abstract value (anys: a string, whichever): pointers and slices are told by name (of the activation's own objects) or by content (old memory). gs, gp: a slice that owns its row from its head on, and a place in it; mp: a map of the activation's own; nu: in a contract's result, a slice that the call has made; yl: what a range over a function hands the function. -/
inductive AV where
  | undef
  | bool (b : Bool)
  | int (k : IntKind) (n : Int)
  | str (s : ByteArray)
  | anys
  | nilp | nilsl | nilmap | nilf | nili
  | ptr (n i s j : Nat)
  | cp (l : List AV) (j : Nat)
  | sl (n i s len : Nat)
  | csl (s len : Nat) (c : Nat → Nat → AV)
  | gs (n s len : Nat)
  | gp (n i s j : Nat)
  | mp (n : Nat)
  | nu (e s len : Nat) (l : List AV)
  | yl (n : Nat)
  | fn (f : Fn) (first cap : List AV)
  | ifc (t : TypeId) (v : AV)
  | agg (l : List AV)
  | tup (l : List AV)
  deriving Inhabited
inductive Ob where
  | cells (l : List AV)
  | row (s len : Nat) (c : Nat → Nat → AV)
  | own (z : Bool) (e : TypeId) (s : Nat) (l : List AV)
  | mapo (l : List (AV × AV)) (clock : Nat)
  | siter (s : ByteArray) (pos : Nat)
  | loop (s : LoopState) (pend : Option Code) (t : List (Option AV)) (ps : List Nat) (assign body : Code)
  | dfr
  | dead
  deriving Inhabited
/-- Objects whose block has no other living name. -/
def Ob.excl : Ob → Bool
  | .row .. | .dead => false
  | _ => true
abbrev Heap := List (Option Ob)
/-- An activation's temporaries, the heap, and the blocks that its ranges over functions have laid for deferred calls. -/
structure St where
  t : List (Option AV)
  h : Heap
  d : List Nat
inductive Ex where
  | normal | exit (id : Nat) | ret
/-- A contract: on arguments by content, a condition and the result. -/
abbrev Con := List AV → Option (Bool × AV)
abbrev Tab := FuncId → Option Con
def AV.cells : AV → List AV
  | .agg l => l
  | v => [v]
def AV.one : AV → Bool
  | .agg _ | .tup _ => false
  | .undef => false
  | _ => true
def ofV : Nat → Value → Option AV
  | _, .bool b => some (.bool b)
  | _, .int k n => some (.int k n)
  | _, .string s => some (.str s)
  | _, .pointer none => some .nilp
  | _, .slice none 0 0 => some .nilsl
  | _, .map none => some .nilmap
  | _, .nilFunc => some .nilf
  | _, .nilIface => some .nili
  | n + 1, .iface t v => (ofV n v).map (.ifc t)
  | n + 1, .agg cs => (cs.toList.mapM (ofV n)).map .agg
  | _, _ => none
/-- A number's range, as a list that the kernel reckons at once. -/
def upTo : Nat → Nat → List Nat
  | _, 0 => []
  | a, n + 1 => a :: upTo (a + 1) n
def isAggT (P : Program) (t : TypeId) : Option Bool :=
  match P.underlying t with
  | some (.struct _) | some (.array _ _) => some true
  | some _ => some false
  | none => none
def sizeT (P : Program) (t : TypeId) : Option Nat := (P.info? t).map (·.size)
def zeroT (P : Program) (t : TypeId) : Option AV :=
  match P.info? t with
  | some i => match i.zero with
    | some v => ofV 3 v
    | none => none
  | none => none
/-- What an operation does to the heap. -/
inductive Eff where
  | no
  | alloc (o : Ob)
  | set (n : Nat) (o : Ob)
  | two (n : Nat) (x o : Ob)
/-- Which object is written. -/
def Eff.sets : Eff → Option Nat
  | .set n _ | .two n _ _ => some n
  | _ => none
/-- What an operation gives: a condition, a value, what becomes of the heap. -/
abbrev Out := Option (Bool × AV × Eff)
@[reducible] def give (v : AV) : Out := some (true, v, .no)
def aite (c : Bool) : AV → AV → AV
  | .int k x, .int k' y => if k = k' then .int k (if c then x else y) else (if c then .int k x else .int k' y)
  | .bool x, .bool y => .bool (if c then x else y)
  | .str x, .str y => .str (if c then x else y)
  | a, b => if c then a else b
def intBin (op : BinOp) (k : IntKind) (x y : Int) : Option (Bool × AV) :=
  match op with
  | .add => some (true, .int k (k.wrap (x + y)))
  | .sub => some (true, .int k (k.wrap (x - y)))
  | .mul => some (true, .int k (k.wrap (x * y)))
  | .quo => some (decide (y ≠ 0), .int k (k.wrap (x.tdiv y)))
  | .rem => some (decide (y ≠ 0), .int k (x.tmod y))
  | .and => some (true, .int k (k.wrap (BitVec.ofInt k.bits x &&& BitVec.ofInt k.bits y).toNat))
  | .or => some (true, .int k (k.wrap (BitVec.ofInt k.bits x ||| BitVec.ofInt k.bits y).toNat))
  | .xor => some (true, .int k (k.wrap (BitVec.ofInt k.bits x ^^^ BitVec.ofInt k.bits y).toNat))
  | .eql => some (true, .bool (x == y))
  | .neq => some (true, .bool (x != y))
  | .lss => some (true, .bool (decide (x < y)))
  | .leq => some (true, .bool (decide (x ≤ y)))
  | .gtr => some (true, .bool (decide (x > y)))
  | .geq => some (true, .bool (decide (x ≥ y)))
  | _ => none
def intShift (op : BinOp) (k : IntKind) (x y : Int) : Option (Bool × AV) :=
  match op with
  | .shl => some (decide (0 ≤ y), .int k (k.wrap (x * 2 ^ (min y.toNat k.bits))))
  | .shr => some (decide (0 ≤ y), .int k (x.fdiv (2 ^ (min y.toNat k.bits))))
  | _ => none
def strBin (op : BinOp) (x y : ByteArray) : Option (Bool × AV) :=
  match op with
  | .add => some (decide (((x.size + y.size : Nat) : Int) ≤ IntKind.i64.max), .str (x ++ y))
  | .eql => some (true, .bool (x.toList == y.toList))
  | .neq => some (true, .bool !(x.toList == y.toList))
  | .lss => some (true, .bool (Op.bytesLess x.toList y.toList))
  | _ => none
def partA (P : Program) (t : TypeId) (l : List AV) (off : Nat) : Option AV :=
  match isAggT P t, sizeT P t with
  | some true, some n => if off + n ≤ l.length then some (.agg ((l.take (off + n)).drop off)) else none
  | some false, some _ => l[off]?
  | _, _ => none
/-- The same of an array's elements. -/
def eqEs (f : TypeId → AV → AV → Option Bool) (P : Program) (e : TypeId) (c : Nat) (xs ys : List AV) : List Nat → Option Bool
  | [] => some true
  | i :: is =>
    match partA P e xs (i * c), partA P e ys (i * c) with
    | some x, some y =>
      match f e x y, eqEs f P e c xs ys is with
      | some b, some r => some (b && r)
      | _, _ => none
    | _, _ => none
/-- Equality of values of a type: whole numbers, bools, strings, structs of them. -/
def eqFs (f : TypeId → AV → AV → Option Bool) (P : Program) (xs ys : List AV) : List Field → Option Bool
  | [] => some true
  | fd :: fs =>
    if fd.name ≠ "_" then
      match isAggT P fd.type, sizeT P fd.type with
      | some true, some n =>
        match f fd.type (.agg ((xs.take (fd.offset + n)).drop fd.offset)) (.agg ((ys.take (fd.offset + n)).drop fd.offset)), eqFs f P xs ys fs with
        | some b, some r => some (b && r)
        | _, _ => none
      | some false, some _ =>
        match xs[fd.offset]?, ys[fd.offset]? with
        | some x, some y =>
          match f fd.type x y, eqFs f P xs ys fs with
          | some b, some r => some (b && r)
          | _, _ => none
        | _, _ => none
      | _, _ => none
    else eqFs f P xs ys fs
def eqT (P : Program) : Nat → TypeId → AV → AV → Option Bool
  | 0, _, _, _ => none
  | d + 1, t, x, y =>
    match P.underlying t, x, y with
    | some .bool, .bool a, .bool b => some (a == b)
    | some (.int _), .int k a, .int k' b => if k = k' then some (a == b) else none
    | some .string, .str a, .str b => some (a.toList == b.toList)
    | some (.struct fs), .agg xs, .agg ys => if P.stoodInHeld t then none else eqFs (eqT P d) P xs ys fs.toList
    | some (.array n e), .agg xs, .agg ys => match sizeT P e with
      | some c => eqEs (eqT P d) P e c xs ys (List.range n)
      | none => none
    | _, _, _ => none
def binA (P : Program) (op : BinOp) (t : TypeId) (x y : AV) : Option (Bool × AV) :=
  match x, y with
  | .int k a, .int k' b =>
    match op with
    | .shl | .shr => intShift op k a b
    | _ => if k = k' then intBin op k a b else none
  | .str a, .str b => strBin op a b
  | .bool a, .bool b =>
    match op with
    | .eql => (eqT P 1 t x y).map fun r => (true, .bool r)
    | .neq => (eqT P 1 t x y).map fun r => (true, .bool !r)
    | _ => none
  | .agg _, .agg _ =>
    if P.eqGuardType P.depth t then none else
    match op with
    | .eql => (eqT P 4 t x y).map fun r => (true, .bool r)
    | .neq => (eqT P 4 t x y).map fun r => (true, .bool !r)
    | _ => none
  | .ifc _ _, .nili =>
    match P.underlying t, op with
    | some (.interface _), .eql => some (true, .bool false)
    | some (.interface _), .neq => some (true, .bool true)
    | _, _ => none
  | _, _ => none
def constO : Operand → Bool
  | .const _ => true
  | _ => false
/-- Nil against the literal nil of an interface type; else as above. -/
def binX (P : Program) (op : BinOp) (t : TypeId) (ox oy : Operand) (x y : AV) : Option (Bool × AV) :=
  match x, y with
  | .nili, .nili =>
    match constO ox || constO oy, P.underlying t, op with
    | true, some (.interface _), .eql => some (true, .bool true)
    | true, some (.interface _), .neq => some (true, .bool false)
    | _, _, _ => none
  | x, y => binA P op t x y
def unA (op : UnOp) (x : AV) : Option AV :=
  match op, x with
  | .neg, .int k n => some (.int k (k.wrap (0 - n)))
  | .not, .bool b => some (.bool !b)
  | .xor, .int k n => some (.int k (k.wrap (BitVec.ofInt k.bits (if k.signed then -1 else k.max) ^^^ BitVec.ofInt k.bits n).toNat))
  | _, _ => none
def convA (P : Program) (src dst : TypeId) (x : AV) : Option AV :=
  match P.underlying src, P.underlying dst, x with
  | some (.int _), some (.int k), .int _ n => some (.int k (k.wrap n))
  | some .string, some .string, .str s => some (.str s)
  | some (.int _), some .string, .int _ n => some (.str (Utf8.encode n))
  | _, _, _ => none
/-- Cells j .. j + n of an object, if they are there. -/
def cellsAt (l : List AV) (j n : Nat) : Option (List AV) := if j + n ≤ l.length then some ((l.drop j).take n) else none
def loadA (P : Program) (rd : Nat → Option Ob) (t : TypeId) (a : AV) : Option (Bool × AV) :=
  match isAggT P t, sizeT P t with
  | some ag, some n =>
    match a with
    | .ptr m i s j =>
      match rd m with
      | some (.cells l) => if ag then (cellsAt l (i * s + j) n).map fun c => (true, .agg c) else (l[i * s + j]?).map fun c => (true, c)
      | some (.row s' len c) =>
        if s = s' then
          if ag then (if j + n ≤ s then some (decide (i < len), .agg ((upTo j n).map (c i))) else none)
          else (if j < s then some (decide (i < len), c i j) else none)
        else none
      | _ => none
    | .cp l j => if ag then (cellsAt l j n).map fun c => (true, .agg c) else (l[j]?).map fun c => (true, c)
    | .gp m i s j =>
      match rd m with
      | some (.own _ _ s' l) => if ag then (cellsAt l (i * s + j) n).map fun c => (true, .agg c) else (l[i * s + j]?).map fun c => (true, c)
      | _ => none
    | _ => none
  | _, _ => none
def setAt : List AV → Nat → List AV → List AV
  | l, _, [] => l
  | l, j, v :: vs => setAt (l.set j v) (j + 1) vs
def storeA (P : Program) (rd : Nat → Option Ob) (t : TypeId) (a v : AV) : Option (Nat × Ob) :=
  match sizeT P t, a with
  | some n, .ptr m i s j =>
    match rd m with
    | some (.cells l) => if v.cells.length = n ∧ i * s + j + n ≤ l.length ∧ v.cells.all AV.one = true then some (m, .cells (setAt l (i * s + j) v.cells)) else none
    | _ => none
  | some n, .gp m i s j =>
    match rd m with
    | some (.own z e s' l) => if v.cells.length = n ∧ i * s + j + n ≤ l.length ∧ v.cells.all AV.one = true then some (m, .own z e s' (setAt l (i * s + j) v.cells)) else none
    | _ => none
  | _, _ => none
def fieldOf (P : Program) (t : TypeId) (f : Nat) : Option Field :=
  match P.underlying t with
  | some (.struct fs) => fs[f]?
  | _ => none
def fillA (place : Nat → Option (Nat × Nat)) (cells : List AV) : List (Nat × AV) → Option (List AV)
  | [] => some cells
  | (i, v) :: rest =>
    match place i with
    | none => none
    | some (off, size) => if v.cells.length = size ∧ off + v.cells.length ≤ cells.length then fillA place (setAt cells off v.cells) rest else none
def placesOf (P : Program) : List Field → Option (List (Nat × Nat))
  | [] => some []
  | f :: fs =>
    match sizeT P f.type, placesOf P fs with
    | some n, some r => some ((f.offset, n) :: r)
    | _, _ => none
def buildA (P : Program) (t : TypeId) (parts : List (Nat × AV)) : Option AV :=
  match zeroT P t, P.underlying t with
  | some z, some (.struct fs) =>
    match placesOf P fs.toList with
    | some pl => (fillA (fun i => pl[i]?) z.cells parts).map .agg
    | none => none
  | some z, some (.array _ e) =>
    match sizeT P e with
    | some n => (fillA (fun i => some (i * n, n)) z.cells parts).map .agg
    | none => none
  | _, _ => none
def evParts (e : Operand → Option AV) : List (Nat × Operand) → Option (List (Nat × AV))
  | [] => some []
  | (i, x) :: r =>
    match e x, evParts e r with
    | some v, some vs => some ((i, v) :: vs)
    | _, _ => none
def evAll (e : Operand → Option AV) : List Operand → Option (List AV)
  | [] => some []
  | x :: r =>
    match e x, evAll e r with
    | some v, some vs => some (v :: vs)
    | _, _ => none
def fieldAddrA (P : Program) (t : TypeId) (x : AV) (f : Nat) : Option AV :=
  match fieldOf P t f with
  | some fd =>
    match sizeT P fd.type with
    | some 0 => none
    | some _ =>
      match x with
      | .ptr n i s j => some (.ptr n i s (j + fd.offset))
      | .cp l j => some (.cp l (j + fd.offset))
      | .gp n i s j => some (.gp n i s (j + fd.offset))
      | _ => none
    | none => none
  | none => none
def indexAddrA (P : Program) (t : TypeId) (x ix : AV) : Option (Bool × AV) :=
  match P.underlying t, x, ix with
  | some (.array len e), .ptr n 0 0 j, .int _ k =>
    match sizeT P e with
    | some s => some (decide (0 ≤ k) && decide (k < len), .ptr n k.toNat s j)
    | none => none
  | some (.slice e), .sl n i s len, .int _ k =>
    match sizeT P e with
    | some s' => if s = s' then some (decide (0 ≤ k) && decide (k < len), .ptr n (i + k.toNat) s 0) else none
    | none => none
  | some (.slice e), .csl s len c, .int _ k =>
    match sizeT P e with
    | some s' => if s = s' then some (decide (0 ≤ k) && decide (k < len), .cp ((upTo 0 s).map (c k.toNat)) 0) else none
    | none => none
  | some (.slice e), .gs n s len, .int _ k =>
    match sizeT P e with
    | some s' => if s = s' then some (decide (0 ≤ k) && decide (k < len), .gp n k.toNat s 0) else none
    | none => none
  | _, _, _ => none
def indexA (P : Program) (t : TypeId) (x ix : AV) : Option (Bool × AV) :=
  match P.underlying t, x, ix with
  | some (.array len e), .agg l, .int _ k =>
    match sizeT P e with
    | some s =>
      match partA P e l (k.toNat * s) with
      | some v => some (decide (0 ≤ k) && decide (k < len), v)
      | none => none
    | none => none
  | some .string, .str s, .int _ k => some (decide (0 ≤ k) && decide (k < s.size), .int .u8 ((s.data.getD k.toNat 0).toNat))
  | _, _, _ => none
def boundA (x : Option AV) (d : Int) : Option Int :=
  match x with
  | none => some d
  | some (.int _ k) => some k
  | _ => none
def evOpt (e : Operand → Option AV) : Option Operand → Option (Option AV)
  | none => some none
  | some x => (e x).map some
def sliceA (P : Program) (t : TypeId) (x : AV) (lo hi : Option AV) : Option (Bool × AV) :=
  match P.underlying t, x with
  | some .string, .str s =>
    match boundA lo 0, boundA hi s.size with
    | some l, some h => some (decide (0 ≤ l) && decide (l ≤ h) && decide (h ≤ s.size), .str (s.extract l.toNat h.toNat))
    | _, _ => none
  | some (.slice e), .csl s len c =>
    match boundA lo 0, boundA hi len, sizeT P e with
    | some l, some h, some s' => if s = s' then some (decide (0 ≤ l) && decide (l ≤ h) && decide (h ≤ len), .csl s (h.toNat - l.toNat) (fun i j => c (l.toNat + i) j)) else none
    | _, _, _ => none
  | _, _ => none
def lenA (P : Program) (t : TypeId) (x : AV) : Option AV :=
  match P.underlying t, x with
  | some .string, .str s => some (.int .i64 s.size)
  | some (.array n _), _ => some (.int .i64 n)
  | some (.slice _), .sl _ _ _ n => some (.int .i64 n)
  | some (.slice _), .csl _ n _ => some (.int .i64 n)
  | some (.slice _), .gs _ _ n => some (.int .i64 n)
  | some (.slice _), .nilsl => some (.int .i64 0)
  | _, _ => none
def max2A : AV → AV → Option AV
  | .int k x, .int _ y => some (.int k (if y > x then y else x))
  | _, _ => none
def min2A : AV → AV → Option AV
  | .int k x, .int _ y => some (.int k (if y < x then y else x))
  | _, _ => none
def foldA (f : AV → AV → Option AV) : AV → List AV → Option AV
  | x, [] => some x
  | x, y :: r => match f x y with
    | some z => foldA f z r
    | none => none
/-- The object that a new variable is, and the pointer to it. -/
def boxOut (nm : Nat) (v : AV) : Out := if v.cells.all AV.one = true then some (true, .ptr nm 0 0 0, .alloc (.cells v.cells)) else none
/-- Values by content alone: what a call is handed. -/
def AV.free : Nat → AV → Bool
  | _, .ptr .. | _, .sl .. | _, .gs .. | _, .gp .. | _, .mp .. | _, .nu .. | _, .yl .. => false
  | n + 1, .agg l => l.all (AV.free n)
  | n + 1, .tup l => l.all (AV.free n)
  | n + 1, .fn _ a b => a.all (AV.free n) && b.all (AV.free n)
  | n + 1, .ifc _ v => AV.free n v
  | _, .agg _ | _, .tup _ | _, .fn .. | _, .ifc .. => false
  | _, _ => true
/-- A result that has no memory at all. -/
def AV.flat : Nat → AV → Bool
  | _, .bool _ | _, .int _ _ | _, .str _ | _, .anys | _, .undef | _, .nilp | _, .nilsl | _, .nilmap | _, .nilf | _, .nili => true
  | n + 1, .agg l => l.all (AV.flat n)
  | n + 1, .tup l => l.all (AV.flat n)
  | n + 1, .ifc _ v => AV.flat n v
  | _, _ => false
/-- A result without memory but for slices that the call has made; what they hold; the same with a name for the one. -/
def AV.okN : Nat → AV → Bool
  | _, .nu e s len l => l.all (AV.flat 4) && decide (l.length = len * s)
  | n + 1, .agg l => l.all (AV.okN n)
  | n + 1, .tup l => l.all (AV.okN n)
  | n, v => v.flat n
def AV.nus : Nat → AV → List Ob
  | _, .nu e s len l => [.own true e s l]
  | n + 1, .agg l => (l.map (AV.nus n)).flatten
  | n + 1, .tup l => (l.map (AV.nus n)).flatten
  | _, _ => []
def AV.rn (nm : Nat) : Nat → AV → AV
  | _, .nu e s len l => .gs nm s len
  | n + 1, .agg l => .agg (l.map (AV.rn nm n))
  | n + 1, .tup l => .tup (l.map (AV.rn nm n))
  | _, v => v
/-- Named objects to content: slices and pointers of a call's arguments. -/
def frz (rd : Nat → Option Ob) : Nat → AV → Option AV
  | n + 1, .ptr m i s j =>
    match rd m with
    | some (.cells l) => (l.mapM (frz rd n)).map fun l' => .cp l' (i * s + j)
    | _ => none
  | n + 1, .sl m i s len =>
    match rd m with
    | some (.row s' len' c) => if s = s' ∧ i + len ≤ len' then some (.csl s len (fun a b => c (i + a) b)) else none
    | _ => none
  | n + 1, .gs m s len =>
    match rd m with
    | some (.own _ _ s' l) => if s = s' ∧ l.length = len * s then (l.mapM (frz rd n)).map fun l' => .csl s len (fun a b => l'.getD (a * s + b) .undef) else none
    | _ => none
  | n + 1, .gp m i s j =>
    match rd m with
    | some (.own _ _ _ l) => (l.mapM (frz rd n)).map fun l' => .cp l' (i * s + j)
    | _ => none
  | n + 1, .agg l => (l.mapM (frz rd n)).map .agg
  | n + 1, .fn f a b =>
    match a.mapM (frz rd n), b.mapM (frz rd n) with
    | some a', some b' => some (.fn f a' b')
    | _, _ => none
  | n + 1, .ifc t v => (frz rd n v).map (.ifc t)
  | _, .cp l j => some (.cp l j)
  | _, .csl s l c => some (.csl s l c)
  | _, .bool b => some (.bool b)
  | _, .int k n => some (.int k n)
  | _, .str s => some (.str s)
  | _, .anys => some .anys
  | _, .nilp => some .nilp
  | _, .nilsl => some .nilsl
  | _, .nilmap => some .nilmap
  | _, .nilf => some .nilf
  | _, .nili => some .nili
  | _, _ => none
/-- Which function a type's method is, told by value. -/
def methA (P : Program) (t : TypeId) (name : String) : Option FuncId :=
  match P.info? t with
  | some ti =>
    match ti.methods.toList.find? (fun m => m.name == name) with
    | some m =>
      match m.path.toList, m.func, P.underlying t with
      | [], some (_, false), some (.pointer _) => none
      | [], some (f, false), some _ => some f
      | _, _, _ => none
    | none => none
  | none => none
/-- Which function a call calls, and with what. -/
def targetA (P : Program) (e : Operand → Option AV) (c : Call) : Option (FuncId × List AV) :=
  match c.callee with
  | .invoke r name =>
    match e r, evAll e c.args.toList with
    | some (.ifc t v), some args =>
      match methA P t name with
      | some g => some (g, v :: args)
      | none => none
    | _, _ => none
  | .value f =>
    match e f, evAll e c.args.toList with
    | some (.fn (.func g) first cap), some args => some (g, first ++ args ++ cap)
    | _, _ => none
  | _ => none
def frzAll (rd : Nat → Option Ob) : List AV → Option (List AV)
  | [] => some []
  | x :: r =>
    match frz rd 6 x, frzAll rd r with
    | some v, some vs => some (v :: vs)
    | _, _ => none
def resOut (nm : Nat) (p : Bool) (v : AV) : Out :=
  if v.flat 4 then some (p, v, .no)
  else if v.okN 4 then
    match v.nus 4 with
    | [ob] => some (p, v.rn nm 4, .alloc ob)
    | _ => none
  else none
def callA (P : Program) (T : Tab) (rd : Nat → Option Ob) (nm : Nat) (e : Operand → Option AV) (c : Call) : Out :=
  match targetA P e c with
  | some (g, args) =>
    match T g with
    | some con =>
      match frzAll rd args with
      | some args' =>
        match con args' with
        | some (p, v) => resOut nm p v
        | none => none
      | none => none
    | none => none
  | none => none
def builtinA (P : Program) (b : Builtin) (ts : Array TypeId) (args : List AV) : Option AV :=
  match b, args with
  | .len, [x] => match ts[0]? with
    | some t => lenA P t x
    | none => none
  | .max, x :: r => foldA max2A x r
  | .min, x :: r => foldA min2A x r
  | _, _ => none
/-- What an interface value holds, if it is of a type that is none. -/
def assertA (P : Program) (t : TypeId) (ok : Bool) (x : AV) : Option AV :=
  match P.underlying t, x with
  | some (.interface _), _ => none
  | some _, .ifc u v => if u = t then some (if ok then .tup [v, .bool true] else v) else (if ok then (zeroT P t).map fun z => .tup [z, .bool false] else none)
  | some _, .nili => if ok then (zeroT P t).map fun z => .tup [z, .bool false] else none
  | _, _ => none
@[reducible] def plainOut (r : Option AV) : Out := r.map fun v => (true, v, .no)
@[reducible] def condOut (r : Option (Bool × AV)) : Out := r.map fun (p, v) => (p, v, .no)
/-- A slice literal; a slice that is made. -/
def litOut (P : Program) (nm : Nat) (t : TypeId) (len : Nat) (vs : List (Nat × AV)) : Out :=
  match P.underlying t with
  | some (.slice el) =>
    match sizeT P el, zeroT P el with
    | some n, some z =>
      match fillA (fun i => some (i * n, n)) ((List.replicate len z.cells).flatten) vs with
      | some l => if 0 < n ∧ 0 < len ∧ z.cells.length = n ∧ len * n ≤ 16777216 then some (true, .gs nm n len, .alloc (.own true el n l)) else none
      | none => none
    | _, _ => none
  | _ => none
def makeOut (P : Program) (nm : Nat) (t : TypeId) (l c : AV) : Out :=
  match P.underlying t, l, c with
  | some (.slice el), .int kl (.ofNat n), .int kc (.ofNat m) =>
    match P.info? el, zeroT P el with
    | some i, some z => if n = m ∧ 0 < i.size ∧ z.cells.length = i.size ∧ i.bytes * n ≤ 281474976710656 ∧ n ≤ maxLen then some (true, .gs nm i.size n, .alloc (.own true el i.size ((List.replicate n z.cells).flatten))) else none
    | _, _ => none
  | _, _, _ => none
def keyEq : AV → AV → Option Bool
  | .int k a, .int k' b => if k = k' then some (a == b) else none
  | .bool a, .bool b => some (a == b)
  | _, _ => none
def findA (k : AV) : List (AV × AV) → Nat → Option (Option (Nat × AV))
  | [], _ => some none
  | (k', v) :: r, i =>
    match keyEq k k' with
    | some true => some (some (i, v))
    | some false => findA k r (i + 1)
    | none => none
/-- A map's key: a whole number or a bool, of its type. -/
def keyOk (P : Program) (t : TypeId) (k : AV) : Bool :=
  match P.underlying t, k with
  | some (.int k), .int k' _ => k == k'
  | some .bool, .bool _ => true
  | _, _ => false
/-- A map's entry, told. -/
def lookA (P : Program) (rd : Nat → Option Ob) (t : TypeId) (x k : AV) (ok : Bool) : Option AV :=
  match P.underlying t, x with
  | some (.map kt el), .mp n =>
    match keyOk P kt k, rd n, zeroT P el with
    | true, some (.mapo l _), some z =>
      match findA k l 0 with
      | some (some (_, v)) => some (if ok then .tup [v, .bool true] else v)
      | some none => some (if ok then .tup [z, .bool false] else z)
      | none => none
    | _, _, _ => none
  | _, _ => none
/-- One operation. nm: the name that a new object gets. -/
def opv (P : Program) (T : Tab) (rd : Nat → Option Ob) (nm : Nat) (e : Operand → Option AV) (o : Oper) : Out :=
  match o.op with
  | .move x | .assign x => plainOut (e x)
  | .pick c a b =>
    match e c, e a, e b with
    | some (.bool q), some x, some y => give (aite q x y)
    | _, _, _ => none
  | .alloc t => match zeroT P t with
    | some z => boxOut nm z
    | none => none
  | .box t x => match e x with
    | some v => boxOut nm v
    | none => none
  | .build t ps => match evParts e ps.toList with
    | some vs => plainOut (buildA P t vs)
    | none => none
  | .load t x => match e x with
    | some a => condOut (loadA P rd t a)
    | none => none
  | .store t x y => match e x, e y with
    | some a, some v => (storeA P rd t a v).map fun (n, ob) => (true, .undef, .set n ob)
    | _, _ => none
  | .nilCheck x => match e x with
    | some (.ptr n i s j) => give (.ptr n i s j)
    | some (.cp l j) => give (.cp l j)
    | some (.gp n i s j) => give (.gp n i s j)
    | some (.fn (.func f) a b) => give (.fn (.func f) a b)
    | _ => none
  | .binOp op t x y _ => match e x, e y with
    | some a, some b => condOut (binX P op t x y a b)
    | _, _ => none
  | .unOp op _ x => match e x with
    | some a => plainOut (unA op a)
    | none => none
  | .convert s d x => match e x with
    | some a => plainOut (convA P s d a)
    | none => none
  | .makeInterface t x => match P.underlying t, e x with
    | some (.interface _), _ => none
    | some _, some a => give (.ifc t a)
    | _, _ => none
  | .makeFunc f a b => match evAll e a.toList, evAll e b.toList with
    | some x, some y => give (.fn f x y)
    | _, _ => none
  | .slice t x lo hi none => match e x, evOpt e lo, evOpt e hi with
    | some a, some l, some h => condOut (sliceA P t a l h)
    | _, _, _ => none
  | .fieldAddr t x f => match e x with
    | some a => plainOut (fieldAddrA P t a f)
    | none => none
  | .field t x f => match e x, fieldOf P t f with
    | some (.agg l), some fd => plainOut (partA P fd.type l fd.offset)
    | _, _ => none
  | .indexAddr t x i => match e x, e i with
    | some a, some k => condOut (indexAddrA P t a k)
    | _, _ => none
  | .index t x i => match e x, e i with
    | some a, some k => condOut (indexA P t a k)
    | _, _ => none
  | .extract x i => match e x with
    | some (.tup l) => plainOut (l[i]?)
    | _ => none
  | .call c => match c.callee with
    | .builtin b => match evAll e c.args.toList with
      | some args => plainOut (builtinA P b c.argTypes args)
      | none => none
    | _ => callA P T rd nm e c
  | .typeAssert x _ t ok => match e x with
    | some a => plainOut (assertA P t ok a)
    | none => none
  | .buildSlice t len ps => match evParts e ps.toList with
    | some vs => litOut P nm t len vs
    | none => none
  | .makeSlice t l c => match e l, e c with
    | some x, some y => makeOut P nm t x y
    | _, _ => none
  | .lookup t x ix ok => match e x, e ix with
    | some a, some k => plainOut (lookA P rd t a k ok)
    | _, _ => none
  | .makeMap t none => match P.underlying t with
    | some (.map _ _) => some (true, .mp nm, .alloc (.mapo [] 0))
    | _ => none
  | _ => none
/-- A slice's cells, as far as they are told. -/
def cellsOf (rd : Nat → Option Ob) (s : Nat) : AV → Option (List AV)
  | .gs n s' len =>
    match rd n with
    | some (.own _ _ s2 l) => if s = s' ∧ s = s2 ∧ l.length = len * s then some l else none
    | _ => none
  | _ => none
/-- What such an operation does: what it sets, what it makes. -/
abbrev XOut := Option (Bool × AV × Option (Nat × Ob) × Option Ob)
def appendA (P : Program) (rd : Nat → Option Ob) (nm : Nat) (t : TypeId) (x y : AV) : XOut :=
  match P.underlying t with
  | some (.slice e) =>
    match P.info? e, zeroT P e with
    | some i, some z =>
      match y, cellsOf rd i.size y with
      | .gs _ _ m, some new =>
        if 0 < i.size ∧ z.cells.length = i.size ∧ new.all AV.one = true then
          match x with
          | .nilsl => if 0 < m ∧ m ≤ maxLen ∧ m * i.bytes ≤ 140737488355328 then some (true, .gs nm i.size m, none, some (.own true e i.size new)) else none
          | .gs n s len =>
            match rd n with
            | some (.own true e' s' l) =>
              if e' = e ∧ s = i.size ∧ s' = i.size ∧ l.length = len * i.size ∧ len + m ≤ maxLen ∧ (len + m) * i.bytes ≤ 140737488355328 then some (true, .gs nm i.size (len + m), some (n, .dead), some (.own true e i.size (l ++ new))) else none
            | _ => none
          | _ => none
        else none
      | _, _ => none
    | _, _ => none
  | _ => none
def intsOf : List AV → Option (List Int)
  | [] => some []
  | .int .u8 n :: r => match intsOf r with
    | some l => some (n :: l)
    | none => none
  | _ => none
/-- The bytes of a slice that is told by name. -/
def slBytes (rd : Nat → Option Ob) : AV → Option (List AV)
  | .sl n i 1 len =>
    match rd n with
    | some (.row 1 m c) => if i + len ≤ m then some ((upTo 0 len).map fun k => c (i + k) 0) else none
    | _ => none
  | _ => none
def xop (P : Program) (o : Oper) (e : Operand → Option AV) (rd : Nat → Option Ob) (nm : Nat) : XOut :=
  match o.op with
  | .slice t x lo hi mx =>
    match P.underlying t, e x, evOpt e lo, evOpt e hi, evOpt e mx with
    | some (.slice el), some (.gs n s len), some l, some h, some m =>
      match boundA l 0, boundA h len, boundA m len, rd n, sizeT P el with
      | some (.ofNat a), some (.ofNat b), some (.ofNat c), some (.own _ _ s' cs), some s2 =>
        if s = s2 ∧ s' = s ∧ cs.length = len * s ∧ a ≤ b ∧ b ≤ c ∧ c ≤ len ∧ (mx.isNone || hi.isSome) = true ∧ cs.all (AV.flat 4) = true then some (true, .sl nm 0 s (b - a), some (n, .dead), some (.row s (b - a) fun i j => cs.getD ((a + i) * s + j) .undef)) else none
      | _, _, _, _, _ => none
    | some (.array cnt el), some (.ptr n 0 0 0), some l, some h, some none =>
      match boundA l 0, boundA h cnt, rd n, sizeT P el with
      | some (.ofNat a), some (.ofNat b), some (.cells cs), some s => if cs.length = cnt * s ∧ a ≤ b ∧ b ≤ cnt ∧ cs.all (AV.flat 4) = true then some (true, .sl nm 0 s (b - a), some (n, .dead), some (.row s (b - a) fun i j => cs.getD ((a + i) * s + j) .undef)) else none
      | _, _, _, _ => none
    | _, _, _, _, _ => none
  | .convert src dst x =>
    match P.underlying src, P.underlying dst, e x with
    | some .string, some (.slice el), some (.str s) =>
      match P.underlying el with
      | some (.int .u8) => if s.size ≤ maxLen then some (true, .gs nm 1 s.size, none, some (.own false el 1 (s.data.toList.map fun b => .int .u8 b.toNat))) else none
      | _ => none
    | some (.slice el), some .string, some y =>
      match P.underlying el, cellsOf rd 1 y with
      | some (.int .u8), some l => match intsOf l with
        | some ns => some (true, .str ⟨(ns.map fun n => UInt8.ofNat n.toNat).toArray⟩, none, none)
        | none => none
      | some (.int .u8), none => match slBytes rd y with
        | some l => match intsOf l with
          | some ns => some (true, .str ⟨(ns.map fun n => UInt8.ofNat n.toNat).toArray⟩, none, none)
          | none => none
        | none => none
      | _, _ => none
    | _, _, _ => none
  | .mapUpdate t x ix y | .insert t x ix y =>
    match P.underlying t, e x, e ix, e y with
    | some (.map kt _), some (.mp n), some k, some v =>
      match keyOk P kt k, rd n with
      | true, some (.mapo l c) =>
        match findA k l 0 with
        | some (some (i, _)) => some (true, .undef, some (n, .mapo (l.set i (k, v)) c), none)
        | some none => some (true, .undef, some (n, .mapo (l ++ [(k, v)]) (c + 1)), none)
        | none => none
      | _, _ => none
    | _, _, _, _ => none
  | .range t x =>
    match P.underlying t, e x with
    | some .string, some (.str s) => some (true, .ptr nm 0 0 0, none, some (.siter s 0))
    | _, _ => none
  | .next x true =>
    match e x with
    | some (.ptr n 0 0 0) =>
      match rd n with
      | some (.siter s pos) =>
        if pos < s.size then some (true, .tup [.bool true, .int .i64 pos, .int .i32 (Utf8.decode s pos).1], some (n, .siter s (pos + (Utf8.decode s pos).2)), none)
        else some (true, .tup [.bool false], none, none)
      | _ => none
    | _ => none
  | .call c =>
    match c.callee with
    | .builtin .append =>
      match evAll e c.args.toList, c.argTypes.toList with
      | some [x, y], [t, t'] => if t = t' then appendA P rd nm t x y else none
      | _, _ => none
    | _ => none
  | _ => none
def xheap (h : Heap) (s : Option (Nat × Ob)) (a : Option Ob) : Heap :=
  let h1 := match s with
    | some (n, o) => h.set n (some o)
    | none => h
  match a with
  | some o => h1 ++ [some o]
  | none => h1
def effOf : Option (Nat × Ob) → Option Ob → Eff
  | none, none => .no
  | none, some o => .alloc o
  | some (n, x), none => .set n x
  | some (n, x), some o => .two n x o
/-- Operations that write maps and rows. -/
def heavy : Op → Bool
  | .mapUpdate _ _ _ _ | .insert _ _ _ _ => true
  | .call c => match c.callee with
    | .builtin .append => true
    | _ => false
  | _ => false
/-- An operation, wherever it stands. -/
def opw (P : Program) (T : Tab) (rd : Nat → Option Ob) (nm : Nat) (e : Operand → Option AV) (o : Oper) : Out :=
  match opv P T rd nm e o with
  | some r => some r
  | none =>
    match heavy o.op with
    | true =>
      match xop P o e rd nm with
      | some (p, v, s, a) => some (p, v, effOf s a)
      | none => none
    | false => none
/-- Which function an operation calls, and with what. -/
def callOf (P : Program) (o : Oper) (e : Operand → Option AV) : Option (FuncId × List AV) :=
  match o.op with
  | .call c => targetA P e c
  | _ => none
/-- What a walk comes to: a condition (a statement), or an answer. -/
structure Alg (α : Type) where
  br : Bool → α → α → α
  no : α
  fi : Int → (Int → α) → α
  fb : Bool → (Bool → α) → α
  fn : Nat → (Nat → α) → α
  bi : Int → (Int → α) → α
  bb : Bool → (Bool → α) → α
  fi_eq : ∀ n K, fi n K = K n
  br_t : ∀ x y, br true x y = x
  br_f : ∀ x y, br false x y = y
  fb_eq : ∀ n K, fb n K = K n
  fn_eq : ∀ n K, fn n K = K n
  bi_eq : ∀ n K, bi n K = K n
  bb_eq : ∀ n K, bb n K = K n
def brc (b : Bool) (A B : Prop) : Prop := match b with
  | true => A
  | false => B
theorem brc_false {b : Bool} {A : Prop} : brc b A False ↔ b = true ∧ A := by cases b <;> simp [brc]
theorem brc_intro {b : Bool} {A B : Prop} (h : b = true → A) (k : b = false → B) : brc b A B := by
  cases b
  · exact k rfl
  · exact h rfl
/-- A value under a name of its own. -/
def nmd {β : Type} (n : β) (K : β → Prop) : Prop := ∀ m, m = n → K m
theorem nmd_eq {β : Type} (n : β) (K : β → Prop) : nmd n K = K n := propext ⟨fun h => h n rfl, fun h m e => by rw [e]; exact h⟩
def PA : Alg Prop where
  br := brc
  no := False
  fi := fun n K => K n
  fb := fun n K => K n
  fn := fun n K => K n
  bi := nmd
  bb := nmd
  fi_eq := fun _ _ => rfl
  br_t := fun _ _ => rfl
  br_f := fun _ _ => rfl
  fb_eq := fun _ _ => rfl
  fn_eq := fun _ _ => rfl
  bi_eq := nmd_eq
  bb_eq := nmd_eq
def bro {β : Type} (b : Bool) (A B : Option β) : Option β := match b with
  | true => A
  | false => B
def forceI {α : Type} (n : Int) (K : Int → α) : α := match n with
  | .ofNat 0 => K 0
  | .ofNat (m + 1) => K (.ofNat (m + 1))
  | .negSucc 0 => K (.negSucc 0)
  | .negSucc (m + 1) => K (.negSucc (m + 1))
theorem forceI_eq {α : Type} (n : Int) (K : Int → α) : forceI n K = K n := by unfold forceI; split <;> rfl
def forceB {α : Type} (b : Bool) (K : Bool → α) : α := match b with
  | true => K true
  | false => K false
theorem forceB_eq {α : Type} (b : Bool) (K : Bool → α) : forceB b K = K b := by cases b <;> rfl
def forceN {α : Type} (n : Nat) (K : Nat → α) : α := match n with
  | 0 => K 0
  | m + 1 => K (m + 1)
theorem forceN_eq {α : Type} (n : Nat) (K : Nat → α) : forceN n K = K n := by unfold forceN; split <;> rfl
def OA (β : Type) : Alg (Option β) where
  br := bro
  no := none
  fi := forceI
  fb := forceB
  fn := forceN
  bi := forceI
  bb := forceB
  fi_eq := forceI_eq
  br_t := fun _ _ => rfl
  br_f := fun _ _ => rfl
  fb_eq := forceB_eq
  fn_eq := forceN_eq
  bi_eq := forceI_eq
  bb_eq := forceB_eq
section force
variable {α : Type}
section gen
variable (fi : Int → (Int → α) → α) (fb : Bool → (Bool → α) → α) (fn : Nat → (Nat → α) → α)
mutual
def gv : AV → (AV → α) → α
  | .undef, K => K .undef
  | .bool b, K => fb b fun b => K (.bool b)
  | .int k n, K => fi n fun n => K (.int k n)
  | .str s, K => K (.str s)
  | .anys, K => K .anys
  | .nilp, K => K .nilp
  | .nilsl, K => K .nilsl
  | .nilmap, K => K .nilmap
  | .nilf, K => K .nilf
  | .nili, K => K .nili
  | .ptr n i s j, K => fn n fun n => fn i fun i => fn s fun s => fn j fun j => K (.ptr n i s j)
  | .cp l j, K => gl l fun l => K (.cp l j)
  | .sl n i s len, K => fn n fun n => fn i fun i => fn s fun s => fn len fun len => K (.sl n i s len)
  | .csl s len c, K => K (.csl s len c)
  | .gs n s len, K => fn n fun n => fn s fun s => fn len fun len => K (.gs n s len)
  | .gp n i s j, K => fn n fun n => fn i fun i => fn s fun s => fn j fun j => K (.gp n i s j)
  | .mp n, K => fn n fun n => K (.mp n)
  | .yl n, K => fn n fun n => K (.yl n)
  | .nu e s len l, K => fn e fun e => fn s fun s => fn len fun len => gl l fun l => K (.nu e s len l)
  | .fn f a b, K => gl a fun a => gl b fun b => K (.fn f a b)
  | .ifc t v, K => gv v fun v => K (.ifc t v)
  | .agg l, K => gl l fun l => K (.agg l)
  | .tup l, K => gl l fun l => K (.tup l)
def gl : List AV → (List AV → α) → α
  | [], K => K []
  | v :: l, K => gv v fun v => gl l fun l => K (v :: l)
end
mutual
theorem gv_eq (hi : ∀ n K, fi n K = K n) (hb : ∀ n K, fb n K = K n) (hn : ∀ n K, fn n K = K n) : ∀ (v : AV) (K : AV → α), gv fi fb fn v K = K v
  | .undef, K => rfl
  | .bool b, K => by simp only [gv, hb]
  | .int k n, K => by simp only [gv, hi]
  | .str s, K => rfl
  | .anys, K => rfl
  | .nilp, K => rfl
  | .nilsl, K => rfl
  | .nilmap, K => rfl
  | .nilf, K => rfl
  | .nili, K => rfl
  | .ptr n i s j, K => by simp only [gv, hn]
  | .cp l j, K => by simp only [gv]; rw [gl_eq hi hb hn l]
  | .sl n i s len, K => by simp only [gv, hn]
  | .csl s len c, K => rfl
  | .gs n s len, K => by simp only [gv, hn]
  | .gp n i s j, K => by simp only [gv, hn]
  | .mp n, K => by simp only [gv, hn]
  | .yl n, K => by simp only [gv, hn]
  | .nu e s len l, K => by simp only [gv, hn]; rw [gl_eq hi hb hn l]
  | .fn f a b, K => by simp only [gv]; rw [gl_eq hi hb hn a, gl_eq hi hb hn b]
  | .ifc t v, K => by simp only [gv]; rw [gv_eq hi hb hn v]
  | .agg l, K => by simp only [gv]; rw [gl_eq hi hb hn l]
  | .tup l, K => by simp only [gv]; rw [gl_eq hi hb hn l]
theorem gl_eq (hi : ∀ n K, fi n K = K n) (hb : ∀ n K, fb n K = K n) (hn : ∀ n K, fn n K = K n) : ∀ (l : List AV) (K : List AV → α), gl fi fb fn l K = K l
  | [], K => rfl
  | v :: l, K => by simp only [gl]; rw [gv_eq hi hb hn v, gl_eq hi hb hn l]
end
end gen
variable (A : Alg α)
def fv (v : AV) (K : AV → α) : α := gv A.fi A.fb A.fn v K
def fl (l : List AV) (K : List AV → α) : α := gl A.fi A.fb A.fn l K
theorem fv_eq (v : AV) (K : AV → α) : fv A v K = K v := gv_eq A.fi A.fb A.fn A.fi_eq A.fb_eq A.fn_eq v K
theorem fl_eq (l : List AV) (K : List AV → α) : fl A l K = K l := gl_eq A.fi A.fb A.fn A.fi_eq A.fb_eq A.fn_eq l K
/-- Is it a call of a function? -/
def isCall : Op → Bool
  | .call c => match c.callee with
    | .builtin _ => false
    | _ => true
  | _ => false
/-- A call's results get names of their own. -/
def fx (o : Oper) (v : AV) (K : AV → α) : α := if isCall o.op then gv A.bi A.bb A.fn v K else fv A v K
theorem fx_eq (o : Oper) (v : AV) (K : AV → α) : fx A o v K = K v := by
  unfold fx
  split
  · exact gv_eq A.bi A.bb A.fn A.bi_eq A.bb_eq A.fn_eq v K
  · exact fv_eq A v K
def fo : Ob → (Ob → α) → α
  | .cells l, K => fl A l fun l => K (.cells l)
  | .row s n c, K => K (.row s n c)
  | .own z e s l, K => A.fn e fun e => A.fn s fun s => fl A l fun l => K (.own z e s l)
  | .mapo l c, K => K (.mapo l c)
  | .siter s p, K => K (.siter s p)
  | .loop s p t ps a b, K => K (.loop s p t ps a b)
  | .dfr, K => K .dfr
  | .dead, K => K .dead
theorem fo_eq (o : Ob) (K : Ob → α) : fo A o K = K o := by
  cases o <;> first | rfl | (simp only [fo, A.fn_eq]; rw [fl_eq])
def fe : Eff → (Eff → α) → α
  | .no, K => K .no
  | .alloc o, K => fo A o fun o => K (.alloc o)
  | .set n o, K => fo A o fun o => K (.set n o)
  | .two n x o, K => fo A x fun x => fo A o fun o => K (.two n x o)
theorem fe_eq (e : Eff) (K : Eff → α) : fe A e K = K e := by
  cases e
  · rfl
  · simp only [fe]; rw [fo_eq]
  · simp only [fe]; rw [fo_eq]
  · simp only [fe]; rw [fo_eq, fo_eq]
/-- What a call's new slice holds gets names too. -/
def fy (o : Oper) (e : Eff) (K : Eff → α) : α :=
  match isCall o.op, e with
  | true, .alloc (.own z ty s l) => gl A.bi A.bb A.fn l fun l => K (.alloc (.own z ty s l))
  | _, e => fe A e K
theorem fy_eq (o : Oper) (e : Eff) (K : Eff → α) : fy A o e K = K e := by
  unfold fy
  split
  · exact gl_eq A.bi A.bb A.fn A.bi_eq A.bb_eq A.fn_eq _ _
  · exact fe_eq A _ K
def fso : Option (Nat × Ob) → (Option (Nat × Ob) → α) → α
  | none, K => K none
  | some (n, o), K => fo A o fun o => K (some (n, o))
theorem fso_eq (s : Option (Nat × Ob)) (K : Option (Nat × Ob) → α) : fso A s K = K s := by
  cases s
  · rfl
  · rename_i p; obtain ⟨n, o⟩ := p; simp only [fso]; rw [fo_eq]
def fao : Option Ob → (Option Ob → α) → α
  | none, K => K none
  | some o, K => fo A o fun o => K (some o)
theorem fao_eq (s : Option Ob) (K : Option Ob → α) : fao A s K = K s := by
  cases s
  · rfl
  · simp only [fao]; rw [fo_eq]
end force
section spine
variable {α : Type}
/-- A list's spine. -/
noncomputable def fs {β : Type} (l : List β) : (List β → α) → α := @List.rec β (fun _ => (List β → α) → α) (fun K => K []) (fun x _ ih K => ih fun l => K (x :: l)) l
theorem fs_eq {β : Type} : ∀ (l : List β) (K : List β → α), fs l K = K l
  | [], K => rfl
  | x :: l, K => by show fs l (fun l => K (x :: l)) = _; rw [fs_eq l]
noncomputable def fst (s : St) (K : St → α) : α := fs s.t fun t => fs s.h fun h => K ⟨t, h, s.d⟩
theorem fst_eq (s : St) (K : St → α) : fst s K = K s := by unfold fst; rw [fs_eq, fs_eq]
end spine
noncomputable def getL {β : Type} (l : List β) : Nat → Option β := @List.rec β (fun _ => Nat → Option β) (fun _ => none) (fun x _ ih n => @Nat.rec (fun _ => Option β) (some x) (fun m _ => ih m) n) l
theorem getL_eq {β : Type} : ∀ (l : List β) (n : Nat), getL l n = l[n]?
  | [], _ => rfl
  | x :: l, 0 => rfl
  | x :: l, n + 1 => by show getL l n = _; rw [getL_eq l n]; simp
/-- A temporary. -/
noncomputable def tmAll (st : St) (t : Nat) : Option AV := (getL st.t t).join
/-- A temporary, if the operation looks at it. -/
noncomputable def tmOf (st : St) (ts : List Nat) (t : Nat) : Option AV := if ts.contains t then tmAll st t else none
theorem tmAll_some {st : St} {d : Nat} {v : AV} (h : tmAll st d = some v) : st.t[d]? = some (some v) := by
  simp only [tmAll, getL_eq] at h
  cases hq : st.t[d]? with
  | none => simp [hq] at h
  | some u => simp [hq] at h; rw [h]
/-- How an operation looks at a state's temporaries. -/
abbrev Lk := Oper → St → Nat → Option AV
noncomputable def lkAll : Lk := fun _ st => tmAll st
noncomputable def lkOf (ops : Array Oper) : Lk := fun o st => tmOf st (o.looksAt ops)
def LkOk (lk : Lk) : Prop := ∀ o st t v, lk o st t = some v → st.t[t]? = some (some v)
def evOf (tm : Nat → Option AV) : Operand → Option AV
  | .tmp t => tm t
  | .const v => ofV 3 v
  | .global _ => none
  | .func f => some (.fn (.func f) [] [])
def wantedA (ops : Array Oper) (tm : Nat → Option AV) (o : Oper) : Option Bool :=
  match o.guard with
  | none => some true
  | some (j, want) =>
    match (ops[j]?).bind (·.dst) with
    | some d =>
      match tm d with
      | some (.bool b) => some (if want then b else !b)
      | some .undef => some false
      | _ => none
    | none => none
def putT (t : List (Option AV)) (dst : Option Tmp) (v : AV) : List (Option AV) :=
  match dst with
  | some d => t.set d (some v)
  | none => t
def effH (h : Heap) (nm : Nat) : Eff → Heap
  | .no => h
  | .alloc o => if nm < h.length then h.set nm (some o) else h ++ [some o]
  | .set n o => h.set n (some o)
  | .two n x o => if nm < (h.set n (some x)).length then (h.set n (some x)).set nm (some o) else h.set n (some x) ++ [some o]
@[reducible] def stepSt (st : St) (nm : Nat) (dst : Option Tmp) (v : AV) (f : Eff) : St := ⟨putT st.t dst v, effH st.h nm f, st.d⟩
section walk
variable {α : Type}
abbrev Inl (α : Type) := Oper → (Operand → Option AV) → Heap → (AV → Heap → α) → α
/-- A temporary whose truth a branch tells. -/
def refT (st : St) (d : Nat) (b : Bool) : St := ⟨st.t.set d (some (.bool b)), st.h, st.d⟩
theorem refT_eq {st : St} {d : Nat} {b : Bool} (h : st.t[d]? = some (some (.bool b))) : refT st d b = st := by
  unfold refT
  have : st.t.set d (some (.bool b)) = st.t := by
    apply List.ext_getElem?
    intro i
    rw [List.getElem?_set]
    split
    · rename_i e; subst e
      split
      · exact h.symm
      · rename_i hl; rw [List.getElem?_eq_none (by omega)] 
    · rfl
  rw [this]
/-- May what an operation writes be written? -/
def effOk (ok : Nat → Bool) : Eff → Bool
  | .set n _ | .two n _ _ => ok n
  | _ => true
/-- An operation that is carried out; one that is not. -/
noncomputable def runO (A : Alg α) (P : Program) (T : Tab) (ok : Nat → Nat → Bool) (lk : Lk) (ops : Array Oper) (rd : Nat → Heap → Nat → Option Ob) (nm : Nat → Heap → Nat) (inl : Inl α) (i : Nat) (o : Oper) (K : St → α) (st : St) : α :=
  match opw P T (rd i st.h) (nm i st.h) (evOf (lk o st)) o with
  | some (p, v, f) => cond (effOk (ok i) f) (A.br p (fx A o v fun v => fy A o f fun f => fst (stepSt st (nm i st.h) o.dst v f) K) A.no) A.no
  | none => inl o (evOf (lk o st)) st.h (fun v h' => fv A v fun v => fst ⟨putT st.t o.dst v, h', st.d⟩ K)
noncomputable def skipO (o : Oper) (K : St → α) (st : St) : α := fst ⟨putT st.t o.dst .undef, st.h, st.d⟩ K
/-- One operation of a region, by its number; rd, nm by the operation's number. -/
noncomputable def stepA (A : Alg α) (P : Program) (T : Tab) (ok : Nat → Nat → Bool) (lk : Lk) (ops : Array Oper) (rd : Nat → Heap → Nat → Option Ob) (nm : Nat → Heap → Nat) (inl : Inl α) (i : Nat) (K : St → α) (st : St) : α :=
  match getL ops.toList i with
  | none => K st
  | some o =>
    match o.guard with
    | none => runO A P T ok lk ops rd nm inl i o K st
    | some (j, want) =>
      match (ops[j]?).bind (·.dst) with
      | none => A.no
      | some d =>
        match lk o st d with
        | some (.bool b) =>
          A.br b (fst (refT st d true) fun st => if want then runO A P T ok lk ops rd nm inl i o K st else skipO o K st)
            (fst (refT st d false) fun st => if want then skipO o K st else runO A P T ok lk ops rd nm inl i o K st)
        | some .undef => skipO o K st
        | _ => A.no
/-- The same without what a branch tells. -/
noncomputable def stepB (A : Alg α) (P : Program) (T : Tab) (ok : Nat → Nat → Bool) (lk : Lk) (ops : Array Oper) (rd : Nat → Heap → Nat → Option Ob) (nm : Nat → Heap → Nat) (inl : Inl α) (i : Nat) (K : St → α) (st : St) : α :=
  match getL ops.toList i with
  | none => K st
  | some o =>
    match wantedA ops (lk o st) o with
    | none => A.no
    | some b =>
      A.br b
        (match opw P T (rd i st.h) (nm i st.h) (evOf (lk o st)) o with
         | some (p, v, f) => cond (effOk (ok i) f) (A.br p (fx A o v fun v => fy A o f fun f => fst (stepSt st (nm i st.h) o.dst v f) K) A.no) A.no
         | none => inl o (evOf (lk o st)) st.h (fun v h' => fv A v fun v => fst ⟨putT st.t o.dst v, h', st.d⟩ K))
        (fst ⟨putT st.t o.dst .undef, st.h, st.d⟩ K)
theorem tmOf_some {st : St} {ts : List Nat} {d : Nat} {v : AV} (h : tmOf st ts d = some v) : st.t[d]? = some (some v) := by
  simp only [tmOf] at h
  split at h
  · exact tmAll_some h
  · cases h
theorem lkAll_ok : LkOk lkAll := fun _ _ _ _ h => tmAll_some h
theorem lkOf_ok (ops : Array Oper) : LkOk (lkOf ops) := fun _ _ _ _ h => tmOf_some h
theorem stepA_eq (A : Alg α) (P : Program) (T : Tab) (ok : Nat → Nat → Bool) {lk : Lk} (hlk : LkOk lk) (ops : Array Oper) (rd : Nat → Heap → Nat → Option Ob) (nm : Nat → Heap → Nat) (inl : Inl α) (i : Nat) (K : St → α) (st : St) :
    stepA A P T ok lk ops rd nm inl i K st = stepB A P T ok lk ops rd nm inl i K st := by
  unfold stepA stepB
  split
  · rfl
  · rename_i o ho
    unfold wantedA
    cases hg : o.guard with
    | none => simp only [A.br_t]; rfl
    | some p =>
      obtain ⟨j, want⟩ := p
      simp only
      cases hd : (ops[j]?).bind (·.dst) with
      | none => rfl
      | some d =>
        simp only
        cases ht : lk o st d with
        | none => rfl
        | some v =>
          cases v <;> try rfl
          · simp only [A.br_f]; rfl
          · rename_i b
            have hb := refT_eq (hlk _ _ _ _ ht)
            cases b <;> cases want <;> simp only [A.br_t, A.br_f, fst_eq, hb, if_true, Bool.false_eq_true, if_false, Bool.not_true, Bool.not_false, runO, skipO]
noncomputable def opsA (A : Alg α) (P : Program) (T : Tab) (ok : Nat → Nat → Bool) (lk : Lk) (ops : Array Oper) (rd : Nat → Heap → Nat → Option Ob) (nm : Nat → Heap → Nat) (inl : Inl α) : List Nat → St → (St → α) → α
  | [], st, K => K st
  | i :: r, st, K => stepA A P T ok lk ops rd nm inl i (fun st' => opsA A P T ok lk ops rd nm inl r st' K) st
/-- The operations that must have come before an operation: a set of numbers, as bits. -/
def befores (ops : List Oper) : List Nat :=
  ops.foldl (fun acc o => acc ++ [o.after.toList.foldl (fun s e => if Region.binds .any e then s ||| 2 ^ e.on ||| acc.getD e.on 0 else s) 0]) []
noncomputable def rdFlat (h : Heap) (n : Nat) : Option Ob := (getL h n).join
/-- own: which operation writes which object that was there before. No operation that might come on either side of it may look at that object. -/
def okOld (bf : List Nat) (own : List (Nat × Nat)) (i n : Nat) : Bool := own.all fun (j, m) => m != n || j == i || (bf.getD i 0).testBit j || (bf.getD j 0).testBit i
def rdDrawn (base : Nat) (bf : List Nat) (own : List (Nat × Nat)) (i : Nat) (h : Heap) (n : Nat) : Option Ob :=
  if cond (n < base) (okOld bf own i n) ((bf.getD i 0).testBit (n - base)) then (h[n]?).join else none
/-- The operations that make an object: a set of numbers, as bits. -/
def isAlloc : Op → Bool
  | .alloc _ | .box _ _ | .buildSlice _ _ _ | .makeSlice _ _ _ | .makeMap _ _ => true
  | .call c => match c.callee with
    | .builtin .append => true
    | _ => false
  | _ => false
def isStore : Op → Bool
  | .store _ _ _ => true
  | o => heavy o
def allocs (ops : List Oper) : Nat := (upTo 0 ops.length).foldl (fun s i => match ops[i]? with
  | some o => if isAlloc o.op then s ||| 2 ^ i else s
  | none => s) 0
/-- In a region that draws its order an operation writes objects that the region made, and those that are its own. -/
def okDrawn (base mask : Nat) (own : List (Nat × Nat)) (i n : Nat) : Bool := cond (n < base) (own.any fun (j, m) => j == i && m == n) (mask.testBit (n - base))
/-- Which object a pointer reaches, told at the region's head: through the region's own moves and places. -/
noncomputable def headName (t : List (Option AV)) (ops : List Oper) : Nat → Nat → Option Nat
  | 0, _ => none
  | k + 1, d =>
    match ops.find? fun o => match o.dst with
      | some e => Nat.beq e d
      | none => false with
    | some o =>
      match o.op with
      | .indexAddr _ (.tmp s) _ | .fieldAddr _ (.tmp s) _ | .move (.tmp s) => headName t ops k s
      | _ => none
    | none =>
      match getL t d with
      | some (some (.ptr n _ _ _)) | some (some (.gs n _ _)) | some (some (.gp n _ _ _)) | some (some (.sl n _ _ _)) => some n
      | _ => none
def ownAll (f : Ob → Bool) (i : Nat) : Nat → Heap → List (Nat × Nat) → List (Nat × Nat)
  | _, [], r => r
  | n, none :: h, r => ownAll f i (n + 1) h r
  | n, some o :: h, r => match f o with
    | true => (i, n) :: ownAll f i (n + 1) h r
    | false => ownAll f i (n + 1) h r
def isMapo : Ob → Bool
  | .mapo _ _ => true
  | _ => false
def isOwn : Ob → Bool
  | .own _ _ _ _ => true
  | _ => false
noncomputable def ownAt (t : List (Option AV)) (h : Heap) (ops : List Oper) (i : Nat) (o : Oper) (r : List (Nat × Nat)) : List (Nat × Nat) :=
  match o.op with
  | .store _ (.tmp d) _ => match headName t ops 6 d with
    | some n => (i, n) :: r
    | none => r
  | .mapUpdate _ _ _ _ | .insert _ _ _ _ => ownAll isMapo i 0 h r
  | .call c => match c.callee with
    | .builtin .append => ownAll isOwn i 0 h r
    | _ => r
  | _ => r
noncomputable def ownOf (t : List (Option AV)) (h : Heap) (ops : List Oper) : Nat → List Oper → List (Nat × Nat)
  | _, [] => []
  | i, o :: r => ownAt t h ops i o (ownOf t h ops (i + 1) r)
/-- May a region's operations come in any order that its edges allow? -/
def drawnOk (ops : List Oper) (bf : List Nat) (mask : Nat) : Bool :=
  (upTo 0 ops.length).all fun i =>
    match ops[i]? with
    | none => false
    | some y =>
      (y.after.toList.all fun e => !Region.binds .any e || decide (e.on < i)) &&
      (upTo 0 i).all fun j =>
        match ops[j]? with
        | none => false
        | some x =>
          !(bf.getD j 0).testBit i &&
          (if (bf.getD i 0).testBit j then y.after.toList.any fun e => Region.binds .any e && (e.on == j || (bf.getD e.on 0).testBit j)
           else x.apart ops.toArray y && (!(isStore x.op || isStore y.op) || bf.getD i 0 &&& bf.getD j 0 &&& mask == 0))
def noInl (A : Alg α) : Inl α := fun _ _ _ _ => A.no
/-- A call that comes behind all that stands ahead of it, and ahead of all that stands behind it, in whatever order. -/
def cutAt (ops : Array Oper) (bf : List Nat) (i : Nat) : Bool :=
  match ops[i]? with
  | some o => isCall o.op && (upTo 0 ops.size).all fun j => j == i || (if j < i then (bf.getD i 0).testBit j else (bf.getD j 0).testBit i)
  | none => false
/-- A region that draws its order: between calls that stand where they stand. -/
noncomputable def segA (A : Alg α) (P : Program) (T : Tab) (inl : Inl α) (ops : Array Oper) (bf : List Nat) (mask : Nat) : Nat → List Nat → St → (St → α) → α
  | 0, _, _, _ => A.no
  | f + 1, todo, st, K =>
    opsA A P T (okDrawn st.h.length mask (ownOf st.t st.h ops.toList 0 ops.toList)) (lkOf ops) ops (rdDrawn st.h.length bf (ownOf st.t st.h ops.toList 0 ops.toList)) (fun i _ => st.h.length + i) (noInl A) (todo.takeWhile fun i => !cutAt ops bf i) ⟨st.t, st.h ++ List.replicate ops.size none, st.d⟩ fun st1 =>
      match todo.dropWhile fun i => !cutAt ops bf i with
      | [] => K st1
      | c :: r => stepA A P T (fun _ _ => true) lkAll ops (fun _ => rdFlat) (fun _ h => h.length) inl c (fun st2 => segA A P T inl ops bf mask f r st2 K) st1
noncomputable def regionA (A : Alg α) (P : Program) (T : Tab) (inl : Inl α) (ops : Array Oper) (draw : Bool) (st : St) (K : St → α) : α :=
  if draw then
    if drawnOk ops.toList (befores ops.toList) (allocs ops.toList) then segA A P T inl ops (befores ops.toList) (allocs ops.toList) (ops.size + 1) (upTo 0 ops.size) st K
    else A.no
  else opsA A P T (fun _ _ => true) lkAll ops (fun _ => rdFlat) (fun _ h => h.length) inl (upTo 0 ops.size) st K
def refC (st : St) (c : Operand) (b : Bool) : St := match c with
  | .tmp d => refT st d b
  | _ => st
omit α in
theorem refC_eq {st : St} {c : Operand} {b : Bool} (h : evOf (tmAll st) c = some (.bool b)) : refC st c b = st := by
  cases c with
  | tmp d =>
    exact refT_eq (tmAll_some h)
  | _ => rfl
/-- The number of the first region in a piece of code: a loop's name. -/
def Code.first : Code → Nat
  | .region id _ _ => id + 1
  | .seq a b => if Code.first a = 0 then Code.first b else Code.first a
  | .cond _ a b => if Code.first a = 0 then Code.first b else Code.first a
  | .block _ b => Code.first b
  | .loop b => Code.first b
  | _ => 0
/-- Contracts of loops, by their names (0: none). -/
abbrev LTab (α : Type) := Nat → Option (St → (Ex → St → α) → α)
def noLoops {α : Type} : LTab α := fun _ => none
/-- A piece of code's loops, but for those within one another. -/
def Code.loops : Code → List Code
  | .seq a b => Code.loops a ++ Code.loops b
  | .cond _ a b => Code.loops a ++ Code.loops b
  | .block _ b => Code.loops b
  | .loop b => [b]
  | _ => []
/-- What a range over a function comes to. -/
abbrev Rf (α : Type) := Operand → Array Tmp → Code → Code → St → (Ex → St → α) → α
def noRf (A : Alg α) : Rf α := fun _ _ _ _ _ _ => A.no
/-- Code, with what a loop and an inlined call come to. -/
noncomputable def codeA (A : Alg α) (P : Program) (T : Tab) (LT : LTab α) (lp : Code → St → (Ex → St → α) → α) (inl : Inl α) (rf : Rf α) : Code → St → (Ex → St → α) → α
  | .skip, st, Q => Q .normal st
  | .label _, st, Q => Q .normal st
  | .seq a b, st, Q => codeA A P T LT lp inl rf a st fun e st' => match e with
    | .normal => codeA A P T LT lp inl rf b st' Q
    | e => Q e st'
  | .cond c a b, st, Q =>
    match evOf (tmAll st) c with
    | some (.bool x) => A.br x (fst (refC st c true) fun st => codeA A P T LT lp inl rf a st Q) (fst (refC st c false) fun st => codeA A P T LT lp inl rf b st Q)
    | _ => A.no
  | .block id b, st, Q => codeA A P T LT lp inl rf b st fun e st' => match e with
    | .exit i => if i = id then Q .normal st' else Q (.exit i) st'
    | e => Q e st'
  | .loop b, st, Q =>
    match LT (Code.first b) with
    | some lc => lc st Q
    | none => lp b st Q
  | .exit id, st, Q => Q (.exit id) st
  | .ret, st, Q => Q .ret st
  | .region _ ops draw, st, Q => regionA A P T inl ops draw st fun st' => Q .normal st'
  | .rangeFunc f ps a b, st, Q => rf f ps a b st Q
  | _, _, _ => A.no
end walk
/-- A function's results. -/
noncomputable def resA (P : Program) (st : St) : List ResultVar → Option (List AV)
  | [] => some []
  | .tmp t :: r =>
    match tmAll st t, resA P st r with
    | some v, some vs => some (v :: vs)
    | _, _ => none
  | .cell a t :: r =>
    match tmAll st a, resA P st r with
    | some (.ptr m i s j), some vs =>
      match loadA P (rdFlat st.h) t (.ptr m i s j) with
      | some (true, v) => some (v :: vs)
      | _ => none
    | _, _ => none
def resV : List AV → AV
  | [v] => v
  | l => .tup l
def entryT (fn : Func) (args : List AV) : List (Option AV) := args.map some ++ List.replicate (fn.ntmps - args.length) none
section walk
variable {α : Type}
/-- At a function's end the blocks for deferred calls are shut. -/
noncomputable def shut : List Nat → Heap → Option Heap
  | [], h => some h
  | n :: r, h =>
    match rdFlat h n with
    | some .dfr => shut r (h.set n (some .dead))
    | _ => none
/-- What a function's body must come to. -/
noncomputable def bodyA (A : Alg α) (P : Program) (T : Tab) (LT : LTab α) (lp : Code → St → (Ex → St → α) → α) (inl : Inl α) (rf : Rf α) (fn : Func) (args : List AV) (h : Heap) (K : AV → Heap → α) : α :=
  match fn.body with
  | some c => fl A args fun args => fst ⟨entryT fn args, h, []⟩ fun st => codeA A P T LT lp inl rf c st fun e st => match e with
    | .normal | .ret =>
      match shut st.d st.h with
      | some h2 =>
        match resA P ⟨st.t, h2, []⟩ fn.results.toList with
        | some l => fl A l fun l => K (resV l) h2
        | none => A.no
      | none => A.no
    | _ => A.no
  | none => A.no
def setPs : List (Option AV) → List Nat → List AV → List (Option AV)
  | t, p :: ps, v :: vs => setPs (t.set p (some v)) ps vs
  | t, _, _ => t
/-- Which loop's round an operation asks for, and with what. -/
def yieldOf (o : Oper) (e : Operand → Option AV) : Option (Nat × List AV) :=
  match o.op with
  | .call c =>
    match c.callee with
    | .value f =>
      match e f, evAll e c.args.toList with
      | some (.yl n), some args => some (n, args)
      | _, _ => none
    | _ => none
  | _ => none
/-- A round: cd reckons code. -/
noncomputable def roundA (A : Alg α) (cd : Code → St → (Ex → St → α) → α) (n : Nat) (args : List AV) (h : Heap) (K : AV → Heap → α) : α :=
  match rdFlat h n with
  | some (.loop .ready _ t ps assign body) =>
    if args.length = ps.length then
      fst ⟨setPs t ps args, h, []⟩ fun st => cd assign st fun e1 st1 => match e1 with
      | .normal =>
        match rdFlat st1.h n with
        | some (.loop .ready p1 t1 ps1 as1 b1) =>
          cd body ⟨st1.t, st1.h.set n (some (.loop .busy p1 t1 ps1 as1 b1)), st1.d⟩ fun e2 st2 =>
            match rdFlat st2.h n with
            | some (.loop _ _ t2 ps2 as2 b2) =>
              match e2 with
              | .normal => K (.bool true) (st2.h.set n (some (.loop .ready none t2 ps2 as2 b2)))
              | .ret => K (.bool false) (st2.h.set n (some (.loop .done (some .ret) t2 ps2 as2 b2)))
              | .exit id => K (.bool false) (st2.h.set n (some (.loop .done (some (.exit id)) t2 ps2 as2 b2)))
            | _ => A.no
        | _ => A.no
      | _ => A.no
    else A.no
  | _ => A.no
/-- A range over a function: call reckons a function's call. -/
noncomputable def rangeA (A : Alg α) (call : FuncId → List AV → Heap → (AV → Heap → α) → α) : Rf α := fun f ps assign body st Q =>
  match evOf (tmAll st) f with
  | some (.fn (.func g) first cap) =>
    call g (first ++ [.yl (st.h.length + 1)] ++ cap) (st.h ++ [some .dfr, some (.loop .ready none st.t ps.toList assign body)]) fun _ h2 =>
      match rdFlat h2 (st.h.length + 1) with
      | some (.loop s pend _ _ _ _) =>
        if s = .busy then A.no
        else match pend with
        | none => fst ⟨st.t, h2.set (st.h.length + 1) (some .dead), st.h.length :: st.d⟩ fun st => Q .normal st
        | some .ret => fst ⟨st.t, h2.set (st.h.length + 1) (some .dead), st.h.length :: st.d⟩ fun st => Q .ret st
        | some (.exit id) => fst ⟨st.t, h2.set (st.h.length + 1) (some .dead), st.h.length :: st.d⟩ fun st => Q (.exit id) st
        | _ => A.no
      | _ => A.no
  | _ => A.no
mutual
/-- A loop, with so many rounds and calls within each other. -/
noncomputable def alp (A : Alg α) (P : Program) (T : Tab) (rf : Rf α) : Nat → Code → St → (Ex → St → α) → α
  | 0 => fun _ _ _ => A.no
  | n + 1 => fun b st Q => codeA A P T noLoops (alp A P T rf n) (ainl A P T n) rf b st fun e st' => match e with
    | .normal => alp A P T rf n b st' Q
    | e => Q e st'
/-- A call walked in its place; a round. -/
noncomputable def ainl (A : Alg α) (P : Program) (T : Tab) : Nat → Inl α
  | 0 => fun _ _ _ _ => A.no
  | n + 1 => fun o e h K =>
    match xop P o e (rdFlat h) h.length with
    | some (p, v, s, a) => A.br p (fso A s fun s => fao A a fun a => K v (xheap h s a)) A.no
    | none =>
      match callOf P o e with
      | some (g, args) => acall A P T n g args h K
      | none =>
        match yieldOf o e with
        | some (nl, args) => roundA A (codeA A P T noLoops (alp A P T (noRf A) n) (ainl A P T n) (noRf A)) nl args h K
        | none => A.no
/-- A function's call. -/
noncomputable def acall (A : Alg α) (P : Program) (T : Tab) : Nat → FuncId → List AV → Heap → (AV → Heap → α) → α
  | 0 => fun _ _ _ _ => A.no
  | n + 1 => fun g args h K =>
    match P.funcs[g]? with
    | some fn => if fn.name == "runtime.NumGoroutine" then A.no else bodyA A P T noLoops (alp A P T (rangeA A (acall A P T n)) n) (ainl A P T n) (rangeA A (acall A P T n)) fn args h K
    | none => A.no
end
/-- A function, called with values by content. -/
noncomputable def afn (A : Alg α) (P : Program) (T : Tab) (LT : LTab α) (n : Nat) (f : FuncId) (args : List AV) (K : AV → Heap → α) : α :=
  match P.funcs[f]? with
  | some fn => bodyA A P T LT (alp A P T (rangeA A (acall A P T n)) n) (ainl A P T n) (rangeA A (acall A P T n)) fn args [] K
  | none => A.no
end walk
/-- A result whose slices are told by what they hold. -/
noncomputable def toNu (h : Heap) : Nat → AV → AV
  | _, .gs n s len => match rdFlat h n with
    | some (.own true e s' l) => if s = s' ∧ l.length = len * s then .nu e s len l else .gs n s len
    | _ => .gs n s len
  | _, .nu .. => .ptr 0 0 0 0
  | n + 1, .agg l => .agg (l.map (toNu h n))
  | n + 1, .tup l => .tup (l.map (toNu h n))
  | _, v => v
/-- A function, reckoned out. -/
noncomputable def runC (P : Program) (rounds : Nat) (T : Tab) (f : FuncId) : Con := fun args =>
  if (P.funcs[f]?).any (fun fn => !(fn.name == "runtime.NumGoroutine")) then
    match afn (OA AV) P T noLoops rounds f args fun v h => fv (OA AV) (toNu h 4 v) some with
    | some v => if v.okN 4 && decide ((v.nus 4).length ≤ 1) then some (true, v) else none
    | none => none
  else none
end Go.Proofs.Ytlpnbbonbclddaa.A
