/- The abstract machine: an evaluator of the model's code over values whose memory is told by content or by name; what it reckons is shown of the model's runs in the texts behind this one. -/
import Derived.Below
import Derived.WalkKit
import Derived.Laws.StructEq
import Derived.Laws.Strings
import Derived.Laws.Cells
import Derived.Deep.MidRow
import Derived.ChangeKeysEq
namespace Go.Proofs.Ytkongoedgngfhaa.A
open Go Go.RowKit
set_option linter.unusedVariables false
set_option linter.unusedSimpArgs false
/-- An abstract value: pointers and slices are told by name (of the activation's own objects) or by content (old memory). -/
inductive AV where
  | undef
  | bool (b : Bool)
  | int (k : IntKind) (n : Int)
  | str (s : ByteArray)
  | nilp | nilsl | nilmap | nilf | nili
  | ptr (n i s j : Nat)
  | cp (l : List AV) (j : Nat)
  | sl (n i s len : Nat)
  | csl (s len : Nat) (c : Nat → Nat → AV)
  | fn (f : Fn) (first cap : List AV)
  | ifc (t : TypeId) (v : AV)
  | agg (l : List AV)
  | tup (l : List AV)
  deriving Inhabited
inductive Ob where
  | cells (l : List AV)
  | row (s len : Nat) (c : Nat → Nat → AV)
  deriving Inhabited
abbrev Heap := List (Option Ob)
structure St where
  t : List (Option AV)
  h : Heap
inductive Ex where
  | normal | exit (id : Nat) | ret
/-- A contract: on arguments by content, a condition and the result. -/
abbrev Con := List AV → Option (Bool × AV)
abbrev Tab := FuncId → Option Con
def AV.cells : AV → List AV
  | .agg l => l
  | v => [v]
def AV.one : AV → Bool
  | .agg _ | .tup _ => false
  | .undef => false
  | _ => true
def ofV : Nat → Value → Option AV
  | _, .bool b => some (.bool b)
  | _, .int k n => some (.int k n)
  | _, .string s => some (.str s)
  | _, .pointer none => some .nilp
  | _, .slice none 0 0 => some .nilsl
  | _, .map none => some .nilmap
  | _, .nilFunc => some .nilf
  | _, .nilIface => some .nili
  | n + 1, .iface t v => (ofV n v).map (.ifc t)
  | n + 1, .agg cs => (cs.toList.mapM (ofV n)).map .agg
  | _, _ => none
/-- A number's range, as a list that the kernel reckons at once. -/
def upTo : Nat → Nat → List Nat
  | _, 0 => []
  | a, n + 1 => a :: upTo (a + 1) n
def isAggT (P : Program) (t : TypeId) : Option Bool :=
  match P.underlying t with
  | some (.struct _) | some (.array _ _) => some true
  | some _ => some false
  | none => none
def sizeT (P : Program) (t : TypeId) : Option Nat := (P.info? t).map (·.size)
def zeroT (P : Program) (t : TypeId) : Option AV :=
  match P.info? t with
  | some i => match i.zero with
    | some v => ofV 3 v
    | none => none
  | none => none
/-- What an operation does to the heap. -/
inductive Eff where
  | no
  | alloc (o : Ob)
  | set (n : Nat) (o : Ob)
/-- What an operation gives: a condition, a value, what becomes of the heap. -/
abbrev Out := Option (Bool × AV × Eff)
@[reducible] def give (v : AV) : Out := some (true, v, .no)
def aite (c : Bool) : AV → AV → AV
  | .int k x, .int k' y => if k = k' then .int k (if c then x else y) else (if c then .int k x else .int k' y)
  | .bool x, .bool y => .bool (if c then x else y)
  | .str x, .str y => .str (if c then x else y)
  | a, b => if c then a else b
def intBin (op : BinOp) (k : IntKind) (x y : Int) : Option (Bool × AV) :=
  match op with
  | .add => some (true, .int k (k.wrap (x + y)))
  | .sub => some (true, .int k (k.wrap (x - y)))
  | .mul => some (true, .int k (k.wrap (x * y)))
  | .quo => some (decide (y ≠ 0), .int k (k.wrap (x.tdiv y)))
  | .rem => some (decide (y ≠ 0), .int k (x.tmod y))
  | .and => some (true, .int k (k.wrap (BitVec.ofInt k.bits x &&& BitVec.ofInt k.bits y).toNat))
  | .or => some (true, .int k (k.wrap (BitVec.ofInt k.bits x ||| BitVec.ofInt k.bits y).toNat))
  | .xor => some (true, .int k (k.wrap (BitVec.ofInt k.bits x ^^^ BitVec.ofInt k.bits y).toNat))
  | .eql => some (true, .bool (x == y))
  | .neq => some (true, .bool (x != y))
  | .lss => some (true, .bool (decide (x < y)))
  | .leq => some (true, .bool (decide (x ≤ y)))
  | .gtr => some (true, .bool (decide (x > y)))
  | .geq => some (true, .bool (decide (x ≥ y)))
  | _ => none
def intShift (op : BinOp) (k : IntKind) (x y : Int) : Option (Bool × AV) :=
  match op with
  | .shl => some (decide (0 ≤ y), .int k (k.wrap (x * 2 ^ (min y.toNat k.bits))))
  | .shr => some (decide (0 ≤ y), .int k (x.fdiv (2 ^ (min y.toNat k.bits))))
  | _ => none
def strBin (op : BinOp) (x y : ByteArray) : Option (Bool × AV) :=
  match op with
  | .add => some (decide (((x.size + y.size : Nat) : Int) ≤ IntKind.i64.max), .str (x ++ y))
  | .eql => some (true, .bool (x.toList == y.toList))
  | .neq => some (true, .bool !(x.toList == y.toList))
  | .lss => some (true, .bool (Op.bytesLess x.toList y.toList))
  | _ => none
def partA (P : Program) (t : TypeId) (l : List AV) (off : Nat) : Option AV :=
  match isAggT P t, sizeT P t with
  | some true, some n => if off + n ≤ l.length then some (.agg ((l.take (off + n)).drop off)) else none
  | some false, some _ => l[off]?
  | _, _ => none
/-- The same of an array's elements. -/
def eqEs (f : TypeId → AV → AV → Option Bool) (P : Program) (e : TypeId) (c : Nat) (xs ys : List AV) : List Nat → Option Bool
  | [] => some true
  | i :: is =>
    match partA P e xs (i * c), partA P e ys (i * c) with
    | some x, some y =>
      match f e x y, eqEs f P e c xs ys is with
      | some b, some r => some (b && r)
      | _, _ => none
    | _, _ => none
/-- Equality of values of a type: whole numbers, bools, strings, structs of them. -/
def eqFs (f : TypeId → AV → AV → Option Bool) (P : Program) (xs ys : List AV) : List Field → Option Bool
  | [] => some true
  | fd :: fs =>
    if fd.name ≠ "_" then
      match isAggT P fd.type, sizeT P fd.type with
      | some true, some n =>
        match f fd.type (.agg ((xs.take (fd.offset + n)).drop fd.offset)) (.agg ((ys.take (fd.offset + n)).drop fd.offset)), eqFs f P xs ys fs with
        | some b, some r => some (b && r)
        | _, _ => none
      | some false, some _ =>
        match xs[fd.offset]?, ys[fd.offset]? with
        | some x, some y =>
          match f fd.type x y, eqFs f P xs ys fs with
          | some b, some r => some (b && r)
          | _, _ => none
        | _, _ => none
      | _, _ => none
    else eqFs f P xs ys fs
def eqT (P : Program) : Nat → TypeId → AV → AV → Option Bool
  | 0, _, _, _ => none
  | d + 1, t, x, y =>
    match P.underlying t, x, y with
    | some .bool, .bool a, .bool b => some (a == b)
    | some (.int _), .int k a, .int k' b => if k = k' then some (a == b) else none
    | some .string, .str a, .str b => some (a.toList == b.toList)
    | some (.struct fs), .agg xs, .agg ys => if P.stoodInHeld t then none else eqFs (eqT P d) P xs ys fs.toList
    | some (.array n e), .agg xs, .agg ys => match sizeT P e with
      | some c => eqEs (eqT P d) P e c xs ys (List.range n)
      | none => none
    | _, _, _ => none
def binA (P : Program) (op : BinOp) (t : TypeId) (x y : AV) : Option (Bool × AV) :=
  match x, y with
  | .int k a, .int k' b =>
    match op with
    | .shl | .shr => intShift op k a b
    | _ => if k = k' then intBin op k a b else none
  | .str a, .str b => strBin op a b
  | .bool a, .bool b =>
    match op with
    | .eql => (eqT P 1 t x y).map fun r => (true, .bool r)
    | .neq => (eqT P 1 t x y).map fun r => (true, .bool !r)
    | _ => none
  | .agg _, .agg _ =>
    if P.eqGuardType P.depth t then none else
    match op with
    | .eql => (eqT P 4 t x y).map fun r => (true, .bool r)
    | .neq => (eqT P 4 t x y).map fun r => (true, .bool !r)
    | _ => none
  | _, _ => none
def unA (op : UnOp) (x : AV) : Option AV :=
  match op, x with
  | .neg, .int k n => some (.int k (k.wrap (0 - n)))
  | .not, .bool b => some (.bool !b)
  | .xor, .int k n => some (.int k (k.wrap (BitVec.ofInt k.bits (if k.signed then -1 else k.max) ^^^ BitVec.ofInt k.bits n).toNat))
  | _, _ => none
def convA (P : Program) (src dst : TypeId) (x : AV) : Option AV :=
  match P.underlying src, P.underlying dst, x with
  | some (.int _), some (.int k), .int _ n => some (.int k (k.wrap n))
  | some .string, some .string, .str s => some (.str s)
  | _, _, _ => none
/-- Cells j .. j + n of an object, if they are there. -/
def cellsAt (l : List AV) (j n : Nat) : Option (List AV) := if j + n ≤ l.length then some ((l.drop j).take n) else none
def loadA (P : Program) (rd : Nat → Option Ob) (t : TypeId) (a : AV) : Option (Bool × AV) :=
  match isAggT P t, sizeT P t with
  | some ag, some n =>
    match a with
    | .ptr m i s j =>
      match rd m with
      | some (.cells l) => if ag then (cellsAt l (i * s + j) n).map fun c => (true, .agg c) else (l[i * s + j]?).map fun c => (true, c)
      | some (.row s' len c) =>
        if s = s' then
          if ag then (if j + n ≤ s then some (decide (i < len), .agg ((upTo j n).map (c i))) else none)
          else (if j < s then some (decide (i < len), c i j) else none)
        else none
      | none => none
    | .cp l j => if ag then (cellsAt l j n).map fun c => (true, .agg c) else (l[j]?).map fun c => (true, c)
    | _ => none
  | _, _ => none
def setAt : List AV → Nat → List AV → List AV
  | l, _, [] => l
  | l, j, v :: vs => setAt (l.set j v) (j + 1) vs
def storeA (P : Program) (rd : Nat → Option Ob) (t : TypeId) (a v : AV) : Option (Nat × Ob) :=
  match sizeT P t, a with
  | some n, .ptr m i s j =>
    match rd m with
    | some (.cells l) => if v.cells.length = n ∧ i * s + j + n ≤ l.length ∧ v.cells.all AV.one = true then some (m, .cells (setAt l (i * s + j) v.cells)) else none
    | _ => none
  | _, _ => none
def fieldOf (P : Program) (t : TypeId) (f : Nat) : Option Field :=
  match P.underlying t with
  | some (.struct fs) => fs[f]?
  | _ => none
def fillA (place : Nat → Option (Nat × Nat)) (cells : List AV) : List (Nat × AV) → Option (List AV)
  | [] => some cells
  | (i, v) :: rest =>
    match place i with
    | none => none
    | some (off, size) => if v.cells.length = size ∧ off + v.cells.length ≤ cells.length then fillA place (setAt cells off v.cells) rest else none
def placesOf (P : Program) : List Field → Option (List (Nat × Nat))
  | [] => some []
  | f :: fs =>
    match sizeT P f.type, placesOf P fs with
    | some n, some r => some ((f.offset, n) :: r)
    | _, _ => none
def buildA (P : Program) (t : TypeId) (parts : List (Nat × AV)) : Option AV :=
  match zeroT P t, P.underlying t with
  | some z, some (.struct fs) =>
    match placesOf P fs.toList with
    | some pl => (fillA (fun i => pl[i]?) z.cells parts).map .agg
    | none => none
  | some z, some (.array _ e) =>
    match sizeT P e with
    | some n => (fillA (fun i => some (i * n, n)) z.cells parts).map .agg
    | none => none
  | _, _ => none
def evParts (e : Operand → Option AV) : List (Nat × Operand) → Option (List (Nat × AV))
  | [] => some []
  | (i, x) :: r =>
    match e x, evParts e r with
    | some v, some vs => some ((i, v) :: vs)
    | _, _ => none
def evAll (e : Operand → Option AV) : List Operand → Option (List AV)
  | [] => some []
  | x :: r =>
    match e x, evAll e r with
    | some v, some vs => some (v :: vs)
    | _, _ => none
def fieldAddrA (P : Program) (t : TypeId) (x : AV) (f : Nat) : Option AV :=
  match fieldOf P t f with
  | some fd =>
    match sizeT P fd.type with
    | some 0 => none
    | some _ =>
      match x with
      | .ptr n i s j => some (.ptr n i s (j + fd.offset))
      | .cp l j => some (.cp l (j + fd.offset))
      | _ => none
    | none => none
  | none => none
def indexAddrA (P : Program) (t : TypeId) (x ix : AV) : Option (Bool × AV) :=
  match P.underlying t, x, ix with
  | some (.array len e), .ptr n 0 0 j, .int _ k =>
    match sizeT P e with
    | some s => some (decide (0 ≤ k) && decide (k < len), .ptr n k.toNat s j)
    | none => none
  | some (.slice e), .sl n i s len, .int _ k =>
    match sizeT P e with
    | some s' => if s = s' then some (decide (0 ≤ k) && decide (k < len), .ptr n (i + k.toNat) s 0) else none
    | none => none
  | some (.slice e), .csl s len c, .int _ k =>
    match sizeT P e with
    | some s' => if s = s' then some (decide (0 ≤ k) && decide (k < len), .cp ((upTo 0 s).map (c k.toNat)) 0) else none
    | none => none
  | _, _, _ => none
def indexA (P : Program) (t : TypeId) (x ix : AV) : Option (Bool × AV) :=
  match P.underlying t, x, ix with
  | some (.array len e), .agg l, .int _ k =>
    match sizeT P e with
    | some s =>
      match partA P e l (k.toNat * s) with
      | some v => some (decide (0 ≤ k) && decide (k < len), v)
      | none => none
    | none => none
  | some .string, .str s, .int _ k => some (decide (0 ≤ k) && decide (k < s.size), .int .u8 ((s.data.getD k.toNat 0).toNat))
  | _, _, _ => none
def boundA (x : Option AV) (d : Int) : Option Int :=
  match x with
  | none => some d
  | some (.int _ k) => some k
  | _ => none
def evOpt (e : Operand → Option AV) : Option Operand → Option (Option AV)
  | none => some none
  | some x => (e x).map some
def sliceA (P : Program) (t : TypeId) (x : AV) (lo hi : Option AV) : Option (Bool × AV) :=
  match P.underlying t, x with
  | some .string, .str s =>
    match boundA lo 0, boundA hi s.size with
    | some l, some h => some (decide (0 ≤ l) && decide (l ≤ h) && decide (h ≤ s.size), .str (s.extract l.toNat h.toNat))
    | _, _ => none
  | some (.slice e), .csl s len c =>
    match boundA lo 0, boundA hi len, sizeT P e with
    | some l, some h, some s' => if s = s' then some (decide (0 ≤ l) && decide (l ≤ h) && decide (h ≤ len), .csl s (h.toNat - l.toNat) (fun i j => c (l.toNat + i) j)) else none
    | _, _, _ => none
  | _, _ => none
def lenA (P : Program) (t : TypeId) (x : AV) : Option AV :=
  match P.underlying t, x with
  | some .string, .str s => some (.int .i64 s.size)
  | some (.array n _), _ => some (.int .i64 n)
  | some (.slice _), .sl _ _ _ n => some (.int .i64 n)
  | some (.slice _), .csl _ n _ => some (.int .i64 n)
  | some (.slice _), .nilsl => some (.int .i64 0)
  | _, _ => none
def max2A : AV → AV → Option AV
  | .int k x, .int _ y => some (.int k (if y > x then y else x))
  | _, _ => none
def min2A : AV → AV → Option AV
  | .int k x, .int _ y => some (.int k (if y < x then y else x))
  | _, _ => none
def foldA (f : AV → AV → Option AV) : AV → List AV → Option AV
  | x, [] => some x
  | x, y :: r => match f x y with
    | some z => foldA f z r
    | none => none
/-- The object that a new variable is, and the pointer to it. -/
def boxOut (nm : Nat) (v : AV) : Out := if v.cells.all AV.one = true then some (true, .ptr nm 0 0 0, .alloc (.cells v.cells)) else none
/-- Values by content alone: what a call is handed. -/
def AV.free : Nat → AV → Bool
  | _, .ptr .. | _, .sl .. => false
  | n + 1, .agg l => l.all (AV.free n)
  | n + 1, .tup l => l.all (AV.free n)
  | n + 1, .fn _ a b => a.all (AV.free n) && b.all (AV.free n)
  | n + 1, .ifc _ v => AV.free n v
  | _, .agg _ | _, .tup _ | _, .fn .. | _, .ifc .. => false
  | _, _ => true
/-- A result that has no memory at all. -/
def AV.flat : Nat → AV → Bool
  | _, .bool _ | _, .int _ _ | _, .str _ | _, .undef | _, .nilp | _, .nilsl | _, .nilmap | _, .nilf | _, .nili => true
  | n + 1, .agg l => l.all (AV.flat n)
  | n + 1, .tup l => l.all (AV.flat n)
  | n + 1, .ifc _ v => AV.flat n v
  | _, _ => false
/-- Named objects to content: slices and pointers of a call's arguments. -/
def frz (rd : Nat → Option Ob) : Nat → AV → Option AV
  | n + 1, .ptr m i s j =>
    match rd m with
    | some (.cells l) => (l.mapM (frz rd n)).map fun l' => .cp l' (i * s + j)
    | _ => none
  | n + 1, .sl m i s len =>
    match rd m with
    | some (.row s' len' c) => if s = s' ∧ i + len ≤ len' then some (.csl s len (fun a b => c (i + a) b)) else none
    | _ => none
  | n + 1, .agg l => (l.mapM (frz rd n)).map .agg
  | n + 1, .fn f a b =>
    match a.mapM (frz rd n), b.mapM (frz rd n) with
    | some a', some b' => some (.fn f a' b')
    | _, _ => none
  | n + 1, .ifc t v => (frz rd n v).map (.ifc t)
  | _, .cp l j => some (.cp l j)
  | _, .csl s l c => some (.csl s l c)
  | _, .bool b => some (.bool b)
  | _, .int k n => some (.int k n)
  | _, .str s => some (.str s)
  | _, .nilp => some .nilp
  | _, .nilsl => some .nilsl
  | _, .nilmap => some .nilmap
  | _, .nilf => some .nilf
  | _, .nili => some .nili
  | _, _ => none
/-- Which function a call calls, and with what. -/
def targetA (e : Operand → Option AV) (c : Call) : Option (FuncId × List AV) :=
  match c.callee with
  | .value f =>
    match e f, evAll e c.args.toList with
    | some (.fn (.func g) first cap), some args => some (g, first ++ args ++ cap)
    | _, _ => none
  | _ => none
def frzAll (rd : Nat → Option Ob) : List AV → Option (List AV)
  | [] => some []
  | x :: r =>
    match frz rd 6 x, frzAll rd r with
    | some v, some vs => some (v :: vs)
    | _, _ => none
def callA (T : Tab) (rd : Nat → Option Ob) (e : Operand → Option AV) (c : Call) : Out :=
  match targetA e c with
  | some (g, args) =>
    match T g with
    | some con =>
      match frzAll rd args with
      | some args' =>
        match con args' with
        | some (p, v) => if v.flat 4 then some (p, v, .no) else none
        | none => none
      | none => none
    | none => none
  | none => none
def builtinA (P : Program) (b : Builtin) (ts : Array TypeId) (args : List AV) : Option AV :=
  match b, args with
  | .len, [x] => match ts[0]? with
    | some t => lenA P t x
    | none => none
  | .max, x :: r => foldA max2A x r
  | .min, x :: r => foldA min2A x r
  | _, _ => none
@[reducible] def plainOut (r : Option AV) : Out := r.map fun v => (true, v, .no)
@[reducible] def condOut (r : Option (Bool × AV)) : Out := r.map fun (p, v) => (p, v, .no)
/-- One operation. nm: the name that a new object gets. -/
def opv (P : Program) (T : Tab) (rd : Nat → Option Ob) (nm : Nat) (e : Operand → Option AV) (o : Oper) : Out :=
  match o.op with
  | .move x | .assign x => plainOut (e x)
  | .pick c a b =>
    match e c, e a, e b with
    | some (.bool q), some x, some y => give (aite q x y)
    | _, _, _ => none
  | .alloc t => match zeroT P t with
    | some z => boxOut nm z
    | none => none
  | .box t x => match e x with
    | some v => boxOut nm v
    | none => none
  | .build t ps => match evParts e ps.toList with
    | some vs => plainOut (buildA P t vs)
    | none => none
  | .load t x => match e x with
    | some a => condOut (loadA P rd t a)
    | none => none
  | .store t x y => match e x, e y with
    | some a, some v => (storeA P rd t a v).map fun (n, ob) => (true, .undef, .set n ob)
    | _, _ => none
  | .nilCheck x => match e x with
    | some (.ptr n i s j) => give (.ptr n i s j)
    | some (.cp l j) => give (.cp l j)
    | some (.fn (.func f) a b) => give (.fn (.func f) a b)
    | _ => none
  | .binOp op t x y _ => match e x, e y with
    | some a, some b => condOut (binA P op t a b)
    | _, _ => none
  | .unOp op _ x => match e x with
    | some a => plainOut (unA op a)
    | none => none
  | .convert s d x => match e x with
    | some a => plainOut (convA P s d a)
    | none => none
  | .makeInterface t x => match P.underlying t, e x with
    | some (.interface _), _ => none
    | some _, some a => give (.ifc t a)
    | _, _ => none
  | .makeFunc f a b => match evAll e a.toList, evAll e b.toList with
    | some x, some y => give (.fn f x y)
    | _, _ => none
  | .slice t x lo hi none => match e x, evOpt e lo, evOpt e hi with
    | some a, some l, some h => condOut (sliceA P t a l h)
    | _, _, _ => none
  | .fieldAddr t x f => match e x with
    | some a => plainOut (fieldAddrA P t a f)
    | none => none
  | .field t x f => match e x, fieldOf P t f with
    | some (.agg l), some fd => plainOut (partA P fd.type l fd.offset)
    | _, _ => none
  | .indexAddr t x i => match e x, e i with
    | some a, some k => condOut (indexAddrA P t a k)
    | _, _ => none
  | .index t x i => match e x, e i with
    | some a, some k => condOut (indexA P t a k)
    | _, _ => none
  | .extract x i => match e x with
    | some (.tup l) => plainOut (l[i]?)
    | _ => none
  | .call c => match c.callee with
    | .builtin b => match evAll e c.args.toList with
      | some args => plainOut (builtinA P b c.argTypes args)
      | none => none
    | _ => callA T rd e c
  | _ => none
/-- What a walk comes to: a condition (a statement), or an answer. -/
structure Alg (α : Type) where
  br : Bool → α → α → α
  no : α
  fi : Int → (Int → α) → α
  fb : Bool → (Bool → α) → α
  bi : Int → (Int → α) → α
  bb : Bool → (Bool → α) → α
  fi_eq : ∀ n K, fi n K = K n
  br_t : ∀ x y, br true x y = x
  br_f : ∀ x y, br false x y = y
  fb_eq : ∀ n K, fb n K = K n
  bi_eq : ∀ n K, bi n K = K n
  bb_eq : ∀ n K, bb n K = K n
def brc (b : Bool) (A B : Prop) : Prop := match b with
  | true => A
  | false => B
theorem brc_false {b : Bool} {A : Prop} : brc b A False ↔ b = true ∧ A := by cases b <;> simp [brc]
/-- A value under a name of its own. -/
def nmd {β : Type} (n : β) (K : β → Prop) : Prop := ∀ m, m = n → K m
theorem nmd_eq {β : Type} (n : β) (K : β → Prop) : nmd n K = K n := propext ⟨fun h => h n rfl, fun h m e => by rw [e]; exact h⟩
def PA : Alg Prop where
  br := brc
  no := False
  fi := fun n K => K n
  fb := fun n K => K n
  bi := nmd
  bb := nmd
  fi_eq := fun _ _ => rfl
  br_t := fun _ _ => rfl
  br_f := fun _ _ => rfl
  fb_eq := fun _ _ => rfl
  bi_eq := nmd_eq
  bb_eq := nmd_eq
section force
variable {α : Type}
section gen
variable (fi : Int → (Int → α) → α) (fb : Bool → (Bool → α) → α)
mutual
def gv : AV → (AV → α) → α
  | .undef, K => K .undef
  | .bool b, K => fb b fun b => K (.bool b)
  | .int k n, K => fi n fun n => K (.int k n)
  | .str s, K => K (.str s)
  | .nilp, K => K .nilp
  | .nilsl, K => K .nilsl
  | .nilmap, K => K .nilmap
  | .nilf, K => K .nilf
  | .nili, K => K .nili
  | .ptr n i s j, K => K (.ptr n i s j)
  | .cp l j, K => gl l fun l => K (.cp l j)
  | .sl n i s len, K => K (.sl n i s len)
  | .csl s len c, K => K (.csl s len c)
  | .fn f a b, K => gl a fun a => gl b fun b => K (.fn f a b)
  | .ifc t v, K => gv v fun v => K (.ifc t v)
  | .agg l, K => gl l fun l => K (.agg l)
  | .tup l, K => gl l fun l => K (.tup l)
def gl : List AV → (List AV → α) → α
  | [], K => K []
  | v :: l, K => gv v fun v => gl l fun l => K (v :: l)
end
mutual
theorem gv_eq (hi : ∀ n K, fi n K = K n) (hb : ∀ n K, fb n K = K n) : ∀ (v : AV) (K : AV → α), gv fi fb v K = K v
  | .undef, K => rfl
  | .bool b, K => by simp only [gv, hb]
  | .int k n, K => by simp only [gv, hi]
  | .str s, K => rfl
  | .nilp, K => rfl
  | .nilsl, K => rfl
  | .nilmap, K => rfl
  | .nilf, K => rfl
  | .nili, K => rfl
  | .ptr n i s j, K => rfl
  | .cp l j, K => by simp only [gv]; rw [gl_eq hi hb l]
  | .sl n i s len, K => rfl
  | .csl s len c, K => rfl
  | .fn f a b, K => by simp only [gv]; rw [gl_eq hi hb a, gl_eq hi hb b]
  | .ifc t v, K => by simp only [gv]; rw [gv_eq hi hb v]
  | .agg l, K => by simp only [gv]; rw [gl_eq hi hb l]
  | .tup l, K => by simp only [gv]; rw [gl_eq hi hb l]
theorem gl_eq (hi : ∀ n K, fi n K = K n) (hb : ∀ n K, fb n K = K n) : ∀ (l : List AV) (K : List AV → α), gl fi fb l K = K l
  | [], K => rfl
  | v :: l, K => by simp only [gl]; rw [gv_eq hi hb v, gl_eq hi hb l]
end
end gen
variable (A : Alg α)
def fv (v : AV) (K : AV → α) : α := gv A.fi A.fb v K
def fl (l : List AV) (K : List AV → α) : α := gl A.fi A.fb l K
theorem fv_eq (v : AV) (K : AV → α) : fv A v K = K v := gv_eq A.fi A.fb A.fi_eq A.fb_eq v K
theorem fl_eq (l : List AV) (K : List AV → α) : fl A l K = K l := gl_eq A.fi A.fb A.fi_eq A.fb_eq l K
/-- Is it a call of a function? -/
def isCall : Op → Bool
  | .call c => match c.callee with
    | .builtin _ => false
    | _ => true
  | _ => false
/-- A call's results get names of their own. -/
def fx (o : Oper) (v : AV) (K : AV → α) : α := if isCall o.op then gv A.bi A.bb v K else fv A v K
theorem fx_eq (o : Oper) (v : AV) (K : AV → α) : fx A o v K = K v := by
  unfold fx
  split
  · exact gv_eq A.bi A.bb A.bi_eq A.bb_eq v K
  · exact fv_eq A v K
def fo : Ob → (Ob → α) → α
  | .cells l, K => fl A l fun l => K (.cells l)
  | .row s n c, K => K (.row s n c)
theorem fo_eq (o : Ob) (K : Ob → α) : fo A o K = K o := by
  cases o
  · simp only [fo]; rw [fl_eq]
  · rfl
def fe : Eff → (Eff → α) → α
  | .no, K => K .no
  | .alloc o, K => fo A o fun o => K (.alloc o)
  | .set n o, K => fo A o fun o => K (.set n o)
theorem fe_eq (e : Eff) (K : Eff → α) : fe A e K = K e := by
  cases e
  · rfl
  · simp only [fe]; rw [fo_eq]
  · simp only [fe]; rw [fo_eq]
end force
section spine
variable {α : Type}
/-- A list's spine. -/
noncomputable def fs {β : Type} (l : List β) : (List β → α) → α := @List.rec β (fun _ => (List β → α) → α) (fun K => K []) (fun x _ ih K => ih fun l => K (x :: l)) l
theorem fs_eq {β : Type} : ∀ (l : List β) (K : List β → α), fs l K = K l
  | [], K => rfl
  | x :: l, K => by show fs l (fun l => K (x :: l)) = _; rw [fs_eq l]
noncomputable def fst (s : St) (K : St → α) : α := fs s.t fun t => fs s.h fun h => K ⟨t, h⟩
theorem fst_eq (s : St) (K : St → α) : fst s K = K s := by unfold fst; rw [fs_eq, fs_eq]
end spine
noncomputable def getL {β : Type} (l : List β) : Nat → Option β := @List.rec β (fun _ => Nat → Option β) (fun _ => none) (fun x _ ih n => @Nat.rec (fun _ => Option β) (some x) (fun m _ => ih m) n) l
theorem getL_eq {β : Type} : ∀ (l : List β) (n : Nat), getL l n = l[n]?
  | [], _ => rfl
  | x :: l, 0 => rfl
  | x :: l, n + 1 => by show getL l n = _; rw [getL_eq l n]; simp
/-- A temporary. -/
noncomputable def tmAll (st : St) (t : Nat) : Option AV := (getL st.t t).join
/-- A temporary, if the operation looks at it. -/
noncomputable def tmOf (st : St) (ts : List Nat) (t : Nat) : Option AV := if ts.contains t then tmAll st t else none
theorem tmAll_some {st : St} {d : Nat} {v : AV} (h : tmAll st d = some v) : st.t[d]? = some (some v) := by
  simp only [tmAll, getL_eq] at h
  cases hq : st.t[d]? with
  | none => simp [hq] at h
  | some u => simp [hq] at h; rw [h]
/-- How an operation looks at a state's temporaries. -/
abbrev Lk := Oper → St → Nat → Option AV
noncomputable def lkAll : Lk := fun _ st => tmAll st
noncomputable def lkOf (ops : Array Oper) : Lk := fun o st => tmOf st (o.looksAt ops)
def LkOk (lk : Lk) : Prop := ∀ o st t v, lk o st t = some v → st.t[t]? = some (some v)
def evOf (tm : Nat → Option AV) : Operand → Option AV
  | .tmp t => tm t
  | .const v => ofV 3 v
  | .global _ => none
  | .func f => some (.fn (.func f) [] [])
def wantedA (ops : Array Oper) (tm : Nat → Option AV) (o : Oper) : Option Bool :=
  match o.guard with
  | none => some true
  | some (j, want) =>
    match (ops[j]?).bind (·.dst) with
    | some d =>
      match tm d with
      | some (.bool b) => some (if want then b else !b)
      | some .undef => some false
      | _ => none
    | none => none
def putT (t : List (Option AV)) (dst : Option Tmp) (v : AV) : List (Option AV) :=
  match dst with
  | some d => t.set d (some v)
  | none => t
def effH (h : Heap) (nm : Nat) : Eff → Heap
  | .no => h
  | .alloc o => if nm < h.length then h.set nm (some o) else h ++ [some o]
  | .set n o => h.set n (some o)
@[reducible] def stepSt (st : St) (nm : Nat) (dst : Option Tmp) (v : AV) (f : Eff) : St := ⟨putT st.t dst v, effH st.h nm f⟩
section walk
variable {α : Type}
abbrev Inl (α : Type) := Call → (Operand → Option AV) → Heap → (AV → Heap → α) → α
/-- A temporary whose truth a branch tells. -/
def refT (st : St) (d : Nat) (b : Bool) : St := ⟨st.t.set d (some (.bool b)), st.h⟩
theorem refT_eq {st : St} {d : Nat} {b : Bool} (h : st.t[d]? = some (some (.bool b))) : refT st d b = st := by
  unfold refT
  have : st.t.set d (some (.bool b)) = st.t := by
    apply List.ext_getElem?
    intro i
    rw [List.getElem?_set]
    split
    · rename_i e; subst e
      split
      · exact h.symm
      · rename_i hl; rw [List.getElem?_eq_none (by omega)] 
    · rfl
  rw [this]
/-- May what an operation writes be written? -/
def effOk (ok : Nat → Bool) : Eff → Bool
  | .set n _ => ok n
  | _ => true
/-- An operation that is carried out; one that is not. -/
noncomputable def runO (A : Alg α) (P : Program) (T : Tab) (ok : Nat → Nat → Bool) (lk : Lk) (ops : Array Oper) (rd : Nat → Heap → Nat → Option Ob) (nm : Nat → Heap → Nat) (inl : Inl α) (i : Nat) (o : Oper) (K : St → α) (st : St) : α :=
  match opv P T (rd i st.h) (nm i st.h) (evOf (lk o st)) o with
  | some (p, v, f) => cond (effOk (ok i) f) (A.br p (fx A o v fun v => fe A f fun f => fst (stepSt st (nm i st.h) o.dst v f) K) A.no) A.no
  | none =>
    match o.op with
    | .call c => inl c (evOf (lk o st)) st.h (fun v h' => fv A v fun v => fst ⟨putT st.t o.dst v, h'⟩ K)
    | _ => A.no
noncomputable def skipO (o : Oper) (K : St → α) (st : St) : α := fst ⟨putT st.t o.dst .undef, st.h⟩ K
/-- One operation of a region, by its number; rd, nm by the operation's number. -/
noncomputable def stepA (A : Alg α) (P : Program) (T : Tab) (ok : Nat → Nat → Bool) (lk : Lk) (ops : Array Oper) (rd : Nat → Heap → Nat → Option Ob) (nm : Nat → Heap → Nat) (inl : Inl α) (i : Nat) (K : St → α) (st : St) : α :=
  match getL ops.toList i with
  | none => K st
  | some o =>
    match o.guard with
    | none => runO A P T ok lk ops rd nm inl i o K st
    | some (j, want) =>
      match (ops[j]?).bind (·.dst) with
      | none => A.no
      | some d =>
        match lk o st d with
        | some (.bool b) =>
          A.br b (fst (refT st d true) fun st => if want then runO A P T ok lk ops rd nm inl i o K st else skipO o K st)
            (fst (refT st d false) fun st => if want then skipO o K st else runO A P T ok lk ops rd nm inl i o K st)
        | some .undef => skipO o K st
        | _ => A.no
/-- The same without what a branch tells. -/
noncomputable def stepB (A : Alg α) (P : Program) (T : Tab) (ok : Nat → Nat → Bool) (lk : Lk) (ops : Array Oper) (rd : Nat → Heap → Nat → Option Ob) (nm : Nat → Heap → Nat) (inl : Inl α) (i : Nat) (K : St → α) (st : St) : α :=
  match getL ops.toList i with
  | none => K st
  | some o =>
    match wantedA ops (lk o st) o with
    | none => A.no
    | some b =>
      A.br b
        (match opv P T (rd i st.h) (nm i st.h) (evOf (lk o st)) o with
         | some (p, v, f) => cond (effOk (ok i) f) (A.br p (fx A o v fun v => fe A f fun f => fst (stepSt st (nm i st.h) o.dst v f) K) A.no) A.no
         | none =>
           match o.op with
           | .call c => inl c (evOf (lk o st)) st.h (fun v h' => fv A v fun v => fst ⟨putT st.t o.dst v, h'⟩ K)
           | _ => A.no)
        (fst ⟨putT st.t o.dst .undef, st.h⟩ K)
theorem tmOf_some {st : St} {ts : List Nat} {d : Nat} {v : AV} (h : tmOf st ts d = some v) : st.t[d]? = some (some v) := by
  simp only [tmOf] at h
  split at h
  · exact tmAll_some h
  · cases h
theorem lkAll_ok : LkOk lkAll := fun _ _ _ _ h => tmAll_some h
theorem lkOf_ok (ops : Array Oper) : LkOk (lkOf ops) := fun _ _ _ _ h => tmOf_some h
theorem stepA_eq (A : Alg α) (P : Program) (T : Tab) (ok : Nat → Nat → Bool) {lk : Lk} (hlk : LkOk lk) (ops : Array Oper) (rd : Nat → Heap → Nat → Option Ob) (nm : Nat → Heap → Nat) (inl : Inl α) (i : Nat) (K : St → α) (st : St) :
    stepA A P T ok lk ops rd nm inl i K st = stepB A P T ok lk ops rd nm inl i K st := by
  unfold stepA stepB
  split
  · rfl
  · rename_i o ho
    unfold wantedA
    cases hg : o.guard with
    | none => simp only [A.br_t]; rfl
    | some p =>
      obtain ⟨j, want⟩ := p
      simp only
      cases hd : (ops[j]?).bind (·.dst) with
      | none => rfl
      | some d =>
        simp only
        cases ht : lk o st d with
        | none => rfl
        | some v =>
          cases v <;> try rfl
          · simp only [A.br_f]; rfl
          · rename_i b
            have hb := refT_eq (hlk _ _ _ _ ht)
            cases b <;> cases want <;> simp only [A.br_t, A.br_f, fst_eq, hb, if_true, Bool.false_eq_true, if_false, Bool.not_true, Bool.not_false, runO, skipO]
noncomputable def opsA (A : Alg α) (P : Program) (T : Tab) (ok : Nat → Nat → Bool) (lk : Lk) (ops : Array Oper) (rd : Nat → Heap → Nat → Option Ob) (nm : Nat → Heap → Nat) (inl : Inl α) : List Nat → St → (St → α) → α
  | [], st, K => K st
  | i :: r, st, K => stepA A P T ok lk ops rd nm inl i (fun st' => opsA A P T ok lk ops rd nm inl r st' K) st
/-- The operations that must have come before an operation: a set of numbers, as bits. -/
def befores (ops : List Oper) : List Nat :=
  ops.foldl (fun acc o => acc ++ [o.after.toList.foldl (fun s e => if Region.binds .any e then s ||| 2 ^ e.on ||| acc.getD e.on 0 else s) 0]) []
noncomputable def rdFlat (h : Heap) (n : Nat) : Option Ob := (getL h n).join
/-- own: which operation writes which object that was there before. No operation that might come on either side of it may look at that object. -/
def okOld (bf : List Nat) (own : List (Nat × Nat)) (i n : Nat) : Bool := own.all fun (j, m) => m != n || j == i || (bf.getD i 0).testBit j || (bf.getD j 0).testBit i
def rdDrawn (base : Nat) (bf : List Nat) (own : List (Nat × Nat)) (i : Nat) (h : Heap) (n : Nat) : Option Ob :=
  if cond (n < base) (okOld bf own i n) ((bf.getD i 0).testBit (n - base)) then (h[n]?).join else none
/-- The operations that make an object: a set of numbers, as bits. -/
def isAlloc : Op → Bool
  | .alloc _ | .box _ _ => true
  | _ => false
def isStore : Op → Bool
  | .store _ _ _ => true
  | _ => false
def allocs (ops : List Oper) : Nat := (upTo 0 ops.length).foldl (fun s i => match ops[i]? with
  | some o => if isAlloc o.op then s ||| 2 ^ i else s
  | none => s) 0
/-- In a region that draws its order an operation writes objects that the region made, and those that are its own. -/
def okDrawn (base mask : Nat) (own : List (Nat × Nat)) (i n : Nat) : Bool := cond (n < base) (own.any fun (j, m) => j == i && m == n) (mask.testBit (n - base))
noncomputable def ownAt (t : List (Option AV)) (i : Nat) (o : Oper) (r : List (Nat × Nat)) : List (Nat × Nat) :=
  match o.op with
  | .store _ (.tmp d) _ => match getL t d with
    | some (some (.ptr n _ _ _)) => (i, n) :: r
    | _ => r
  | _ => r
noncomputable def ownOf (t : List (Option AV)) : Nat → List Oper → List (Nat × Nat)
  | _, [] => []
  | i, o :: r => ownAt t i o (ownOf t (i + 1) r)
/-- May a region's operations come in any order that its edges allow? -/
def drawnOk (ops : List Oper) (bf : List Nat) (mask : Nat) : Bool :=
  (upTo 0 ops.length).all fun i =>
    match ops[i]? with
    | none => false
    | some y =>
      (y.after.toList.all fun e => !Region.binds .any e || decide (e.on < i)) &&
      (upTo 0 i).all fun j =>
        match ops[j]? with
        | none => false
        | some x =>
          !(bf.getD j 0).testBit i &&
          (if (bf.getD i 0).testBit j then y.after.toList.any fun e => Region.binds .any e && (e.on == j || (bf.getD e.on 0).testBit j)
           else x.apart ops.toArray y && (!(isStore x.op || isStore y.op) || bf.getD i 0 &&& bf.getD j 0 &&& mask == 0))
def noInl (A : Alg α) : Inl α := fun _ _ _ _ => A.no
noncomputable def regionA (A : Alg α) (P : Program) (T : Tab) (inl : Inl α) (ops : Array Oper) (draw : Bool) (st : St) (K : St → α) : α :=
  if draw then
    if drawnOk ops.toList (befores ops.toList) (allocs ops.toList) then
      opsA A P T (okDrawn st.h.length (allocs ops.toList) (ownOf st.t 0 ops.toList)) (lkOf ops) ops (rdDrawn st.h.length (befores ops.toList) (ownOf st.t 0 ops.toList)) (fun i _ => st.h.length + i) (noInl A) (upTo 0 ops.size) ⟨st.t, st.h ++ List.replicate ops.size none⟩ K
    else A.no
  else opsA A P T (fun _ _ => true) lkAll ops (fun _ => rdFlat) (fun _ h => h.length) inl (upTo 0 ops.size) st K
def refC (st : St) (c : Operand) (b : Bool) : St := match c with
  | .tmp d => refT st d b
  | _ => st
omit α in
theorem refC_eq {st : St} {c : Operand} {b : Bool} (h : evOf (tmAll st) c = some (.bool b)) : refC st c b = st := by
  cases c with
  | tmp d =>
    exact refT_eq (tmAll_some h)
  | _ => rfl
/-- The number of the first region in a piece of code: a loop's name. -/
def Code.first : Code → Nat
  | .region id _ _ => id + 1
  | .seq a b => if Code.first a = 0 then Code.first b else Code.first a
  | .cond _ a b => if Code.first a = 0 then Code.first b else Code.first a
  | .block _ b => Code.first b
  | .loop b => Code.first b
  | _ => 0
/-- Contracts of loops, by their names (0: none). -/
abbrev LTab (α : Type) := Nat → Option (St → (Ex → St → α) → α)
def noLoops {α : Type} : LTab α := fun _ => none
/-- A piece of code's loops, but for those within one another. -/
def Code.loops : Code → List Code
  | .seq a b => Code.loops a ++ Code.loops b
  | .cond _ a b => Code.loops a ++ Code.loops b
  | .block _ b => Code.loops b
  | .loop b => [b]
  | _ => []
/-- Code, with what a loop and an inlined call come to. -/
noncomputable def codeA (A : Alg α) (P : Program) (T : Tab) (LT : LTab α) (lp : Code → St → (Ex → St → α) → α) (inl : Inl α) : Code → St → (Ex → St → α) → α
  | .skip, st, Q => Q .normal st
  | .label _, st, Q => Q .normal st
  | .seq a b, st, Q => codeA A P T LT lp inl a st fun e st' => match e with
    | .normal => codeA A P T LT lp inl b st' Q
    | e => Q e st'
  | .cond c a b, st, Q =>
    match evOf (tmAll st) c with
    | some (.bool x) => A.br x (fst (refC st c true) fun st => codeA A P T LT lp inl a st Q) (fst (refC st c false) fun st => codeA A P T LT lp inl b st Q)
    | _ => A.no
  | .block id b, st, Q => codeA A P T LT lp inl b st fun e st' => match e with
    | .exit i => if i = id then Q .normal st' else Q (.exit i) st'
    | e => Q e st'
  | .loop b, st, Q =>
    match LT (Code.first b) with
    | some lc => lc st Q
    | none => lp b st Q
  | .exit id, st, Q => Q (.exit id) st
  | .ret, st, Q => Q .ret st
  | .region _ ops draw, st, Q => regionA A P T inl ops draw st fun st' => Q .normal st'
  | _, _, _ => A.no
end walk
/-- A function's results. -/
noncomputable def resA (P : Program) (st : St) : List ResultVar → Option (List AV)
  | [] => some []
  | .tmp t :: r =>
    match tmAll st t, resA P st r with
    | some v, some vs => some (v :: vs)
    | _, _ => none
  | .cell a t :: r =>
    match tmAll st a, resA P st r with
    | some (.ptr m i s j), some vs =>
      match loadA P (rdFlat st.h) t (.ptr m i s j) with
      | some (true, v) => some (v :: vs)
      | _ => none
    | _, _ => none
def resV : List AV → AV
  | [v] => v
  | l => .tup l
def entryT (fn : Func) (args : List AV) : List (Option AV) := args.map some ++ List.replicate (fn.ntmps - args.length) none
section walk
variable {α : Type}
/-- What a function's body must come to. -/
noncomputable def bodyA (A : Alg α) (P : Program) (T : Tab) (LT : LTab α) (lp : Code → St → (Ex → St → α) → α) (inl : Inl α) (fn : Func) (args : List AV) (h : Heap) (K : AV → Heap → α) : α :=
  match fn.body with
  | some c => fl A args fun args => fst ⟨entryT fn args, h⟩ fun st => codeA A P T LT lp inl c st fun e st => match e with
    | .normal | .ret => match resA P st fn.results.toList with
      | some l => fl A l fun l => K (resV l) st.h
      | none => A.no
    | _ => A.no
  | none => A.no
mutual
/-- A loop, with so many rounds and calls within each other. -/
noncomputable def alp (A : Alg α) (P : Program) (T : Tab) : Nat → Code → St → (Ex → St → α) → α
  | 0 => fun _ _ _ => A.no
  | n + 1 => fun b st Q => codeA A P T noLoops (alp A P T n) (ainl A P T n) b st fun e st' => match e with
    | .normal => alp A P T n b st' Q
    | e => Q e st'
/-- A call walked in its place. -/
noncomputable def ainl (A : Alg α) (P : Program) (T : Tab) : Nat → Inl α
  | 0 => fun _ _ _ _ => A.no
  | n + 1 => fun c e h K =>
    match targetA e c with
    | some (g, args) =>
      match P.funcs[g]? with
      | some fn => if fn.name == "runtime.NumGoroutine" then A.no else bodyA A P T noLoops (alp A P T n) (ainl A P T n) fn args h K
      | none => A.no
    | none => A.no
end
/-- A function, called with values by content. -/
noncomputable def afn (A : Alg α) (P : Program) (T : Tab) (LT : LTab α) (n : Nat) (f : FuncId) (args : List AV) (K : AV → Heap → α) : α :=
  match P.funcs[f]? with
  | some fn => bodyA A P T LT (alp A P T n) (ainl A P T n) fn args [] K
  | none => A.no
/-- The same, of the result alone. -/
noncomputable def afv (A : Alg α) (P : Program) (T : Tab) (LT : LTab α) (n : Nat) (f : FuncId) (args : List AV) (K : AV → α) : α := afn A P T LT n f args fun v _ => K v
end walk
end Go.Proofs.Ytkongoedgngfhaa.A
namespace Go.Proofs.Ytkongoedgngfhaa.A
open Go Go.RowKit
set_option linter.unusedVariables false
set_option linter.unusedSimpArgs false
abbrev Names := Nat → Option (Nat × Nat)
abbrev noNames : Names := fun _ => none
mutual
/-- An abstract value stands for a value. -/
inductive RV : Names → World → AV → Value → Prop
  | undef {ρ : Names} {W : World} : RV ρ W .undef Go.undef
  | bool {ρ : Names} {W : World} (b : Bool) : RV ρ W (.bool b) (.bool b)
  | int {ρ : Names} {W : World} (k : IntKind) (n : Int) : RV ρ W (.int k n) (.int k n)
  | str {ρ : Names} {W : World} (s : ByteArray) : RV ρ W (.str s) (.string s)
  | nilp {ρ : Names} {W : World} : RV ρ W .nilp (.pointer none)
  | nilsl {ρ : Names} {W : World} : RV ρ W .nilsl (.slice none 0 0)
  | nilmap {ρ : Names} {W : World} : RV ρ W .nilmap (.map none)
  | nilf {ρ : Names} {W : World} : RV ρ W .nilf .nilFunc
  | nili {ρ : Names} {W : World} : RV ρ W .nili .nilIface
  | ptr {ρ : Names} {W : World} {n b o : Nat} (i s j : Nat) (h : ρ n = some (b, o)) : RV ρ W (.ptr n i s j) (.pointer (some ⟨b, o + (i * s + j), none⟩))
  | cp {ρ : Names} {W : World} {b o : Nat} {l : List AV} {L : List Value} (j : Nat) (hb : b < W.heap.size) (hl : RL noNames W l L) (hc : ∀ (x : Nat) (v : Value), L[x]? = some v → W.cell? ⟨b, o + x, none⟩ = some v) :
      RV ρ W (.cp l j) (.pointer (some ⟨b, o + j, none⟩))
  | sl {ρ : Names} {W : World} {n b o : Nat} (i s len cap off : Nat) (h : ρ n = some (b, o)) (hl : len ≤ cap) (ho : len = 0 ∨ off = o + i * s) : RV ρ W (.sl n i s len) (.slice (some ⟨b, off, none⟩) len cap)
  | csl {ρ : Names} {W : World} {b o : Nat} (s len cap : Nat) (c : Nat → Nat → AV) (V : Nat → Nat → Value) (hb : b < W.heap.size) (hl : len ≤ cap)
      (hc : ∀ i j, i < len → j < s → W.cell? ⟨b, o + (i * s + j), none⟩ = some (V i j)) (hr : ∀ i j, i < len → j < s → RV noNames W (c i j) (V i j)) :
      RV ρ W (.csl s len c) (.slice (some ⟨b, o, none⟩) len cap)
  | fn {ρ : Names} {W : World} (f : Fn) {a b : List AV} {A B : List Value} (ha : RL ρ W a A) (hb : RL ρ W b B) : RV ρ W (.fn f a b) (.func f A.toArray B.toArray)
  | ifc {ρ : Names} {W : World} (t : TypeId) {v : AV} {V : Value} (h : RV ρ W v V) : RV ρ W (.ifc t v) (.iface t V)
  | agg {ρ : Names} {W : World} {l : List AV} {L : List Value} (h : RL ρ W l L) : RV ρ W (.agg l) (.agg L.toArray)
  | tup {ρ : Names} {W : World} {l : List AV} {L : List Value} (h : RL ρ W l L) : RV ρ W (.tup l) (.tuple L.toArray)
inductive RL : Names → World → List AV → List Value → Prop
  | nil {ρ : Names} {W : World} : RL ρ W [] []
  | cons {ρ : Names} {W : World} {v : AV} {V : Value} {l : List AV} {L : List Value} (h : RV ρ W v V) (t : RL ρ W l L) : RL ρ W (v :: l) (V :: L)
end
def Ext (ρ ρ' : Names) : Prop := ∀ n p, ρ n = some p → ρ' n = some p
theorem Ext.refl (ρ : Names) : Ext ρ ρ := fun _ _ h => h
theorem Ext.trans {a b c : Names} (h : Ext a b) (k : Ext b c) : Ext a c := fun n p x => k n p (h n p x)
/-- The base world may grow, what it held stays. -/
def Keeps (W W' : World) : Prop := W.heap.size ≤ W'.heap.size ∧ ∀ b, b < W.heap.size → W'.heap[b]? = W.heap[b]?
theorem Keeps.refl (W : World) : Keeps W W := ⟨Nat.le_refl _, fun _ _ => rfl⟩
theorem Keeps.cell {W W' : World} (h : Keeps W W') {b o : Nat} (hb : b < W.heap.size) : W'.cell? ⟨b, o, none⟩ = W.cell? ⟨b, o, none⟩ :=
  World.cell?_of_block (w := W) (h.2 b hb)
theorem Keeps.of_below {W w : World} (h : Below W.heap.size W w) : Keeps W w := ⟨h.size, h.block⟩
mutual
theorem RV.move_ : ∀ {ρ : Names} {W : World} {v : AV} {V : Value}, RV ρ W v V → ∀ {ρ' : Names} {W' : World}, Ext ρ ρ' → Keeps W W' → RV ρ' W' v V
  | _, _, _, _, .undef, _, _, _, _ => .undef
  | _, _, _, _, .bool b, _, _, _, _ => .bool b
  | _, _, _, _, .int k n, _, _, _, _ => .int k n
  | _, _, _, _, .str s, _, _, _, _ => .str s
  | _, _, _, _, .nilp, _, _, _, _ => .nilp
  | _, _, _, _, .nilsl, _, _, _, _ => .nilsl
  | _, _, _, _, .nilmap, _, _, _, _ => .nilmap
  | _, _, _, _, .nilf, _, _, _, _ => .nilf
  | _, _, _, _, .nili, _, _, _, _ => .nili
  | _, _, _, _, .ptr i s j h, _, _, he, hk => .ptr i s j (he _ _ h)
  | _, _, _, _, .cp j hb hl hc, _, _, he, hk => .cp j (Nat.lt_of_lt_of_le hb hk.1) (RL.move_ hl (Ext.refl _) hk) (fun x v h => (hk.cell hb).trans (hc x v h))
  | _, _, _, _, .sl i s len cap off h hl ho, _, _, he, hk => .sl i s len cap off (he _ _ h) hl ho
  | _, _, _, _, .csl s len cap c V hb hl hc hr, _, _, he, hk => .csl s len cap c V (Nat.lt_of_lt_of_le hb hk.1) hl (fun i j hi hj => (hk.cell hb).trans (hc i j hi hj)) (fun i j hi hj => RV.move_ (hr i j hi hj) (Ext.refl _) hk)
  | _, _, _, _, .fn f ha hb, _, _, he, hk => .fn f (RL.move_ ha he hk) (RL.move_ hb he hk)
  | _, _, _, _, .ifc t h, _, _, he, hk => .ifc t (RV.move_ h he hk)
  | _, _, _, _, .agg h, _, _, he, hk => .agg (RL.move_ h he hk)
  | _, _, _, _, .tup h, _, _, he, hk => .tup (RL.move_ h he hk)
theorem RL.move_ : ∀ {ρ : Names} {W : World} {l : List AV} {L : List Value}, RL ρ W l L → ∀ {ρ' : Names} {W' : World}, Ext ρ ρ' → Keeps W W' → RL ρ' W' l L
  | _, _, _, _, .nil, _, _, _, _ => .nil
  | _, _, _, _, .cons h t, _, _, he, hk => .cons (RV.move_ h he hk) (RL.move_ t he hk)
end
theorem RV.move {ρ ρ' : Names} {W W' : World} (he : Ext ρ ρ') (hk : Keeps W W') {v : AV} {V : Value} (h : RV ρ W v V) : RV ρ' W' v V := h.move_ he hk
theorem RL.move {ρ ρ' : Names} {W W' : World} (he : Ext ρ ρ') (hk : Keeps W W') {l : List AV} {L : List Value} (h : RL ρ W l L) : RL ρ' W' l L := h.move_ he hk
theorem Ext.none (ρ : Names) : Ext noNames ρ := fun _ _ h => by cases h
theorem RV.ext {ρ ρ' : Names} {W : World} (he : Ext ρ ρ') {v : AV} {V : Value} (h : RV ρ W v V) : RV ρ' W v V := h.move he (Keeps.refl W)
theorem RL.ext {ρ ρ' : Names} {W : World} (he : Ext ρ ρ') {v : List AV} {V : List Value} (h : RL ρ W v V) : RL ρ' W v V := h.move he (Keeps.refl W)
theorem RL.length {ρ : Names} {W : World} : ∀ {l : List AV} {L : List Value}, RL ρ W l L → l.length = L.length
  | _, _, .nil => rfl
  | _, _, .cons _ t => by simp [RL.length t]
theorem RL.get {ρ : Names} {W : World} : ∀ {l : List AV} {L : List Value}, RL ρ W l L → ∀ (i : Nat) (v : AV), l[i]? = some v → ∃ V, L[i]? = some V ∧ RV ρ W v V
  | _, _, .nil, _, _, h => by simp at h
  | _, _, .cons h t, 0, v, e => by simp at e; subst e; exact ⟨_, rfl, h⟩
  | _, _, .cons h t, i + 1, v, e => by simp at e; simpa using RL.get t i v e
theorem RL.append {ρ : Names} {W : World} : ∀ {l : List AV} {L : List Value} {m : List AV} {M : List Value}, RL ρ W l L → RL ρ W m M → RL ρ W (l ++ m) (L ++ M)
  | _, _, _, _, .nil, k => k
  | _, _, _, _, .cons h t, k => .cons h (RL.append t k)
theorem RL.drop {ρ : Names} {W : World} : ∀ (n : Nat) {l : List AV} {L : List Value}, RL ρ W l L → RL ρ W (l.drop n) (L.drop n)
  | 0, _, _, h => h
  | n + 1, _, _, .nil => .nil
  | n + 1, _, _, .cons _ t => RL.drop n t
theorem RL.take {ρ : Names} {W : World} : ∀ (n : Nat) {l : List AV} {L : List Value}, RL ρ W l L → RL ρ W (l.take n) (L.take n)
  | 0, _, _, h => .nil
  | n + 1, _, _, .nil => .nil
  | n + 1, _, _, .cons h t => .cons h (RL.take n t)
theorem RL.set {ρ : Names} {W : World} {v : AV} {V : Value} (hv : RV ρ W v V) : ∀ (n : Nat) {l : List AV} {L : List Value}, RL ρ W l L → RL ρ W (l.set n v) (L.set n V)
  | _, _, _, .nil => .nil
  | 0, _, _, .cons _ t => .cons hv t
  | n + 1, _, _, .cons h t => .cons h (RL.set hv n t)
theorem RL.map {ρ : Names} {W : World} {α : Type} (f : α → AV) (g : α → Value) : ∀ (l : List α), (∀ x ∈ l, RV ρ W (f x) (g x)) → RL ρ W (l.map f) (l.map g)
  | [], _ => .nil
  | x :: l, h => .cons (h x (by simp)) (RL.map f g l fun y hy => h y (by simp [hy]))
def setAtV : List Value → Nat → List Value → List Value
  | l, _, [] => l
  | l, j, v :: vs => setAtV (l.set j v) (j + 1) vs
theorem RL.setAt {ρ : Names} {W : World} : ∀ {m : List AV} {M : List Value}, RL ρ W m M → ∀ (j : Nat) {l : List AV} {L : List Value}, RL ρ W l L → RL ρ W (setAt l j m) (setAtV L j M)
  | _, _, .nil, _, _, _, h => h
  | _, _, .cons hv t, j, _, _, h => RL.setAt t (j + 1) (RL.set hv j h)
theorem RV.cells {ρ : Names} {W : World} {v : AV} {V : Value} (h : RV ρ W v V) : RL ρ W v.cells V.cells.toList := by
  cases h
  case agg h => simpa [AV.cells, Value.cells] using h
  all_goals (simp only [AV.cells, Value.cells]; exact .cons (by constructor <;> assumption) .nil)
theorem RV.one {ρ : Names} {W : World} {v : AV} {V : Value} (h : RV ρ W v V) (h1 : v.one = true) : V.oneCell' = true := by
  cases h <;> simp_all [AV.one, Value.oneCell']
theorem RL.one {ρ : Names} {W : World} : ∀ {l : List AV} {L : List Value}, RL ρ W l L → l.all AV.one = true → ∀ V ∈ L, V.oneCell' = true
  | _, _, .nil, _, _, h => by simp at h
  | _, _, .cons h t, ha, V, hm => by
    simp only [List.all_cons, Bool.and_eq_true] at ha
    rcases List.mem_cons.1 hm with rfl | hm
    · exact h.one ha.1
    · exact RL.one t ha.2 V hm
theorem mapM_cons_some {α β : Type} {f : α → Option β} {a : α} {l : List α} {r : List β} (h : (a :: l).mapM f = some r) : ∃ b bs, f a = some b ∧ l.mapM f = some bs ∧ r = b :: bs := by
  simp only [List.mapM_cons, Option.bind_eq_bind, Option.bind_eq_some_iff, Option.pure_def, Option.some.injEq] at h
  obtain ⟨b, hb, bs, hbs, rfl⟩ := h
  exact ⟨b, bs, hb, hbs, rfl⟩
theorem RL.mapM_of {ρ : Names} {W : World} {f : Value → Option AV} (hf : ∀ V v, f V = some v → RV ρ W v V) : ∀ (L : List Value) (l : List AV), L.mapM f = some l → RL ρ W l L
  | [], l, h => by simp at h; subst h; exact .nil
  | V :: L, l, h => by
    obtain ⟨b, bs, h1, h2, rfl⟩ := mapM_cons_some h
    exact .cons (hf _ _ h1) (RL.mapM_of hf L bs h2)
theorem ofV_ok (ρ : Names) (W : World) : ∀ (n : Nat) (V : Value) (v : AV), ofV n V = some v → RV ρ W v V := by
  intro n
  induction n with
  | zero =>
    intro V v h
    unfold ofV at h
    split at h <;> simp at h
    case h_9 heq => cases heq
    case h_10 heq => cases heq
    all_goals (subst h; constructor)
  | succ n ih =>
    intro V v h
    cases V <;> try simp only [ofV] at h
    case bool => simp at h; subst h; constructor
    case int => simp at h; subst h; constructor
    case string => simp at h; subst h; constructor
    case nilFunc => simp at h; subst h; constructor
    case nilIface => simp at h; subst h; constructor
    case pointer a => cases a <;> simp [ofV] at h; subst h; constructor
    case map a => cases a <;> simp [ofV] at h; subst h; constructor
    case slice a l c =>
      cases a <;> cases l <;> cases c <;> simp [ofV] at h
      subst h; constructor
    case iface t u =>
      simp only [Option.map_eq_some_iff] at h
      obtain ⟨a, ha, rfl⟩ := h
      exact .ifc _ (ih _ _ ha)
    case agg cs =>
      simp only [Option.map_eq_some_iff] at h
      obtain ⟨a, ha, rfl⟩ := h
      have := RL.mapM_of (ρ := ρ) (W := W) ih _ _ ha
      simpa using RV.agg this
    all_goals simp at h
/-- What an object's abstract content says of its block. -/
def Holds (ρ : Names) (W : World) (w : World) (b o : Nat) : Ob → Prop
  | .cells l => W.heap.size ≤ b ∧ o = 0 ∧ ∃ L t, w.heap[b]? = some (.cells (List.toArray L) t (0, 0)) ∧ RL ρ W l L
  | .row s len c => ∃ V : Nat → Nat → Value, (∀ i j, i < len → j < s → w.cell? ⟨b, o + (i * s + j), none⟩ = some (V i j)) ∧ (∀ i j, i < len → j < s → RV noNames W (c i j) (V i j))
structure Rel (ρ : Names) (W : World) (h : Heap) (w : World) : Prop where
  bel : Below W.heap.size W w
  dom : ∀ n p, ρ n = some p → (∃ x, h[n]? = some (some x)) ∧ p.1 < w.heap.size
  ob : ∀ n x, h[n]? = some (some x) → ∃ b o, ρ n = some (b, o) ∧ Holds ρ W w b o x
  sep : ∀ n l b o, h[n]? = some (some (.cells l)) → ρ n = some (b, o) → ∀ m p, ρ m = some p → p.1 = b → m = n
theorem Rel.start (W : World) : Rel (fun _ => none) W [] W := ⟨Below.refl _ _, by simp, by simp, by simp⟩
theorem Holds.block {ρ : Names} {W w w' : World} {b o : Nat} {x : Ob} (h : Holds ρ W w b o x) (hb : w'.heap[b]? = w.heap[b]?) : Holds ρ W w' b o x := by
  cases x with
  | cells l => obtain ⟨h1, h2, L, t, h3, h4⟩ := h; exact ⟨h1, h2, L, t, hb.trans h3, h4⟩
  | row s len c => obtain ⟨V, h1, h2⟩ := h; exact ⟨V, fun i j hi hj => (World.cell?_of_block (a := ⟨b, _, none⟩) (w := w) hb).trans (h1 i j hi hj), h2⟩
theorem Holds.ext {ρ ρ' : Names} {W w : World} {b o : Nat} {x : Ob} (he : Ext ρ ρ') (h : Holds ρ W w b o x) : Holds ρ' W w b o x := by
  cases x with
  | cells l => obtain ⟨h1, h2, L, t, h3, h4⟩ := h; exact ⟨h1, h2, L, t, h3, h4.ext he⟩
  | row s len c => exact h
/-- A step that leaves every block that is there. -/
theorem Rel.below {ρ : Names} {W w w' : World} {h : Heap} (r : Rel ρ W h w) (hb : Below w.heap.size w w') : Rel ρ W h w' := by
  refine ⟨r.bel.trans (hb.mono r.bel.size), fun n p hp => ⟨(r.dom n p hp).1, Nat.lt_of_lt_of_le (r.dom n p hp).2 hb.size⟩, fun n x hx => ?_, r.sep⟩
  obtain ⟨b, o, h1, h2⟩ := r.ob n x hx
  exact ⟨b, o, h1, h2.block (hb.block b (r.dom n _ h1).2)⟩
theorem Rel.drew {ρ : Names} {W w : World} {h : Heap} (r : Rel ρ W h w) : Rel ρ W h { w with drawn := w.drawn + 1 } :=
  r.below ((Below.refl _ _).drew)
/-- Room for names that are still to come. -/
theorem Rel.room {ρ : Names} {W w : World} {h : Heap} (r : Rel ρ W h w) (k : Nat) : Rel ρ W (h ++ List.replicate k none) w := by
  have hx : ∀ n x, (h ++ List.replicate k none)[n]? = some (some x) → h[n]? = some (some x) := fun n x hx => by
    rw [List.getElem?_append] at hx
    split at hx
    · exact hx
    · simp [List.getElem?_replicate] at hx
  refine ⟨r.bel, fun n p hp => ?_, fun n x h' => r.ob n x (hx n x h'), fun n l b o h' => r.sep n l b o (hx n _ h')⟩
  obtain ⟨⟨x, h1⟩, h2⟩ := r.dom n p hp
  refine ⟨⟨x, ?_⟩, h2⟩
  rw [List.getElem?_append, if_pos (by rcases Nat.lt_or_ge n h.length with q | q; exact q; simp [List.getElem?_eq_none q] at h1)]
  exact h1
/-- A name that is free: the next one, or one that was kept. -/
def Fresh (h : Heap) (nm : Nat) : Prop := nm = h.length ∨ h[nm]? = some none
theorem effH_alloc_get {h : Heap} {nm : Nat} (hf : Fresh h nm) (x : Ob) (n : Nat) : (effH h nm (.alloc x))[n]? = if n = nm then some (some x) else h[n]? := by
  simp only [effH]
  rcases hf with rfl | hf
  · rw [if_neg (by omega)]
    by_cases hn : n = h.length
    · subst hn; simp
    · rw [if_neg hn, List.getElem?_append]
      split
      · rfl
      · rw [List.getElem?_eq_none (l := h) (by omega), List.getElem?_eq_none (by simp; omega)]
  · have hl : nm < h.length := by rcases Nat.lt_or_ge nm h.length with q | q; exact q; simp [List.getElem?_eq_none q] at hf
    rw [if_pos hl, List.getElem?_set]
    by_cases hn : nm = n
    · subst hn; simp [hl]
    · simp [hn, Ne.symm hn]
theorem Rel.free_none {ρ : Names} {W w : World} {h : Heap} (r : Rel ρ W h w) {nm : Nat} (hf : Fresh h nm) : ρ nm = none := by
  cases hq : ρ nm with
  | none => rfl
  | some p =>
    obtain ⟨⟨x, h1⟩, _⟩ := r.dom nm p hq
    rcases hf with rfl | hf
    · simp at h1
    · rw [hf] at h1; simp at h1
def Names.with (ρ : Names) (nm b o : Nat) : Names := fun n => if n = nm then some (b, o) else ρ n
theorem Names.with_ext {ρ : Names} {nm b o : Nat} (h : ρ nm = none) : Ext ρ (ρ.with nm b o) := fun n p hp => by
  unfold Names.with
  by_cases hn : n = nm
  · subst hn; rw [h] at hp; cases hp
  · rw [if_neg hn]; exact hp
/-- A new object of cells. -/
theorem Rel.alloc {ρ : Names} {W w : World} {h : Heap} (r : Rel ρ W h w) {nm : Nat} (hf : Fresh h nm) {l : List AV} {L : List Value} (hl : RL ρ W l L) (t : TypeId) :
    Rel (ρ.with nm w.heap.size 0) W (effH h nm (.alloc (.cells l))) (w.alloc (.cells L.toArray t)) := by
  have hn := r.free_none hf
  have he : Ext ρ (ρ.with nm w.heap.size 0) := Names.with_ext hn
  have hnm : (ρ.with nm w.heap.size 0) nm = some (w.heap.size, 0) := by simp [Names.with]
  have hb : Below w.heap.size w (w.alloc (.cells L.toArray t)) := (Below.refl _ _).alloc (Nat.le_refl _) _
  refine ⟨r.bel.trans (hb.mono r.bel.size), fun n p hp => ?_, fun n x hx => ?_, fun n l' b o hx hp m p hm hpb => ?_⟩
  · unfold Names.with at hp
    by_cases hq : n = nm
    · subst hq; rw [if_pos rfl] at hp; cases hp
      exact ⟨⟨_, by rw [effH_alloc_get hf, if_pos rfl]⟩, by simp⟩
    · rw [if_neg hq] at hp
      obtain ⟨⟨x, h1⟩, h2⟩ := r.dom n p hp
      exact ⟨⟨x, by rw [effH_alloc_get hf, if_neg hq]; exact h1⟩, by simp; omega⟩
  · rw [effH_alloc_get hf] at hx
    by_cases hq : n = nm
    · subst hq; rw [if_pos rfl] at hx; cases hx
      exact ⟨_, _, hnm, r.bel.size, rfl, L, t, by unfold World.alloc; rw [Array.getElem?_push]; simp, hl.ext he⟩
    · rw [if_neg hq] at hx
      obtain ⟨b, o, h1, h2⟩ := r.ob n x hx
      exact ⟨b, o, he _ _ h1, (h2.block (hb.block b (r.dom n _ h1).2)).ext he⟩
  · rw [effH_alloc_get hf] at hx
    unfold Names.with at hp hm
    by_cases hq : n = nm
    · subst hq; rw [if_pos rfl] at hp; cases hp
      by_cases hz : m = n
      · exact hz
      · rw [if_neg hz] at hm; have := (r.dom m p hm).2; omega
    · rw [if_neg hq] at hx hp
      by_cases hz : m = nm
      · rw [if_pos hz] at hm; cases hm; have := (r.dom n _ hp).2; simp at hpb; omega
      · rw [if_neg hz] at hm; exact r.sep n l' b o hx hp m p hm hpb
/-- A store into an object of cells. -/
theorem Rel.store {ρ : Names} {W w w' : World} {h : Heap} (r : Rel ρ W h w) {n b : Nat} {l l' : List AV} {L' : List Value} {t : TypeId} (hn : h[n]? = some (some (.cells l))) (hp : ρ n = some (b, 0))
    (hw : w'.heap[b]? = some (.cells L'.toArray t (0, 0))) (ho : ∀ k, k ≠ b → w'.heap[k]? = w.heap[k]?) (hs : w'.heap.size = w.heap.size) (h1 : w'.os = w.os) (h2 : w'.tape = w.tape) (h3 : w'.output = w.output)
    (hl : RL ρ W l' L') : Rel ρ W (effH h 0 (.set n (.cells l'))) w' := by
  have hlen : n < h.length := by rcases Nat.lt_or_ge n h.length with q | q; exact q; simp [List.getElem?_eq_none q] at hn
  have hg : ∀ m, (effH h 0 (.set n (.cells l')))[m]? = if m = n then some (some (.cells l')) else h[m]? := fun m => by
    simp only [effH, List.getElem?_set]
    by_cases hq : n = m
    · subst hq; simp [hlen]
    · simp [hq, Ne.symm hq]
  obtain ⟨b', o', e1, e2⟩ := r.ob n _ hn
  rw [hp] at e1; cases e1
  have hW : W.heap.size ≤ b := e2.1
  refine ⟨r.bel.trans ⟨h1, h2, h3, by omega, fun k hk => ho k (by omega)⟩, fun m p hm => ?_, fun m x hx => ?_, fun m l2 b2 o2 hx hm => ?_⟩
  · obtain ⟨⟨x, h1⟩, h2⟩ := r.dom m p hm
    by_cases hq : m = n
    · exact ⟨⟨_, by rw [hg, if_pos hq]⟩, by omega⟩
    · exact ⟨⟨x, by rw [hg, if_neg hq]; exact h1⟩, by omega⟩
  · rw [hg] at hx
    by_cases hq : m = n
    · subst hq; rw [if_pos rfl] at hx; cases hx
      exact ⟨b, 0, hp, hW, rfl, L', t, hw, hl⟩
    · rw [if_neg hq] at hx
      obtain ⟨b2, o2, g1, g2⟩ := r.ob m x hx
      refine ⟨b2, o2, g1, g2.block (ho b2 fun hbb => hq ?_)⟩
      exact r.sep n l b 0 hn hp m _ g1 hbb
  · rw [hg] at hx
    by_cases hq : m = n
    · subst hq; exact fun m' p' => r.sep m l b2 o2 hn hm m' p'
    · rw [if_neg hq] at hx; exact fun m' p' => r.sep m l2 b2 o2 hx hm m' p'
end Go.Proofs.Ytkongoedgngfhaa.A
namespace Go.Proofs.Ytkongoedgngfhaa.A
open Go Go.RowKit
set_option linter.unusedVariables false
set_option linter.unusedSimpArgs false
variable {P : Program} {ρ : Names} {W w : World} {h : Heap}
theorem isAggT_row {t : TypeId} (hq : isAggT P t = some true) : ∃ d, P.underlying t = some d ∧ d.isRow = true := by
  unfold isAggT at hq
  split at hq <;> simp at hq
  · exact ⟨_, by assumption, rfl⟩
  · exact ⟨_, by assumption, rfl⟩
theorem isAggT_flat {t : TypeId} (hq : isAggT P t = some false) : ∃ d, P.underlying t = some d ∧ d.isRow = false := by
  unfold isAggT at hq
  split at hq <;> simp at hq
  rename_i d h1 h2 h3
  refine ⟨d, h3, ?_⟩
  unfold TypeDesc.isRow
  split
  · exact (h1 _ rfl).elim
  · exact (h2 _ _ rfl).elim
  · rfl
theorem run_isAgg_row {t : TypeId} (hq : isAggT P t = some true) (w : World) : (isAgg t).run P w = .ok true w := by
  obtain ⟨d, h1, h2⟩ := isAggT_row hq
  unfold isAgg
  rw [Sem.run_bind, run_underlying h1 w]
  cases d <;> simp_all
theorem run_isAgg_flat {t : TypeId} (hq : isAggT P t = some false) (w : World) : (isAgg t).run P w = .ok false w := by
  obtain ⟨d, h1, h2⟩ := isAggT_flat hq
  unfold isAgg
  rw [Sem.run_bind, run_underlying h1 w]
  cases d <;> simp_all
theorem run_size {t : TypeId} {n : Nat} (hq : sizeT P t = some n) (w : World) : (sizeOf t).run P w = .ok n w := by
  unfold sizeT at hq
  cases hi : P.info? t with
  | none => simp [hi] at hq
  | some i => simp [hi] at hq; simp [sizeOf, typeInfo, hi, hq]
theorem run_zero {t : TypeId} {z : AV} (hq : zeroT P t = some z) (ρ : Names) (W w : World) : ∃ V, (zeroValue t).run P w = .ok V w ∧ RV ρ W z V := by
  unfold zeroT at hq
  split at hq
  · rename_i i hi
    split at hq
    · rename_i v hv
      exact ⟨v, by simp [zeroValue, typeInfo, hi, hv], ofV_ok ρ W 3 v z hq⟩
    · cases hq
  · cases hq
theorem run_loadVar_flat {t : TypeId} (hq : isAggT P t = some false) {a : Addr} {V : Value} (hc : w.cell? a = some V) : (loadVar t a).run P w = .ok V w := by
  simp [loadVar, run_isAgg_flat hq, hc]
theorem run_loadVar_agg {t : TypeId} (hq : isAggT P t = some true) {b o : Nat} {cs : List Value} (hs : sizeT P t = some cs.length) (hc : w.rangeAt b o cs) : (loadVar t ⟨b, o, none⟩).run P w = .ok (.agg cs.toArray) w := by
  obtain ⟨d, h1, h2⟩ := isAggT_row hq
  exact run_loadVar_mid w b o t cs d hc h1 h2 hs
theorem evAll_ok {e : Operand → Option AV} {a : Act} (he : ∀ x v, e x = some v → RV ρ W v (a.eval x)) : ∀ (l : List Operand) (vs : List AV), evAll e l = some vs → RL ρ W vs (l.map a.eval)
  | [], vs, hq => by simp [evAll] at hq; subst hq; exact .nil
  | x :: l, vs, hq => by
    simp only [evAll] at hq
    split at hq
    · rename_i v us h1 h2
      simp at hq; subst hq
      exact .cons (he _ _ h1) (evAll_ok he l us h2)
    · cases hq
/-- Parts of a struct, each for its own. -/
inductive RP (ρ : Names) (W : World) : List (Nat × AV) → List (Nat × Value) → Prop
  | nil : RP ρ W [] []
  | cons {i : Nat} {v : AV} {V : Value} {l : List (Nat × AV)} {L : List (Nat × Value)} (h : RV ρ W v V) (t : RP ρ W l L) : RP ρ W ((i, v) :: l) ((i, V) :: L)
theorem evParts_ok {e : Operand → Option AV} {a : Act} (he : ∀ x v, e x = some v → RV ρ W v (a.eval x)) : ∀ (l : List (Nat × Operand)) (vs : List (Nat × AV)), evParts e l = some vs → RP ρ W vs (l.map fun (i, x) => (i, a.eval x))
  | [], vs, hq => by simp [evParts] at hq; subst hq; exact .nil
  | (i, x) :: l, vs, hq => by
    simp only [evParts] at hq
    split at hq
    · rename_i v us h1 h2
      simp at hq; subst hq
      exact .cons (he _ _ h1) (evParts_ok he l us h2)
    · cases hq
theorem cellsAt_ok {l c : List AV} {L : List Value} {j n : Nat} (hl : RL ρ W l L) (hq : cellsAt l j n = some c) : RL ρ W c ((L.drop j).take n) ∧ ((L.drop j).take n).length = n := by
  unfold cellsAt at hq
  split at hq
  · rename_i hlt
    simp at hq; subst hq
    have := hl.length
    exact ⟨(hl.drop j).take n, by simp; omega⟩
  · cases hq
theorem rangeAt_part {b o j n : Nat} {L : List Value} (hc : ∀ x v, L[x]? = some v → w.cell? ⟨b, o + x, none⟩ = some v) : w.rangeAt b (o + j) ((L.drop j).take n) := by
  intro x v hx
  rw [List.getElem?_take] at hx
  split at hx
  · rw [List.getElem?_drop] at hx
    have := hc _ _ hx
    rwa [← Nat.add_assoc] at this
  · cases hx
theorem upTo_length : ∀ (n a : Nat), (upTo a n).length = n
  | 0, _ => rfl
  | n + 1, a => by simp [upTo, upTo_length n (a + 1)]
theorem upTo_get : ∀ (n a k : Nat), (upTo a n)[k]? = if k < n then some (a + k) else none
  | 0, a, k => by simp [upTo]
  | n + 1, a, 0 => by simp [upTo]
  | n + 1, a, k + 1 => by
    simp only [upTo, List.getElem?_cons_succ, upTo_get n (a + 1) k, Nat.add_lt_add_iff_right]
    split
    · congr 1; omega
    · rfl
theorem upTo_mem {n a k : Nat} : k ∈ upTo a n ↔ a ≤ k ∧ k < a + n := by
  rw [List.mem_iff_getElem?]
  constructor
  · rintro ⟨i, hi⟩
    rw [upTo_get] at hi
    split at hi
    · simp at hi; omega
    · cases hi
  · rintro ⟨h1, h2⟩
    exact ⟨k - a, by rw [upTo_get, if_pos (by omega)]; congr 1; omega⟩
theorem loadA_ok (hR : Rel ρ W h w) {rd : Nat → Option Ob} (hrd : ∀ n x, rd n = some x → h[n]? = some (some x)) {t : TypeId} {x v : AV} {X : Value} (hx : RV ρ W x X)
    (hq : loadA P rd t x = some (true, v)) : ∃ V, (Instr.loadAt t X).run P w = .ok V w ∧ RV ρ W v V := by
  unfold loadA at hq
  split at hq
  case h_2 => cases hq
  rename_i ag n hag hsz
  split at hq
  case h_3 => cases hq
  case h_1 m i s j =>
    cases hx with
    | ptr i s j hp =>
    rename_i b o
    split at hq
    case h_3 => cases hq
    case h_1 l hl =>
      obtain ⟨b', o', h1, h2⟩ := hR.ob m _ (hrd _ _ hl)
      rw [hp] at h1; cases h1
      obtain ⟨_, h3, L, tt, h4, h5⟩ := h2
      subst h3
      have hc : ∀ x v, L[x]? = some v → w.cell? ⟨b, 0 + x, none⟩ = some v := fun x v hv => by simp [World.cell?, h4, hv]
      cases ag with
      | true =>
        simp only [if_true, Option.map_eq_some_iff, Prod.mk.injEq, true_and] at hq
        obtain ⟨c, hc1, rfl⟩ := hq
        obtain ⟨g1, g2⟩ := cellsAt_ok h5 hc1
        refine ⟨_, ?_, .agg g1⟩
        simp only [Instr.loadAt, Instr.sureAddr, Sem.run_bind, Sem.run_pure, Result.andThen_ok]
        exact run_loadVar_agg hag (by rw [g2]; exact hsz) (rangeAt_part hc)
      | false =>
        simp only [Bool.false_eq_true, if_false, Option.map_eq_some_iff, Prod.mk.injEq, true_and] at hq
        obtain ⟨c, hc1, rfl⟩ := hq
        obtain ⟨V, g1, g2⟩ := h5.get _ _ hc1
        refine ⟨V, ?_, g2⟩
        simp only [Instr.loadAt, Instr.sureAddr, Sem.run_bind, Sem.run_pure, Result.andThen_ok]
        exact run_loadVar_flat hag (hc _ _ g1)
    case h_2 s' len c hl =>
      obtain ⟨b', o', h1, h2⟩ := hR.ob m _ (hrd _ _ hl)
      rw [hp] at h1; cases h1
      obtain ⟨V, h3, h4⟩ := h2
      split at hq
      case isFalse => cases hq
      rename_i hs
      subst hs
      cases ag with
      | true =>
        simp only [if_true] at hq
        split at hq
        case isFalse => cases hq
        rename_i hjn
        simp only [Option.some.injEq, Prod.mk.injEq, decide_eq_true_eq] at hq
        obtain ⟨hi, rfl⟩ := hq
        refine ⟨.agg ((upTo j n).map (V i)).toArray, ?_, .agg (RL.map _ _ _ fun k hk => ?_)⟩
        · simp only [Instr.loadAt, Instr.sureAddr, Sem.run_bind, Sem.run_pure, Result.andThen_ok]
          refine run_loadVar_agg hag (by simpa [upTo_length] using hsz) fun k u hk => ?_
          rw [List.getElem?_map, upTo_get] at hk
          split at hk
          · simp at hk; subst hk
            have := h3 i (j + k) hi (by omega)
            rw [show o + (i * s + j) + k = o + (i * s + (j + k)) by omega]; exact this
          · simp at hk
        · rw [upTo_mem] at hk
          exact (h4 i k hi (by omega)).ext (Ext.none ρ)
      | false =>
        simp only [Bool.false_eq_true, if_false] at hq
        split at hq
        case isFalse => cases hq
        rename_i hj
        simp only [Option.some.injEq, Prod.mk.injEq, decide_eq_true_eq] at hq
        obtain ⟨hi, rfl⟩ := hq
        refine ⟨V i j, ?_, (h4 i j hi hj).ext (Ext.none ρ)⟩
        simp only [Instr.loadAt, Instr.sureAddr, Sem.run_bind, Sem.run_pure, Result.andThen_ok]
        exact run_loadVar_flat hag (h3 i j hi hj)
  case h_2 l j =>
    cases hx with
    | cp j hb hl hc0 =>
    rename_i b o L
    have hc : ∀ x v, L[x]? = some v → w.cell? ⟨b, o + x, none⟩ = some v := fun x v hv => ((Keeps.of_below hR.bel).cell hb).trans (hc0 x v hv)
    cases ag with
    | true =>
      simp only [if_true, Option.map_eq_some_iff, Prod.mk.injEq, true_and] at hq
      obtain ⟨c, hc1, rfl⟩ := hq
      obtain ⟨g1, g2⟩ := cellsAt_ok (hl.ext (Ext.none ρ)) hc1
      refine ⟨_, ?_, .agg g1⟩
      simp only [Instr.loadAt, Instr.sureAddr, Sem.run_bind, Sem.run_pure, Result.andThen_ok]
      exact run_loadVar_agg hag (by rw [g2]; exact hsz) (rangeAt_part hc)
    | false =>
      simp only [Bool.false_eq_true, if_false, Option.map_eq_some_iff, Prod.mk.injEq, true_and] at hq
      obtain ⟨c, hc1, rfl⟩ := hq
      obtain ⟨V, g1, g2⟩ := (hl.ext (Ext.none ρ)).get _ _ hc1
      refine ⟨V, ?_, g2⟩
      simp only [Instr.loadAt, Instr.sureAddr, Sem.run_bind, Sem.run_pure, Result.andThen_ok]
      exact run_loadVar_flat hag (hc _ _ g1)
theorem setAtV_nil (l : List Value) (j : Nat) : setAtV l j [] = l := by cases l <;> rfl
theorem setAtV_cons (l : List Value) (j : Nat) (v : Value) (vs : List Value) : setAtV l j (v :: vs) = setAtV (l.set j v) (j + 1) vs := by cases l <;> rfl
/-- Cells of one block, stored one behind the other. -/
theorem run_storeCells (b : Nat) (t : TypeId) : ∀ (vs : List Value) (k i : Nat) (L : List Value) (w : World), w.heap[b]? = some (.cells L.toArray t (0, 0)) → k + i + vs.length ≤ L.length → (∀ v ∈ vs, v.oneCell' = true) →
    ∃ w', (storeCells ⟨b, k, none⟩ vs i).run P w = .ok () w' ∧ w'.heap[b]? = some (.cells (setAtV L (k + i) vs).toArray t (0, 0)) ∧ (∀ q, q ≠ b → w'.heap[q]? = w.heap[q]?) ∧ w'.heap.size = w.heap.size ∧ w'.os = w.os ∧ w'.tape = w.tape ∧ w'.output = w.output
  | [], k, i, L, w, hb, _, _ => ⟨w, by simp [storeCells], by rw [setAtV_nil]; exact hb, fun _ _ => rfl, rfl, rfl, rfl, rfl⟩
  | v :: vs, k, i, L, w, hb, hl, h1 => by
    have hadd : (⟨b, k, none⟩ : Addr).add i = ⟨b, k + i, none⟩ := Addr.add_mid b k i
    simp only [List.length_cons] at hl
    have hlt : k + i < L.length := by omega
    have hc : w.cell? ⟨b, k + i, none⟩ = some L[k + i] := by simp [World.cell?, hb, hlt]
    have hf : w.frozen? ⟨b, k + i, none⟩ = false := by simp [World.frozen?, hb]
    have hs : (store ⟨b, k + i, none⟩ v).run P w = .ok () (w.setCell ⟨b, k + i, none⟩ v) := by
      rw [run_store P w _ v _ (h1 v (by simp)), hc]; simp [hf]
    have hb' : (w.setCell ⟨b, k + i, none⟩ v).heap[b]? = some (.cells (L.set (k + i) v).toArray t (0, 0)) := by
      simp only [World.setCell, Array.getElem?_modify]
      simp [hb]
    obtain ⟨w', g1, g2, g3, g4, g5, g6, g7⟩ := run_storeCells b t vs k (i + 1) (L.set (k + i) v) (w.setCell ⟨b, k + i, none⟩ v) hb' (by simp; omega) (fun u hu => h1 u (by simp [hu]))
    refine ⟨w', ?_, ?_, fun q hq => ?_, ?_, g5, g6, g7⟩
    · simp only [storeCells, Sem.run_bind, hadd, hs, Result.andThen_ok]; exact g1
    · rw [setAtV_cons]; rw [show k + i + 1 = k + (i + 1) by omega]; exact g2
    · rw [g3 q hq]; exact Below.heap_setCell _ _ _ _ hq
    · rw [g4]; simp
theorem storeA_ok (hR : Rel ρ W h w) {rd : Nat → Option Ob} (hrd : ∀ n x, rd n = some x → h[n]? = some (some x)) {t : TypeId} {x y : AV} {X Y : Value} (hx : RV ρ W x X) (hy : RV ρ W y Y) {n : Nat} {ob : Ob}
    (hq : storeA P rd t x y = some (n, ob)) : ∃ w', (Instr.storeAt t X Y).run P w = .ok () w' ∧ Rel ρ W (effH h 0 (.set n ob)) w' := by
  unfold storeA at hq
  split at hq
  case h_2 => cases hq
  rename_i k m i s j hsz
  cases hx with
  | ptr i s j hp =>
  rename_i b o
  split at hq
  case h_2 => cases hq
  rename_i l hl
  split at hq
  case isFalse => cases hq
  rename_i hcond
  obtain ⟨c1, c2, c3⟩ := hcond
  simp only [Option.some.injEq, Prod.mk.injEq] at hq
  obtain ⟨rfl, rfl⟩ := hq
  have hm := hrd _ _ hl
  obtain ⟨b', o', h1, h2⟩ := hR.ob m _ hm
  rw [hp] at h1; cases h1
  obtain ⟨_, h3, L, tt, h4, h5⟩ := h2
  subst h3
  have hcl := hy.cells
  have e1 := hcl.length
  have e2 := h5.length
  have hone := hcl.one c3
  obtain ⟨w', g1, g2, g3, g4, g5, g6, g7⟩ := run_storeCells (P := P) b tt Y.cells.toList (0 + (i * s + j)) 0 L w h4 (by omega) hone
  refine ⟨w', ?_, hR.store hm hp g2 g3 g4 g5 g6 g7 ?_⟩
  · have hsize : Y.cells.size = k := by have : Y.cells.toList.length = k := by omega
                                        simpa using this
    simp only [Instr.storeAt, Instr.sureAddr, Sem.run_bind, Sem.run_pure, Result.andThen_ok, storeVar, run_size hsz]
    rw [if_neg (by simp [hsize])]
    exact g1
  · simpa using RL.setAt hcl (i * s + j) h5
end Go.Proofs.Ytkongoedgngfhaa.A
namespace Go.Proofs.Ytkongoedgngfhaa.A
open Go Go.RowKit
set_option linter.unusedVariables false
set_option linter.unusedSimpArgs false
variable {P : Program} {ρ : Names} {W w : World} {h : Heap}
theorem aite_ok {q : Bool} {x y : AV} {X Y : Value} (hx : RV ρ W x X) (hy : RV ρ W y Y) : RV ρ W (aite q x y) (if q then X else Y) := by
  cases q
  · unfold aite
    cases hx <;> cases hy <;> simp <;> (try split) <;> first | (constructor <;> assumption) | (subst_vars; constructor; done) | skip
  · unfold aite
    cases hx <;> cases hy <;> simp <;> (try split) <;> first | (constructor <;> assumption) | (subst_vars; constructor; done) | skip
theorem part_ok {t : TypeId} {l : List AV} {L : List Value} {off : Nat} {v : AV} (hl : RL ρ W l L) (hq : partA P t l off = some v) (w : World) : ∃ V, (part t L.toArray off).run P w = .ok V w ∧ RV ρ W v V := by
  unfold partA at hq
  split at hq
  · rename_i n h1 h2
    split at hq
    · simp at hq; subst hq
      refine ⟨.agg ((L.take (off + n)).drop off).toArray, ?_, .agg ((hl.take _).drop _)⟩
      simp [part, run_isAgg_row h1, run_size h2, List.extract_eq_take_drop]
      rw [List.drop_take, Nat.add_sub_cancel_left]
    · cases hq
  · rename_i n h1 h2
    obtain ⟨V, g1, g2⟩ := hl.get _ _ hq
    exact ⟨V, by simp [part, run_isAgg_flat h1, g1], g2⟩
  · cases hq
theorem eqFs_ok {f : TypeId → AV → AV → Option Bool} {d : Nat}
    (hf : ∀ t x y b X Y, f t x y = some b → RV ρ W x X → RV ρ W y Y → ∀ w, (Op.equalIn d t X Y).run P w = .ok b w) {xs ys : List AV} {Xs Ys : List Value} (hx : RL ρ W xs Xs) (hy : RL ρ W ys Ys) :
    ∀ (fs : List Field) (b : Bool), eqFs f P xs ys fs = some b → ∀ w, (Op.eqFields d Xs.toArray Ys.toArray fs).run P w = .ok b w
  | [], b, hq, w => by simp [eqFs] at hq; subst hq; simp [Op.eqFields]
  | fd :: fs, b, hq, w => by
    simp only [eqFs] at hq
    simp only [Op.eqFields]
    split at hq
    case isFalse hn => rw [if_neg hn]; exact eqFs_ok hf hx hy fs b hq w
    case isTrue hn =>
      rw [if_pos hn]
      have key : ∀ x y, partA P fd.type xs fd.offset = some x → partA P fd.type ys fd.offset = some y → ∀ b1 r, f fd.type x y = some b1 → eqFs f P xs ys fs = some r → b = (b1 && r) →
          ((do let a ← part fd.type Xs.toArray fd.offset; let b ← part fd.type Ys.toArray fd.offset; let r ← Op.equalIn d fd.type a b; if (!r) = true then pure false else Op.eqFields d Xs.toArray Ys.toArray fs) : Sem Bool).run P w = .ok b w := by
        intro x y h1 h2 b1 r h3 h4 h5
        obtain ⟨X, g1, g2⟩ := part_ok hx h1 w
        obtain ⟨Y, g3, g4⟩ := part_ok hy h2 w
        simp only [Sem.run_bind, g1, g3, Result.andThen_ok, hf _ _ _ _ _ _ h3 g2 g4 w]
        cases b1
        · simp [h5]
        · simpa [h5] using eqFs_ok hf hx hy fs r h4 w
      split at hq
      · rename_i n h1 h2
        split at hq
        · rename_i b1 r h3 h4
          simp at hq
          by_cases hlx : fd.offset + n ≤ xs.length ∧ fd.offset + n ≤ ys.length
          · exact key _ _ (by simp only [partA, h1, h2]; rw [if_pos hlx.1]) (by simp only [partA, h1, h2]; rw [if_pos hlx.2]) b1 r h3 h4 hq.symm
          · -- the parts of too short lists: the model takes what is there, as here
            have hp : ∀ {zs : List AV} {Zs : List Value}, RL ρ W zs Zs → (part fd.type Zs.toArray fd.offset).run P w = .ok (.agg ((Zs.take (fd.offset + n)).drop fd.offset).toArray) w := fun _ => by
              simp [part, run_isAgg_row h1, run_size h2, List.extract_eq_take_drop]
              rw [List.drop_take, Nat.add_sub_cancel_left]
            simp only [Sem.run_bind, hp hx, hp hy, Result.andThen_ok, hf _ _ _ _ _ _ h3 (.agg ((hx.take _).drop _)) (.agg ((hy.take _).drop _)) w]
            cases b1
            · simp [← hq]
            · simpa [← hq] using eqFs_ok hf hx hy fs r h4 w
        · cases hq
      · rename_i n h1 h2
        split at hq
        · rename_i x y h3 h4
          split at hq
          · rename_i b1 r h5 h6
            simp at hq
            exact key x y (by simp only [partA, h1, h2]; exact h3) (by simp only [partA, h1, h2]; exact h4) b1 r h5 h6 hq.symm
          · cases hq
        · cases hq
      · cases hq
theorem eqEs_ok {f : TypeId → AV → AV → Option Bool} {d : Nat}
    (hf : ∀ t x y b X Y, f t x y = some b → RV ρ W x X → RV ρ W y Y → ∀ w, (Op.equalIn d t X Y).run P w = .ok b w) {xs ys : List AV} {Xs Ys : List Value} (hx : RL ρ W xs Xs) (hy : RL ρ W ys Ys) {e : TypeId} {c : Nat} :
    ∀ (is : List Nat) (b : Bool), eqEs f P e c xs ys is = some b → ∀ w, (Op.eqItems d e c Xs.toArray Ys.toArray is).run P w = .ok b w
  | [], b, hq, w => by simp [eqEs] at hq; subst hq; simp [Op.eqItems]
  | i :: is, b, hq, w => by
    simp only [eqEs] at hq
    split at hq
    · rename_i x y h1 h2
      split at hq
      · rename_i b1 r h3 h4
        simp at hq
        obtain ⟨X, g1, g2⟩ := part_ok hx h1 w
        obtain ⟨Y, g3, g4⟩ := part_ok hy h2 w
        simp only [Op.eqItems, Sem.run_bind, g1, g3, Result.andThen_ok, hf _ _ _ _ _ _ h3 g2 g4 w]
        cases b1
        · simp [← hq]
        · simpa [← hq] using eqEs_ok hf hx hy is r h4 w
      · cases hq
    · cases hq
theorem fieldsOf_eq {t : TypeId} {fs : Array Field} (hu : P.underlying t = some (.struct fs)) : P.fieldsOf t = fs := by simp [Program.fieldsOf, hu]
theorem eqT_ok : ∀ (m d : Nat) (t : TypeId) (x y : AV) (b : Bool) (X Y : Value), eqT P m t x y = some b → RV ρ W x X → RV ρ W y Y → ∀ w, (Op.equalIn (d + m) t X Y).run P w = .ok b w := by
  intro m
  induction m with
  | zero => intro d t x y b X Y hq; simp [eqT] at hq
  | succ m ih =>
    intro d t x y b X Y hq hx hy w
    simp only [eqT] at hq
    rw [← Nat.add_assoc]
    split at hq
    · rename_i hu; cases hx; cases hy; simp at hq; subst hq; exact run_equalIn_bool' w _ t _ _ hu
    · rename_i hu; cases hx; cases hy
      split at hq
      · rename_i hk; subst hk; simp at hq; subst hq; exact run_equalIn_int w _ t _ _ _ _ hu
      · cases hq
    · rename_i hu; cases hx; cases hy; simp at hq; subst hq; exact run_equalIn_string w _ t _ _ hu
    · rename_i fs xs ys hu
      split at hq
      · cases hq
      · rename_i hst
        cases hx with | agg hx =>
        cases hy with | agg hy =>
        rw [run_equalIn_struct w (d + m) t _ _ (by rw [fieldsOf_eq hu]; exact hu) (by simpa using hst), fieldsOf_eq hu]
        exact eqFs_ok (fun t x y b X Y hq hx hy w => ih d t x y b X Y hq hx hy w) hx hy _ _ hq w
    · rename_i n e xs ys hu
      split at hq
      · rename_i c hc
        cases hx with | agg hx =>
        cases hy with | agg hy =>
        unfold sizeT at hc
        cases hi : P.info? e with
        | none => simp [hi] at hc
        | some i =>
          simp [hi] at hc
          rw [run_equalIn_array w (d + m) _ _ hu hi, show P.cellsOf e = c by simp [Program.cellsOf, hi, hc]]
          exact eqEs_ok (fun t x y b X Y hq hx hy w => ih d t x y b X Y hq hx hy w) hx hy _ _ hq w
      · cases hq
    · cases hq
theorem eqGuard_flat (op : BinOp) (t : TypeId) (x y : Operand) {X Y : Value} (hX : X ≠ .nilIface) (hX2 : ∀ c, X ≠ .agg c) (w : World) : (eqGuard op t x y X Y).run P w = .ok () w := by
  unfold eqGuard
  cases op <;> simp <;> cases X <;> simp_all
theorem binA_ok {op : BinOp} {t : TypeId} {ox oy : Operand} {x y : AV} {X Y : Value} {v : AV} (hx : RV ρ W x X) (hy : RV ρ W y Y) (hq : binA P op t x y = some (true, v)) (w : World) :
    ∃ V, ((do eqGuard op t ox oy X Y; binOp op t X Y) : Sem Value).run P w = .ok V w ∧ RV ρ W v V := by
  unfold binA at hq
  split at hq
  · rename_i k a k' b
    cases hx; cases hy
    have hg := eqGuard_flat (P := P) op t ox oy (X := .int k a) (Y := .int k' b) (by simp) (by simp) w
    simp only [Sem.run_bind, hg, Result.andThen_ok]
    split at hq
    · simp [intShift] at hq
      obtain ⟨h0, rfl⟩ := hq
      exact ⟨_, by simp only [binOp, Op.shift]; rw [if_neg (by omega)]; rfl, by constructor⟩
    · simp [intShift] at hq
      obtain ⟨h0, rfl⟩ := hq
      exact ⟨_, by simp only [binOp, Op.shift]; rw [if_neg (by omega)]; rfl, by constructor⟩
    · rename_i n1 n2
      split at hq
      · rename_i hk
        subst hk
        have hb : binOp op t (.int k a) (.int k b) = (match op with
            | .add | .sub | .mul => Op.intArith op k a b
            | .quo | .rem => Op.intDiv op k a b
            | .and | .or | .xor | .andNot => Op.intBits op k a b
            | _ => Op.intCmp op a b) := by
          cases op <;> first | exact (n1 rfl).elim | exact (n2 rfl).elim | simp [binOp]
        rw [hb]
        cases op <;> simp [intBin] at hq <;> first
          | (subst hq; exact ⟨_, rfl, by constructor⟩)
          | (obtain ⟨h0, rfl⟩ := hq; exact ⟨_, by simp only [Op.intDiv]; rw [if_neg h0]; rfl, by constructor⟩)
      · cases hq
  · rename_i a b
    cases hx; cases hy
    have hg := eqGuard_flat (P := P) op t ox oy (X := .string a) (Y := .string b) (by simp) (by simp) w
    simp only [Sem.run_bind, hg, Result.andThen_ok]
    cases op <;> simp [strBin] at hq <;> first
      | (subst hq; exact ⟨_, rfl, by constructor⟩)
      | (obtain ⟨h0, rfl⟩ := hq
         refine ⟨.string (a ++ b), ?_, by constructor⟩
         simp only [binOp, Op.stringOp]
         rw [if_neg (by have : ((a.size + b.size : Nat) : Int) ≤ IntKind.i64.max := by simpa using h0
                        omega)]
         rfl)
  · rename_i a b
    have h2 := hq
    cases hx; cases hy
    have hg := eqGuard_flat (P := P) op t ox oy (X := .bool a) (Y := .bool b) (by simp) (by simp) w
    simp only [Sem.run_bind, hg, Result.andThen_ok]
    cases op <;> simp only [reduceCtorEq] at hq <;> simp only [Option.map_eq_some_iff, Prod.mk.injEq, true_and] at hq
    · obtain ⟨r, hr, rfl⟩ := hq
      have := eqT_ok (ρ := ρ) (W := W) 1 9999 t _ _ r _ _ hr (.bool a) (.bool b) w
      exact ⟨.bool r, by simp [binOp, Op.equal, Op.maxDepth, this], by constructor⟩
    · obtain ⟨r, hr, rfl⟩ := hq
      have := eqT_ok (ρ := ρ) (W := W) 1 9999 t _ _ r _ _ hr (.bool a) (.bool b) w
      exact ⟨.bool (!r), by simp [binOp, Op.equal, Op.maxDepth, this], by constructor⟩
  · rename_i a b
    split at hq
    · cases hq
    · rename_i hgt
      have hgt' : P.eqGuardType P.depth t = false := by simpa using hgt
      cases hx with | agg hx =>
      cases hy with | agg hy =>
      rename_i A B
      have hg := run_eqGuard_agg (P := P) w op t ox oy A.toArray B.toArray hgt'
      simp only [Sem.run_bind, hg, Result.andThen_ok]
      cases op <;> simp only [reduceCtorEq] at hq <;> simp only [Option.map_eq_some_iff, Prod.mk.injEq, true_and] at hq
      · obtain ⟨r, hr, rfl⟩ := hq
        have := eqT_ok 4 9996 t _ _ r _ _ hr (.agg hx) (.agg hy) w
        exact ⟨.bool r, by simp only [run_eql_struct]; rw [show (10000 : Nat) = 9996 + 4 from rfl, this]; rfl, by constructor⟩
      · obtain ⟨r, hr, rfl⟩ := hq
        have := eqT_ok 4 9996 t _ _ r _ _ hr (.agg hx) (.agg hy) w
        exact ⟨.bool (!r), by simp only [run_neq_struct]; rw [show (10000 : Nat) = 9996 + 4 from rfl, this]; rfl, by constructor⟩
  · cases hq
theorem unA_ok {op : UnOp} {x v : AV} {X : Value} (hx : RV ρ W x X) (hq : unA op x = some v) (w : World) : ∃ V, (Op.unary op X).run P w = .ok V w ∧ RV ρ W v V := by
  unfold unA at hq
  split at hq <;> simp only [Option.some.injEq, reduceCtorEq] at hq
  all_goals (subst hq; cases hx; first | exact ⟨_, rfl, .int _ _⟩ | exact ⟨_, rfl, .bool _⟩)
theorem convA_ok {s d : TypeId} {x v : AV} {X : Value} (hx : RV ρ W x X) (hq : convA P s d x = some v) (w : World) : ∃ V, (convert s d X).run P w = .ok V w ∧ RV ρ W v V := by
  unfold convA at hq
  split at hq <;> simp at hq
  · rename_i h1 h2
    subst hq; cases hx
    exact ⟨_, by simp [convert, run_underlying h1, run_underlying h2, Conv.intToInt]; rfl, by constructor⟩
  · rename_i h1 h2
    subst hq; cases hx
    exact ⟨_, by simp [convert, run_underlying h1, run_underlying h2]; rfl, by constructor⟩
theorem fieldOf_ok {t : TypeId} {f : Nat} {fd : Field} (hq : fieldOf P t f = some fd) : ∃ fs, P.underlying t = some (.struct fs) ∧ fs[f]? = some fd := by
  unfold fieldOf at hq
  split at hq
  · exact ⟨_, by assumption, hq⟩
  · cases hq
theorem fieldAddrA_ok {t : TypeId} {f : Nat} {x v : AV} {X : Value} (hx : RV ρ W x X) (hq : fieldAddrA P t x f = some v) (w : World) : ∃ V, (Instr.fieldAt t X f).run P w = .ok V w ∧ RV ρ W v V := by
  unfold fieldAddrA at hq
  split at hq
  case h_2 => cases hq
  rename_i fd hfd
  obtain ⟨fs, h1, h2⟩ := fieldOf_ok hfd
  split at hq
  case h_1 => cases hq
  case h_3 => cases hq
  rename_i n hne hsz
  have hn0 : n ≠ 0 := fun e => hne (by rw [e])
  split at hq <;> simp at hq
  · subst hq
    cases hx with | ptr i s j hp =>
    rename_i b o
    refine ⟨_, ?_, .ptr _ _ _ hp⟩
    simp [Instr.fieldAt, run_underlying h1, h2, Instr.sureAddr, fieldPlace, run_size hsz, hn0, Addr.add_mid]
  · subst hq
    cases hx with | cp j hb hl hc =>
    rename_i b o L
    refine ⟨_, ?_, .cp _ hb hl hc⟩
    simp [Instr.fieldAt, run_underlying h1, h2, Instr.sureAddr, fieldPlace, run_size hsz, hn0, Addr.add_mid]
theorem field_ok {t : TypeId} {f : Nat} {fd : Field} {l : List AV} {L : List Value} {v : AV} (hl : RL ρ W l L) (h1 : fieldOf P t f = some fd) (hq : partA P fd.type l fd.offset = some v) (w : World) :
    ∃ V, (Instr.field t (.agg L.toArray) f).run P w = .ok V w ∧ RV ρ W v V := by
  obtain ⟨fs, g1, g2⟩ := fieldOf_ok h1
  obtain ⟨V, g3, g4⟩ := part_ok hl hq w
  exact ⟨V, by simp [Instr.field, run_underlying g1, g2, asAgg, g3], g4⟩
theorem indexAddrA_ok (hR : Rel ρ W h w) {t : TypeId} {x ix v : AV} {X I : Value} (hx : RV ρ W x X) (hi : RV ρ W ix I) (hq : indexAddrA P t x ix = some (true, v)) : ∃ V, (Instr.indexAt t X I).run P w = .ok V w ∧ RV ρ W v V := by
  unfold indexAddrA at hq
  split at hq
  · rename_i len e n j kk k hu
    cases hi
    split at hq
    case h_2 => cases hq
    rename_i s hsz
    simp at hq
    obtain ⟨⟨h1, h2⟩, rfl⟩ := hq
    cases hx with | ptr i s' j hp =>
    rename_i b o
    refine ⟨.pointer (some ⟨b, o + (k.toNat * s + j), none⟩), ?_, .ptr _ _ _ hp⟩
    simp [Instr.indexAt, run_underlying hu, asIntOf, Instr.sureAddr, h1, h2, run_size hsz, Addr.add_mid]
  · rename_i e n i s len kk k hu
    cases hi
    split at hq
    case h_2 => cases hq
    rename_i s' hsz
    split at hq
    case isFalse => cases hq
    rename_i hs; subst hs
    simp at hq
    obtain ⟨⟨h1, h2⟩, rfl⟩ := hq
    cases hx with | sl i s len cap off hp hl ho =>
    rename_i b o
    have hoff : off = o + i * s := by rcases ho with ho | ho; omega; exact ho
    subst hoff
    refine ⟨.pointer (some ⟨b, o + ((i + k.toNat) * s + 0), none⟩), ?_, .ptr _ _ _ hp⟩
    simp [Instr.indexAt, run_underlying hu, asIntOf, h1, h2, run_size hsz, Addr.add_mid, Nat.add_mul]
  · rename_i e s len c kk k hu
    cases hi
    split at hq
    case h_2 => cases hq
    rename_i s' hsz
    split at hq
    case isFalse => cases hq
    rename_i hs; subst hs
    simp at hq
    obtain ⟨⟨h1, h2⟩, rfl⟩ := hq
    cases hx with | csl s len cap c V hb hl hc hr =>
    rename_i b o
    have hk : k.toNat < len := by omega
    have := RV.cp (ρ := ρ) (W := W) (b := b) (o := o + k.toNat * s) (l := (upTo 0 s).map (c k.toNat)) (L := (upTo 0 s).map (V k.toNat)) 0 hb
      (RL.map _ _ _ fun j hj => hr _ _ hk (by rw [upTo_mem] at hj; omega))
      (fun x u hx => by
        rw [List.getElem?_map, upTo_get] at hx
        split at hx
        · rename_i hlt
          simp at hx; subst hx
          rw [Nat.add_assoc]; exact hc _ _ hk hlt
        · simp at hx)
    refine ⟨_, ?_, this⟩
    simp [Instr.indexAt, run_underlying hu, asIntOf, h1, h2, run_size hsz, Addr.add_mid]
  · cases hq
theorem indexA_ok {t : TypeId} {x ix v : AV} {X I : Value} (hx : RV ρ W x X) (hi : RV ρ W ix I) (hq : indexA P t x ix = some (true, v)) (w : World) : ∃ V, (Instr.index t X I).run P w = .ok V w ∧ RV ρ W v V := by
  unfold indexA at hq
  split at hq
  · rename_i len e l kk k hu
    cases hi
    split at hq
    case h_2 => cases hq
    rename_i s hsz
    split at hq
    case h_2 => cases hq
    rename_i u hp
    simp at hq
    obtain ⟨⟨h1, h2⟩, rfl⟩ := hq
    cases hx with | agg hx =>
    obtain ⟨V, g1, g2⟩ := part_ok hx hp w
    exact ⟨V, by simp [Instr.index, run_underlying hu, asIntOf, h1, h2, run_size hsz, g1], g2⟩
  · rename_i s kk k hu
    cases hi; cases hx
    simp at hq
    obtain ⟨⟨h1, h2⟩, rfl⟩ := hq
    have hlt : k.toNat < s.size := by omega
    have hlt' : k.toNat < s.data.size := hlt
    refine ⟨_, ?_, .int _ _⟩
    simp only [Instr.index, Sem.run_bind, run_underlying hu, asIntOf, Sem.run_pure, Result.andThen_ok]
    rw [if_pos h1]
    have e1 : s[k.toNat]? = some (s.data[k.toNat]'hlt') := getElem?_pos s _ hlt
    have e2 : s.data[k.toNat]?.getD 0 = s.data[k.toNat]'hlt' := by rw [getElem?_pos s.data k.toNat hlt']; rfl
    rw [e1, e2]
    rfl
  · cases hq
theorem extract_ok {l : List AV} {L : List Value} {i : Nat} {v : AV} (hl : RL ρ W l L) (hq : l[i]? = some v) (w : World) : ∃ V, (Instr.extract (.tuple L.toArray) i).run P w = .ok V w ∧ RV ρ W v V := by
  obtain ⟨V, g1, g2⟩ := hl.get _ _ hq
  exact ⟨V, by simp [Instr.extract, g1], g2⟩
theorem lenA_ok {ts : Array TypeId} {ty t : TypeId} {x v : AV} {X : Value} (ht : ts[0]? = some t) (hx : RV ρ W x X) (hq : lenA P t x = some v) (w : World) : ∃ V, (Builtin.len_ ts ty #[X]).run P w = .ok V w ∧ RV ρ W v V := by
  unfold lenA at hq
  split at hq <;> simp at hq <;> rename_i hu <;> subst hq
  · cases hx; exact ⟨_, by simp [Builtin.len_, ht, run_underlying hu]; rfl, .int _ _⟩
  · exact ⟨_, by simp [Builtin.len_, ht, run_underlying hu]; rfl, .int _ _⟩
  · cases hx; exact ⟨_, by simp [Builtin.len_, ht, run_underlying hu]; rfl, .int _ _⟩
  · cases hx; exact ⟨_, by simp [Builtin.len_, ht, run_underlying hu]; rfl, .int _ _⟩
  · cases hx; exact ⟨_, by simp [Builtin.len_, ht, run_underlying hu]; rfl, .int _ _⟩
theorem foldA_ok {f : AV → AV → Option AV} {g : Value → Value → Sem Value} (hf : ∀ x y v X Y, f x y = some v → RV ρ W x X → RV ρ W y Y → ∀ w, ∃ V, (g X Y).run P w = .ok V w ∧ RV ρ W v V) :
    ∀ (l : List AV) (L : List Value) (x v : AV) (X : Value), RL ρ W l L → RV ρ W x X → foldA f x l = some v → ∀ w, ∃ V, (L.foldlM g X).run P w = .ok V w ∧ RV ρ W v V
  | _, _, x, v, X, .nil, hx, hq, w => by simp [foldA] at hq; subst hq; exact ⟨X, by simp, hx⟩
  | _, _, x, v, X, .cons hy t, hx, hq, w => by
    simp only [foldA] at hq
    split at hq
    · rename_i z hz
      obtain ⟨Z, g1, g2⟩ := hf _ _ _ _ _ hz hx hy w
      obtain ⟨V, g3, g4⟩ := foldA_ok hf _ _ _ _ _ t g2 hq w
      exact ⟨V, by simp [List.foldlM, g1, g3], g4⟩
    · cases hq
theorem max2A_ok (x y v : AV) (X Y : Value) (hq : max2A x y = some v) (hx : RV ρ W x X) (hy : RV ρ W y Y) (w : World) : ∃ V, (Builtin.max2 X Y).run P w = .ok V w ∧ RV ρ W v V := by
  unfold max2A at hq
  split at hq <;> simp at hq
  subst hq; cases hx; cases hy; exact ⟨_, rfl, .int _ _⟩
theorem min2A_ok (x y v : AV) (X Y : Value) (hq : min2A x y = some v) (hx : RV ρ W x X) (hy : RV ρ W y Y) (w : World) : ∃ V, (Builtin.min2 X Y).run P w = .ok V w ∧ RV ρ W v V := by
  unfold min2A at hq
  split at hq <;> simp at hq
  subst hq; cases hx; cases hy; exact ⟨_, rfl, .int _ _⟩
theorem boundA_ok {x : Option AV} {X : Option Value} (hx : match x, X with | none, none => True | some v, some V => RV ρ W v V | _, _ => False) {d k : Int} (hq : boundA x d = some k) :
    (X = none ∧ k = d) ∨ ∃ kk, X = some (.int kk k) := by
  unfold boundA at hq
  split at hq <;> simp at hq
  · cases X with
    | none => exact .inl ⟨rfl, hq.symm⟩
    | some V => exact hx.elim
  · cases X with
    | none => exact hx.elim
    | some V => cases hx; subst hq; exact .inr ⟨_, rfl⟩
theorem sliceA_ok {t : TypeId} {x v : AV} {X : Value} {lo hi : Option AV} {Lo Hi : Option Value} (hx : RV ρ W x X)
    (hlo : match lo, Lo with | none, none => True | some v, some V => RV ρ W v V | _, _ => False) (hhi : match hi, Hi with | none, none => True | some v, some V => RV ρ W v V | _, _ => False)
    (hq : sliceA P t x lo hi = some (true, v)) (w : World) : ∃ V, (Instr.sliceAt t X Lo Hi none).run P w = .ok V w ∧ RV ρ W v V := by
  unfold sliceA at hq
  split at hq
  · rename_i s hu
    split at hq
    case h_2 => cases hq
    rename_i l k h1 h2
    simp at hq
    obtain ⟨⟨⟨a1, a2⟩, a3⟩, rfl⟩ := hq
    cases hx
    refine ⟨.string (s.extract l.toNat k.toNat), ?_, .str _⟩
    have g1 := boundA_ok hlo h1
    have g2 := boundA_ok hhi h2
    rcases g1 with ⟨rfl, rfl⟩ | ⟨kk, rfl⟩ <;> rcases g2 with ⟨rfl, rfl⟩ | ⟨kk2, rfl⟩ <;>
      simp only [Instr.sliceAt, Instr.slice, run_underlying hu, Instr.sliceBounds, Instr.sliceBound, asIntOf, Sem.run_bind, Sem.run_pure, Result.andThen_ok, Option.isSome_none, Bool.false_eq_true, if_false] <;>
      (try rw [if_pos (by omega)]) <;> (try simp only [Sem.run_pure, Result.andThen_ok]) <;> (try rw [if_pos (by omega)]) <;> (try simp only [Sem.run_pure, Result.andThen_ok]) <;> rfl
  · rename_i e s len c hu
    split at hq
    case h_2 => cases hq
    rename_i l k s' h1 h2 hsz
    split at hq
    case isFalse => cases hq
    rename_i hs; subst hs
    simp at hq
    obtain ⟨⟨⟨a1, a2⟩, a3⟩, rfl⟩ := hq
    cases hx with | csl s len cap c V hb hl hc hr =>
    rename_i b o
    have hnew : RV ρ W (.csl s (k.toNat - l.toNat) (fun i j => c (l.toNat + i) j)) (.slice (some ⟨b, if cap = l.toNat then o else o + l.toNat * s, none⟩) (k.toNat - l.toNat) (cap - l.toNat)) := by
      refine .csl s _ _ _ (fun i j => V (l.toNat + i) j) hb (by omega) (fun i j hi hj => ?_) (fun i j hi hj => hr _ _ (by omega) hj)
      rw [if_neg (by omega)]
      have := hc (l.toNat + i) j (by omega) hj
      rw [show o + l.toNat * s + (i * s + j) = o + ((l.toNat + i) * s + j) by rw [Nat.add_mul]; omega]
      exact this
    refine ⟨_, ?_, hnew⟩
    have hfin : ∀ w, ((do let size ← sizeOf e; pure (.slice (if cap = l.toNat then some ⟨b, o, none⟩ else (some (⟨b, o, none⟩ : Addr)).map (·.add (l.toNat * size))) (k.toNat - l.toNat) (cap - l.toNat))) : Sem Value).run P w = .ok (.slice (some ⟨b, if cap = l.toNat then o else o + l.toNat * s, none⟩) (k.toNat - l.toNat) (cap - l.toNat)) w := fun w => by
      simp only [Sem.run_bind, run_size hsz, Result.andThen_ok, Sem.run_pure]
      split
      · rfl
      · simp only [Option.map_some, Addr.add_mid]
    have g1 := boundA_ok hlo h1
    have g2 := boundA_ok hhi h2
    simp only [Option.map_some] at hfin
    rcases g1 with ⟨rfl, rfl⟩ | ⟨kk, rfl⟩ <;> rcases g2 with ⟨rfl, rfl⟩ | ⟨kk2, rfl⟩ <;>
      simp only [Instr.sliceAt, Instr.slice, run_underlying hu, Instr.sliceBounds, Instr.sliceBound, asIntOf, Sem.run_bind, Sem.run_pure, Result.andThen_ok, Option.map_some] <;>
      (try rw [if_pos (by omega)]) <;> (try simp only [Sem.run_pure, Result.andThen_ok]) <;> (try rw [if_pos (by omega)]) <;> (try simp only [Sem.run_pure, Result.andThen_ok]) <;>
      first | exact hfin w | (simpa using hfin w)
  · cases hq
end Go.Proofs.Ytkongoedgngfhaa.A
namespace Go.Proofs.Ytkongoedgngfhaa.A
open Go Go.RowKit
set_option linter.unusedVariables false
set_option linter.unusedSimpArgs false
variable {P : Program} {ρ : Names} {W w : World} {h : Heap}
theorem foldl_set (off : Nat) : ∀ (l : List Value) (k : Nat) (cs : Array Value), ((l.zipIdx k).foldl (fun cs (c, j) => cs.setIfInBounds (off + j) c) cs).toList = setAtV cs.toList (off + k) l
  | [], k, cs => by simp [setAtV_nil]
  | v :: l, k, cs => by
    simp only [List.zipIdx_cons, List.foldl_cons]
    rw [foldl_set off l (k + 1), setAtV_cons]
    simp [Nat.add_assoc]
theorem fill_ok (place : Nat → Option (Nat × Nat)) : ∀ {l : List (Nat × AV)} {L : List (Nat × Value)}, RP ρ W l L → ∀ {cs : List AV} {Cs : List Value}, RL ρ W cs Cs → ∀ (r : List AV), fillA place cs l = some r → ∃ R, Instr.fill place Cs.toArray L = some (List.toArray R) ∧ RL ρ W r R
  | _, _, .nil, cs, Cs, hc, r, hq => by simp [fillA] at hq; subst hq; exact ⟨Cs, by simp [Instr.fill], hc⟩
  | _, _, .cons (i := i) (v := v) (V := V) hv t, cs, Cs, hc, r, hq => by
    simp only [fillA] at hq
    simp only [Instr.fill]
    split at hq
    · cases hq
    · rename_i off size hp
      split at hq
      · rename_i hcond
        have e1 := hv.cells.length
        have e2 := hc.length
        have e3 : V.cells.toList.length = V.cells.size := by simp
        simp only [hp]
        rw [if_neg (by simp; omega)]
        have hset := RL.setAt hv.cells off hc
        have hfold : (V.cells.zipIdx.foldl (fun cs (c, j) => cs.setIfInBounds (off + j) c) Cs.toArray) = (setAtV Cs off V.cells.toList).toArray := by
          apply Array.ext'
          have := foldl_set off V.cells.toList 0 Cs.toArray
          simp only [Nat.add_zero] at this
          rw [← this]
          rw [← Array.foldl_toList, Array.toList_zipIdx]
        rw [hfold]
        exact fill_ok place t hset r hq
      · cases hq
theorem run_mapM_list {α β : Type} (f : α → Sem β) (g : α → Option β) (hf : ∀ a b, g a = some b → ∀ w, (f a).run P w = .ok b w) : ∀ (l : List α) (r : List β), l.mapM g = some r → ∀ w, (l.mapM f).run P w = .ok r w
  | [], r, hq, w => by simp at hq; subst hq; simp
  | a :: l, r, hq, w => by
    obtain ⟨b, bs, h1, h2, rfl⟩ := mapM_cons_some hq
    simp [List.mapM_cons, hf a b h1 w, run_mapM_list f g hf l bs h2 w]
theorem placesOf_mapM : ∀ (fs : List Field) (r : List (Nat × Nat)), placesOf P fs = some r → fs.mapM (fun f => (sizeT P f.type).map fun n => (f.offset, n)) = some r
  | [], r, hq => by simp [placesOf] at hq; subst hq; simp
  | f :: fs, r, hq => by
    simp only [placesOf] at hq
    split at hq
    · rename_i n rs h1 h2
      simp at hq; subst hq
      simp [List.mapM_cons, h1, placesOf_mapM fs rs h2]
    · cases hq
theorem build_ok {t : TypeId} {l : List (Nat × AV)} {L : List (Nat × Value)} {v : AV} (hl : RP ρ W l L) (hq : buildA P t l = some v) (w : World) : ∃ V, (Instr.build t L.toArray).run P w = .ok V w ∧ RV ρ W v V := by
  unfold buildA at hq
  split at hq
  · rename_i z fs hz hu
    obtain ⟨Z, g1, g2⟩ := run_zero hz ρ W w
    split at hq
    · rename_i pl hpl
      simp only [Option.map_eq_some_iff] at hq
      obtain ⟨r, hr, rfl⟩ := hq
      obtain ⟨R, f1, f2⟩ := fill_ok _ hl g2.cells r hr
      refine ⟨.agg R.toArray, ?_, .agg f2⟩
      have hm : ((fs.mapM fun f => do pure (f.offset, ← sizeOf f.type)) : Sem (Array (Nat × Nat))).run P w = .ok pl.toArray w := by
        rw [Array.mapM_eq_mapM_toList]
        have := run_mapM_list (P := P) (fun f : Field => (do pure (f.offset, ← sizeOf f.type) : Sem (Nat × Nat))) (fun f => (sizeT P f.type).map fun n => (f.offset, n))
          (fun f b hb w => by
            simp only [Option.map_eq_some_iff] at hb
            obtain ⟨n, hn, rfl⟩ := hb
            simp [run_size hn]) fs.toList pl (placesOf_mapM _ _ hpl) w
        rw [Sem.run_map, this]
        rfl
      simp only [Instr.build, Sem.run_bind, g1, Result.andThen_ok, run_underlying hu, hm]
      have e1 : (fun (x : Nat) => (pl.toArray)[x]?) = fun (i : Nat) => pl[i]? := by funext i; simp
      have e2 : Z.cells = Z.cells.toList.toArray := by simp
      rw [e1, e2, f1]
      rfl
    · cases hq
  · rename_i z n e hz hu
    obtain ⟨Z, g1, g2⟩ := run_zero hz ρ W w
    split at hq
    · rename_i k hk
      simp only [Option.map_eq_some_iff] at hq
      obtain ⟨r, hr, rfl⟩ := hq
      obtain ⟨R, f1, f2⟩ := fill_ok _ hl g2.cells r hr
      refine ⟨.agg R.toArray, ?_, .agg f2⟩
      simp only [Instr.build, Sem.run_bind, g1, Result.andThen_ok, run_underlying hu, run_size hk]
      have e2 : Z.cells = Z.cells.toList.toArray := by simp
      rw [e2, f1]
      rfl
    · cases hq
  · cases hq
/-- A call comes to an end, with a value and a world. -/
def Gives (P : Program) (g : FuncId) (A : Array Value) (w : World) (R : Value → World → Prop) : Prop :=
  ((callFunc g A).run P w = .ok (.enter g A) w ∧ Calls P g A w fun e w' => ∃ V, e = .returned V ∧ R V w') ∨ ∃ V, (callFunc g A).run P w = .ok (.value V) w ∧ R V w
def COk (P : Program) (g : FuncId) (con : Con) : Prop :=
  ∀ args p v, con args = some (p, v) → p = true → ∀ (w : World) (A : List Value), RL noNames w args A → Gives P g A.toArray w fun V w' => RV noNames w' v V ∧ Below w.heap.size w w'
def TabOk (P : Program) (T : Tab) : Prop := ∀ g con, T g = some con → COk P g con
theorem RV.flat_move {W' : World} {ρ' : Names} : ∀ (n : Nat) {v : AV} {V : Value}, RV ρ W v V → v.flat n = true → RV ρ' W' v V := by
  intro n
  induction n with
  | zero =>
    intro v V hv hf
    cases hv <;> simp [AV.flat] at hf <;> constructor
  | succ n ih =>
    have hL : ∀ {l : List AV} {L : List Value}, RL ρ W l L → l.all (AV.flat n) = true → RL ρ' W' l L := by
      intro l
      induction l with
      | nil => intro L hl _; cases hl; exact .nil
      | cons a l ih2 =>
        intro L hl hf
        cases hl with | cons h1 h2 =>
        simp only [List.all_cons, Bool.and_eq_true] at hf
        exact .cons (ih h1 hf.1) (ih2 h2 hf.2)
    intro v V hv hf
    cases hv <;> simp only [AV.flat, Bool.false_eq_true] at hf
    case agg h => exact .agg (hL h hf)
    case tup h => exact .tup (hL h hf)
    case ifc h => exact .ifc _ (ih h hf)
    all_goals constructor
theorem frz_ok (hR : Rel ρ W h w) {rd : Nat → Option Ob} (hrd : ∀ n x, rd n = some x → h[n]? = some (some x)) : ∀ (n : Nat) {v v' : AV} {V : Value}, RV ρ W v V → frz rd n v = some v' → RV noNames w v' V := by
  have hk := Keeps.of_below hR.bel
  intro n
  induction n with
  | zero =>
    intro v v' V hv hq
    cases hv <;> simp [frz] at hq
    case cp b o l L j hb hl hc => subst hq; exact (RV.cp (ρ := noNames) j hb hl hc).move (Ext.refl _) hk
    case csl b o s len cap c V hl hb hc hr => subst hq; exact (RV.csl (ρ := noNames) s len cap c V hb hl hc hr).move (Ext.refl _) hk
    all_goals (subst hq; constructor)
  | succ n ih =>
    have hL : ∀ {l l' : List AV} {L : List Value}, RL ρ W l L → l.mapM (frz rd n) = some l' → RL noNames w l' L := by
      intro l
      induction l with
      | nil => intro l' L hl hq; cases hl; simp at hq; subst hq; exact .nil
      | cons a l ih2 =>
        intro l' L hl hq
        cases hl with | cons h1 h2 =>
        obtain ⟨b, bs, g1, g2, rfl⟩ := mapM_cons_some hq
        exact .cons (ih h1 g1) (ih2 h2 g2)
    intro v v' V hv hq
    cases hv <;> simp only [frz] at hq
    case ptr m b o i s j hp =>
      split at hq
      · rename_i l hl
        simp only [Option.map_eq_some_iff] at hq
        obtain ⟨l', g1, rfl⟩ := hq
        obtain ⟨b', o', e1, e2⟩ := hR.ob m _ (hrd _ _ hl)
        rw [hp] at e1; cases e1
        obtain ⟨_, h3, L, tt, h4, h5⟩ := e2
        subst h3
        refine .cp _ (hR.dom m _ hp).2 (hL h5 g1) fun x v hv => ?_
        simp [World.cell?, h4, hv]
      · cases hq
    case sl m b o i s len cap off hl ho hp =>
      split at hq
      · rename_i s' len' c hr
        split at hq
        · rename_i hcond
          obtain ⟨rfl, hlen⟩ := hcond
          simp at hq; subst hq
          obtain ⟨b', o', e1, e2⟩ := hR.ob m _ (hrd _ _ hr)
          rw [hp] at e1; cases e1
          obtain ⟨Vf, h3, h4⟩ := e2
          by_cases h0 : len = 0
          · subst h0
            exact .csl s 0 cap _ Vf (hR.dom m _ hp).2 hl (fun i j hi => by omega) (fun i j hi => by omega)
          · have hoff : off = o + i * s := by rcases ho with ho | ho; omega; exact ho
            subst hoff
            refine .csl s len cap _ (fun a b => Vf (i + a) b) (hR.dom m _ hp).2 hl (fun a j ha hj => ?_) (fun a j ha hj => ?_)
            · have := h3 (i + a) j (by omega) hj
              rw [show o + i * s + (a * s + j) = o + ((i + a) * s + j) by rw [Nat.add_mul]; omega]; exact this
            · exact (h4 (i + a) j (by omega) hj).move (Ext.refl _) hk
        · cases hq
      · cases hq
    case cp b o l L j hb hl hc => simp at hq; subst hq; exact (RV.cp (ρ := noNames) j hb hl hc).move (Ext.refl _) hk
    case csl b o s len cap c V hl hb hc hr => simp at hq; subst hq; exact (RV.csl (ρ := noNames) s len cap c V hb hl hc hr).move (Ext.refl _) hk
    case agg h =>
      simp only [Option.map_eq_some_iff] at hq
      obtain ⟨l', g1, rfl⟩ := hq
      exact .agg (hL h g1)
    case fn f a b A B ha hb =>
      split at hq
      · rename_i a' b' g1 g2
        simp at hq; subst hq
        exact .fn f (hL ha g1) (hL hb g2)
      · cases hq
    case ifc t v V h =>
      simp only [Option.map_eq_some_iff] at hq
      obtain ⟨l', g1, rfl⟩ := hq
      exact .ifc t (ih h g1)
    case undef => cases hq
    case tup => cases hq
    all_goals (simp at hq; subst hq; constructor)
end Go.Proofs.Ytkongoedgngfhaa.A
