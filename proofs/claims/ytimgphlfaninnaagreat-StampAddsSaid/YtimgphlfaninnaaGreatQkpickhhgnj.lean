import Derived.Below
import Derived.WalkKit
import Derived.Laws.StructEq
import Derived.Laws.Strings
import Derived.Laws.Cells
import Derived.Deep.MidRow
import Derived.Laws.AppendOwn
namespace Go.Proofs.YtimgphlfaninnaaGreat.A
open Go Go.RowKit
set_option linter.unusedVariables false
set_option linter.unusedSimpArgs false
inductive AV where
 | undef
 | bool (b : Bool)
 | int (k : IntKind) (n : Int)
 | str (s : ByteArray)
 | anys
 | nilp | nilsl | nilmap | nilf | nili
 | ptr (n i s j : Nat)
 | cp (l : List AV) (j : Nat)
 | sl (n i s len : Nat)
 | csl (s len : Nat) (c : Nat → Nat → AV)
 | gs (n s len : Nat)
 | gp (n i s j : Nat)
 | mp (n : Nat)
 | nu (e s len : Nat) (l : List AV)
 | nv (s len : Nat) (c : Nat → Nat → AV)
 | yl (n : Nat)
 | fn (f : Fn) (first cap : List AV)
 | ifc (t : TypeId) (v : AV)
 | agg (l : List AV)
 | tup (l : List AV)
 deriving Inhabited
inductive Ob where
 | cells (l : List AV)
 | row (s len : Nat) (c : Nat → Nat → AV)
 | own (z : Bool) (e : TypeId) (s : Nat) (l : List AV)
 | vec (e : TypeId) (s len : Nat) (c : Nat → Nat → AV)
 | mapo (l : List (AV × AV)) (clock : Nat)
 | siter (s : ByteArray) (pos : Nat)
 | loop (s : LoopState) (pend : Option Code) (t : List (Option AV)) (ps : List Nat) (assign body : Code)
 | dfr
 | dead
 deriving Inhabited
def Ob.void : Ob → Bool
 | .row _ 0 _ => true
 | _ => false
def Ob.excl : Ob → Bool
 | .row .. | .dead => false
 | _ => true
abbrev Heap := List (Option Ob)
structure St where
 t : List (Option AV)
 h : Heap
 d : List Nat
inductive Ex where
 | normal | exit (id : Nat) | ret
abbrev Con := List AV → Option (Bool × AV)
abbrev Tab := FuncId → Option Con
def AV.cells : AV → List AV
 | .agg l => l
 | v => [v]
def AV.one : AV → Bool
 | .agg _ | .tup _ => false
 | .undef => false
 | _ => true
def ofV : Nat → Value → Option AV
 | _, .bool b => some (.bool b)
 | _, .int k n => some (.int k n)
 | _, .string s => some (.str s)
 | _, .pointer none => some .nilp
 | _, .slice none 0 0 => some .nilsl
 | _, .map none => some .nilmap
 | _, .nilFunc => some .nilf
 | _, .nilIface => some .nili
 | n + 1, .iface t v => (ofV n v).map (.ifc t)
 | n + 1, .agg cs => (cs.toList.mapM (ofV n)).map .agg
 | _, _ => none
def upTo : Nat → Nat → List Nat
 | _, 0 => []
 | a, n + 1 => a :: upTo (a + 1) n
def isAggT (P : Program) (t : TypeId) : Option Bool :=
 match P.underlying t with
 | some (.struct _) | some (.array _ _) => some true
 | some _ => some false
 | none => none
def sizeT (P : Program) (t : TypeId) : Option Nat := (P.info? t).map (·.size)
def zeroT (P : Program) (t : TypeId) : Option AV :=
 match P.info? t with
 | some i => match i.zero with
  | some v => ofV 3 v
  | none => none
 | none => none
inductive Eff where
 | no
 | alloc (o : Ob)
 | set (n : Nat) (o : Ob)
 | two (n : Nat) (x o : Ob)
def Eff.sets : Eff → Option Nat
 | .set n _ | .two n _ _ => some n
 | _ => none
abbrev Out := Option (Bool × AV × Eff)
@[reducible] def give (v : AV) : Out := some (true, v, .no)
def aite (c : Bool) : AV → AV → AV
 | .int k x, .int k' y => if k = k' then .int k (if c then x else y) else (if c then .int k x else .int k' y)
 | .bool x, .bool y => .bool (if c then x else y)
 | .str x, .str y => .str (if c then x else y)
 | a, b => if c then a else b
def intBin (op : BinOp) (k : IntKind) (x y : Int) : Option (Bool × AV) :=
 match op with
 | .add => some (true, .int k (k.wrap (x + y)))
 | .sub => some (true, .int k (k.wrap (x - y)))
 | .mul => some (true, .int k (k.wrap (x * y)))
 | .quo => some (decide (y ≠ 0), .int k (k.wrap (x.tdiv y)))
 | .rem => some (decide (y ≠ 0), .int k (x.tmod y))
 | .and => some (true, .int k (k.wrap (BitVec.ofInt k.bits x &&& BitVec.ofInt k.bits y).toNat))
 | .or => some (true, .int k (k.wrap (BitVec.ofInt k.bits x ||| BitVec.ofInt k.bits y).toNat))
 | .xor => some (true, .int k (k.wrap (BitVec.ofInt k.bits x ^^^ BitVec.ofInt k.bits y).toNat))
 | .eql => some (true, .bool (x == y))
 | .neq => some (true, .bool (x != y))
 | .lss => some (true, .bool (decide (x < y)))
 | .leq => some (true, .bool (decide (x ≤ y)))
 | .gtr => some (true, .bool (decide (x > y)))
 | .geq => some (true, .bool (decide (x ≥ y)))
 | _ => none
def intShift (op : BinOp) (k : IntKind) (x y : Int) : Option (Bool × AV) :=
 match op with
 | .shl => some (decide (0 ≤ y), .int k (k.wrap (x * 2 ^ (min y.toNat k.bits))))
 | .shr => some (decide (0 ≤ y), .int k (x.fdiv (2 ^ (min y.toNat k.bits))))
 | _ => none
def strBin (op : BinOp) (x y : ByteArray) : Option (Bool × AV) :=
 match op with
 | .add => some (decide (((x.size + y.size : Nat) : Int) ≤ IntKind.i64.max), .str (x ++ y))
 | .eql => some (true, .bool (x.toList == y.toList))
 | .neq => some (true, .bool !(x.toList == y.toList))
 | .lss => some (true, .bool (Op.bytesLess x.toList y.toList))
 | _ => none
def partA (P : Program) (t : TypeId) (l : List AV) (off : Nat) : Option AV :=
 match isAggT P t, sizeT P t with
 | some true, some n => if off + n ≤ l.length then some (.agg ((l.take (off + n)).drop off)) else none
 | some false, some _ => l[off]?
 | _, _ => none
def eqEs (f : TypeId → AV → AV → Option Bool) (P : Program) (e : TypeId) (c : Nat) (xs ys : List AV) : List Nat → Option Bool
 | [] => some true
 | i :: is =>
  match partA P e xs (i * c), partA P e ys (i * c) with
  | some x, some y =>
   match f e x y, eqEs f P e c xs ys is with
   | some b, some r => some (b && r)
   | _, _ => none
  | _, _ => none
def eqFs (f : TypeId → AV → AV → Option Bool) (P : Program) (xs ys : List AV) : List Field → Option Bool
 | [] => some true
 | fd :: fs =>
  if fd.name ≠ "_" then
   match isAggT P fd.type, sizeT P fd.type with
   | some true, some n =>
    match f fd.type (.agg ((xs.take (fd.offset + n)).drop fd.offset)) (.agg ((ys.take (fd.offset + n)).drop fd.offset)), eqFs f P xs ys fs with
    | some b, some r => some (b && r)
    | _, _ => none
   | some false, some _ =>
    match xs[fd.offset]?, ys[fd.offset]? with
    | some x, some y =>
     match f fd.type x y, eqFs f P xs ys fs with
     | some b, some r => some (b && r)
     | _, _ => none
    | _, _ => none
   | _, _ => none
  else eqFs f P xs ys fs
def eqT (P : Program) : Nat → TypeId → AV → AV → Option Bool
 | 0, _, _, _ => none
 | d + 1, t, x, y =>
  match P.underlying t, x, y with
  | some .bool, .bool a, .bool b => some (a == b)
  | some (.int _), .int k a, .int k' b => if k = k' then some (a == b) else none
  | some .string, .str a, .str b => some (a.toList == b.toList)
  | some (.struct fs), .agg xs, .agg ys => if P.stoodInHeld t then none else eqFs (eqT P d) P xs ys fs.toList
  | some (.array n e), .agg xs, .agg ys => match sizeT P e with
   | some c => eqEs (eqT P d) P e c xs ys (List.range n)
   | none => none
  | _, _, _ => none
def binA (P : Program) (op : BinOp) (t : TypeId) (x y : AV) : Option (Bool × AV) :=
 match x, y with
 | .int k a, .int k' b =>
  match op with
  | .shl | .shr => intShift op k a b
  | _ => if k = k' then intBin op k a b else none
 | .str a, .str b => strBin op a b
 | .bool a, .bool b =>
  match op with
  | .eql => (eqT P 1 t x y).map fun r => (true, .bool r)
  | .neq => (eqT P 1 t x y).map fun r => (true, .bool !r)
  | _ => none
 | .agg _, .agg _ =>
  if P.eqGuardType P.depth t then none else
  match op with
  | .eql => (eqT P 4 t x y).map fun r => (true, .bool r)
  | .neq => (eqT P 4 t x y).map fun r => (true, .bool !r)
  | _ => none
 | .ifc _ _, .nili =>
  match P.underlying t, op with
  | some (.interface _), .eql => some (true, .bool false)
  | some (.interface _), .neq => some (true, .bool true)
  | _, _ => none
 | _, _ => none
def constO : Operand → Bool
 | .const _ => true
 | _ => false
def binX (P : Program) (op : BinOp) (t : TypeId) (ox oy : Operand) (x y : AV) : Option (Bool × AV) :=
 match x, y with
 | .nili, .nili =>
  match constO ox || constO oy, P.underlying t, op with
  | true, some (.interface _), .eql => some (true, .bool true)
  | true, some (.interface _), .neq => some (true, .bool false)
  | _, _, _ => none
 | x, y => binA P op t x y
def unA (op : UnOp) (x : AV) : Option AV :=
 match op, x with
 | .neg, .int k n => some (.int k (k.wrap (0 - n)))
 | .not, .bool b => some (.bool !b)
 | .xor, .int k n => some (.int k (k.wrap (BitVec.ofInt k.bits (if k.signed then -1 else k.max) ^^^ BitVec.ofInt k.bits n).toNat))
 | _, _ => none
def convA (P : Program) (src dst : TypeId) (x : AV) : Option AV :=
 match P.underlying src, P.underlying dst, x with
 | some (.int _), some (.int k), .int _ n => some (.int k (k.wrap n))
 | some .string, some .string, .str s => some (.str s)
 | some (.int _), some .string, .int _ n => some (.str (Utf8.encode n))
 | _, _, _ => none
def cellsAt (l : List AV) (j n : Nat) : Option (List AV) := if j + n ≤ l.length then some ((l.drop j).take n) else none
def loadA (P : Program) (rd : Nat → Option Ob) (t : TypeId) (a : AV) : Option (Bool × AV) :=
 match isAggT P t, sizeT P t with
 | some ag, some n =>
  match a with
  | .ptr m i s j =>
   match rd m with
   | some (.cells l) => if ag then (cellsAt l (i * s + j) n).map fun c => (true, .agg c) else (l[i * s + j]?).map fun c => (true, c)
   | some (.row s' len c) =>
    if s = s' then
     if ag then (if j + n ≤ s then some (decide (i < len), .agg ((upTo j n).map (c i))) else none)
     else (if j < s then some (decide (i < len), c i j) else none)
    else none
   | _ => none
  | .cp l j => if ag then (cellsAt l j n).map fun c => (true, .agg c) else (l[j]?).map fun c => (true, c)
  | .gp m i s j =>
   match rd m with
   | some (.own _ _ s' l) => if ag then (cellsAt l (i * s + j) n).map fun c => (true, .agg c) else (l[i * s + j]?).map fun c => (true, c)
   | some (.vec _ s' len c) =>
    if s = s' then
     if ag then (if j + n ≤ s then some (decide (i < len), .agg ((upTo j n).map (c i))) else none)
     else (if j < s then some (decide (i < len), c i j) else none)
    else none
   | _ => none
  | _ => none
 | _, _ => none
def setAt : List AV → Nat → List AV → List AV
 | l, _, [] => l
 | l, j, v :: vs => setAt (l.set j v) (j + 1) vs
def storeA (P : Program) (rd : Nat → Option Ob) (t : TypeId) (a v : AV) : Option (Nat × Ob) :=
 match sizeT P t, a with
 | some n, .ptr m i s j =>
  match rd m with
  | some (.cells l) => if v.cells.length = n ∧ i * s + j + n ≤ l.length ∧ v.cells.all AV.one = true then some (m, .cells (setAt l (i * s + j) v.cells)) else none
  | _ => none
 | some n, .gp m i s j =>
  match rd m with
  | some (.own z e s' l) => if v.cells.length = n ∧ i * s + j + n ≤ l.length ∧ v.cells.all AV.one = true then some (m, .own z e s' (setAt l (i * s + j) v.cells)) else none
  | _ => none
 | _, _ => none
def fieldOf (P : Program) (t : TypeId) (f : Nat) : Option Field :=
 match P.underlying t with
 | some (.struct fs) => fs[f]?
 | _ => none
def fillA (place : Nat → Option (Nat × Nat)) (cells : List AV) : List (Nat × AV) → Option (List AV)
 | [] => some cells
 | (i, v) :: rest =>
  match place i with
  | none => none
  | some (off, size) => if v.cells.length = size ∧ off + v.cells.length ≤ cells.length then fillA place (setAt cells off v.cells) rest else none
def placesOf (P : Program) : List Field → Option (List (Nat × Nat))
 | [] => some []
 | f :: fs =>
  match sizeT P f.type, placesOf P fs with
  | some n, some r => some ((f.offset, n) :: r)
  | _, _ => none
def buildA (P : Program) (t : TypeId) (parts : List (Nat × AV)) : Option AV :=
 match zeroT P t, P.underlying t with
 | some z, some (.struct fs) =>
  match placesOf P fs.toList with
  | some pl => (fillA (fun i => pl[i]?) z.cells parts).map .agg
  | none => none
 | some z, some (.array _ e) =>
  match sizeT P e with
  | some n => (fillA (fun i => some (i * n, n)) z.cells parts).map .agg
  | none => none
 | _, _ => none
def evParts (e : Operand → Option AV) : List (Nat × Operand) → Option (List (Nat × AV))
 | [] => some []
 | (i, x) :: r =>
  match e x, evParts e r with
  | some v, some vs => some ((i, v) :: vs)
  | _, _ => none
def evAll (e : Operand → Option AV) : List Operand → Option (List AV)
 | [] => some []
 | x :: r =>
  match e x, evAll e r with
  | some v, some vs => some (v :: vs)
  | _, _ => none
def fieldAddrA (P : Program) (t : TypeId) (x : AV) (f : Nat) : Option AV :=
 match fieldOf P t f with
 | some fd =>
  match sizeT P fd.type with
  | some 0 => none
  | some _ =>
   match x with
   | .ptr n i s j => some (.ptr n i s (j + fd.offset))
   | .cp l j => some (.cp l (j + fd.offset))
   | .gp n i s j => some (.gp n i s (j + fd.offset))
   | _ => none
  | none => none
 | none => none
def indexAddrA (P : Program) (t : TypeId) (x ix : AV) : Option (Bool × AV) :=
 match P.underlying t, x, ix with
 | some (.array len e), .ptr n 0 0 j, .int _ k =>
  match sizeT P e with
  | some s => some (decide (0 ≤ k) && decide (k < len), .ptr n k.toNat s j)
  | none => none
 | some (.slice e), .sl n i s len, .int _ k =>
  match sizeT P e with
  | some s' => if s = s' then some (decide (0 ≤ k) && decide (k < len), .ptr n (i + k.toNat) s 0) else none
  | none => none
 | some (.slice e), .csl s len c, .int _ k =>
  match sizeT P e with
  | some s' => if s = s' then some (decide (0 ≤ k) && decide (k < len), .cp ((upTo 0 s).map (c k.toNat)) 0) else none
  | none => none
 | some (.slice e), .gs n s len, .int _ k =>
  match sizeT P e with
  | some s' => if s = s' then some (decide (0 ≤ k) && decide (k < len), .gp n k.toNat s 0) else none
  | none => none
 | _, _, _ => none
def indexA (P : Program) (t : TypeId) (x ix : AV) : Option (Bool × AV) :=
 match P.underlying t, x, ix with
 | some (.array len e), .agg l, .int _ k =>
  match sizeT P e with
  | some s =>
   match partA P e l (k.toNat * s) with
   | some v => some (decide (0 ≤ k) && decide (k < len), v)
   | none => none
  | none => none
 | some .string, .str s, .int _ k => some (decide (0 ≤ k) && decide (k < s.size), .int .u8 ((s.data.getD k.toNat 0).toNat))
 | _, _, _ => none
def boundA (x : Option AV) (d : Int) : Option Int :=
 match x with
 | none => some d
 | some (.int _ k) => some k
 | _ => none
def evOpt (e : Operand → Option AV) : Option Operand → Option (Option AV)
 | none => some none
 | some x => (e x).map some
def sliceA (P : Program) (t : TypeId) (x : AV) (lo hi : Option AV) : Option (Bool × AV) :=
 match P.underlying t, x with
 | some .string, .str s =>
  match boundA lo 0, boundA hi s.size with
  | some l, some h => some (decide (0 ≤ l) && decide (l ≤ h) && decide (h ≤ s.size), .str (s.extract l.toNat h.toNat))
  | _, _ => none
 | some (.slice e), .csl s len c =>
  match boundA lo 0, boundA hi len, sizeT P e with
  | some l, some h, some s' => if s = s' then some (decide (0 ≤ l) && decide (l ≤ h) && decide (h ≤ len), .csl s (h.toNat - l.toNat) (fun i j => c (l.toNat + i) j)) else none
  | _, _, _ => none
 | _, _ => none
def lenA (P : Program) (t : TypeId) (x : AV) : Option AV :=
 match P.underlying t, x with
 | some .string, .str s => some (.int .i64 s.size)
 | some (.array n _), _ => some (.int .i64 n)
 | some (.slice _), .sl _ _ _ n => some (.int .i64 n)
 | some (.slice _), .csl _ n _ => some (.int .i64 n)
 | some (.slice _), .gs _ _ n => some (.int .i64 n)
 | some (.slice _), .nilsl => some (.int .i64 0)
 | _, _ => none
def max2A : AV → AV → Option AV
 | .int k x, .int _ y => some (.int k (if y > x then y else x))
 | _, _ => none
def min2A : AV → AV → Option AV
 | .int k x, .int _ y => some (.int k (if y < x then y else x))
 | _, _ => none
def foldA (f : AV → AV → Option AV) : AV → List AV → Option AV
 | x, [] => some x
 | x, y :: r => match f x y with
  | some z => foldA f z r
  | none => none
def boxOut (nm : Nat) (v : AV) : Out := if v.cells.all AV.one = true then some (true, .ptr nm 0 0 0, .alloc (.cells v.cells)) else none
def AV.flat : Nat → AV → Bool
 | _, .bool _ | _, .int _ _ | _, .str _ | _, .anys | _, .undef | _, .nilp | _, .nilsl | _, .nilmap | _, .nilf | _, .nili => true
 | n + 1, .agg l => l.all (AV.flat n)
 | n + 1, .tup l => l.all (AV.flat n)
 | n + 1, .ifc _ v => AV.flat n v
 | _, _ => false
def AV.okN : Nat → AV → Bool
 | _, .nu e s len l => l.all (AV.flat 4) && decide (l.length = len * s)
 | _, .nv _ _ _ => true
 | n + 1, .agg l => l.all (AV.okN n)
 | n + 1, .tup l => l.all (AV.okN n)
 | n, v => v.flat n
def AV.nus : Nat → AV → List Ob
 | _, .nu e s len l => [.own true e s l]
 | _, .nv s len c => [.row s len c]
 | n + 1, .agg l => (l.map (AV.nus n)).flatten
 | n + 1, .tup l => (l.map (AV.nus n)).flatten
 | _, _ => []
def AV.rn (nm : Nat) : Nat → AV → AV
 | _, .nu e s len l => .gs nm s len
 | _, .nv s len c => .sl nm 0 s len
 | n + 1, .agg l => .agg (l.map (AV.rn nm n))
 | n + 1, .tup l => .tup (l.map (AV.rn nm n))
 | _, v => v
def frz (rd : Nat → Option Ob) : Nat → AV → Option AV
 | n + 1, .ptr m i s j =>
  match rd m with
  | some (.cells l) => (l.mapM (frz rd n)).map fun l' => .cp l' (i * s + j)
  | _ => none
 | n + 1, .sl m i s len =>
  match rd m with
  | some (.row s' len' c) => match i with
   | 0 => if s = s' then some (.csl s len c) else none
   | i + 1 => if s = s' then some (.csl s len (fun a b => c (i + 1 + a) b)) else none
  | _ => none
 | n + 1, .gs m s len =>
  match rd m with
  | some (.own _ _ s' l) => if s = s' ∧ l.length = len * s then (l.mapM (frz rd n)).map fun l' => .csl s len (fun a b => l'.getD (a * s + b) .undef) else none
  | some (.vec _ s' len' c) => if s = s' then some (.csl s len c) else none
  | _ => none
 | n + 1, .gp m i s j =>
  match rd m with
  | some (.own _ _ _ l) => (l.mapM (frz rd n)).map fun l' => .cp l' (i * s + j)
  | _ => none
 | n + 1, .agg l => (l.mapM (frz rd n)).map .agg
 | n + 1, .fn f a b =>
  match a.mapM (frz rd n), b.mapM (frz rd n) with
  | some a', some b' => some (.fn f a' b')
  | _, _ => none
 | n + 1, .ifc t v => (frz rd n v).map (.ifc t)
 | _, .cp l j => some (.cp l j)
 | _, .csl s l c => some (.csl s l c)
 | _, .bool b => some (.bool b)
 | _, .int k n => some (.int k n)
 | _, .str s => some (.str s)
 | _, .anys => some .anys
 | _, .nilp => some .nilp
 | _, .nilsl => some .nilsl
 | _, .nilmap => some .nilmap
 | _, .nilf => some .nilf
 | _, .nili => some .nili
 | _, _ => none
def frzC (rd : Nat → Option Ob) : Nat → AV → Bool
 | n + 1, .ptr m _ _ _ =>
  match rd m with
  | some (.cells l) => l.all (frzC rd n)
  | _ => true
 | n + 1, .sl m i _ len =>
  match rd m with
  | some (.row _ len' _) => Nat.ble (i + len) len'
  | _ => true
 | n + 1, .gs m _ len =>
  match rd m with
  | some (.vec _ _ len' _) => Nat.ble len len'
  | some (.own _ _ _ l) => l.all (frzC rd n)
  | _ => true
 | n + 1, .gp m _ _ _ =>
  match rd m with
  | some (.own _ _ _ l) => l.all (frzC rd n)
  | _ => true
 | n + 1, .agg l => l.all (frzC rd n)
 | n + 1, .fn _ a b => a.all (frzC rd n) && b.all (frzC rd n)
 | n + 1, .ifc _ v => frzC rd n v
 | _, _ => true
def methA (P : Program) (t : TypeId) (name : String) : Option FuncId :=
 match P.info? t with
 | some ti =>
  match ti.methods.toList.find? (fun m => m.name == name) with
  | some m =>
   match m.path.toList, m.func, P.underlying t with
   | [], some (_, false), some (.pointer _) => none
   | [], some (f, false), some _ => some f
   | _, _, _ => none
  | none => none
 | none => none
def targetA (P : Program) (e : Operand → Option AV) (c : Call) : Option (FuncId × List AV) :=
 match c.callee with
 | .invoke r name =>
  match e r, evAll e c.args.toList with
  | some (.ifc t v), some args =>
   match methA P t name with
   | some g => some (g, v :: args)
   | none => none
  | _, _ => none
 | .value f =>
  match e f, evAll e c.args.toList with
  | some (.fn (.func g) first cap), some args => some (g, first ++ args ++ cap)
  | _, _ => none
 | _ => none
def frzAll (rd : Nat → Option Ob) : List AV → Option (List AV)
 | [] => some []
 | x :: r =>
  match frz rd 6 x, frzAll rd r with
  | some v, some vs => some (v :: vs)
  | _, _ => none
def resOut (nm : Nat) (p : Bool) (v : AV) : Out :=
 if v.flat 4 then some (p, v, .no)
 else if v.okN 4 then
  match v.nus 4 with
  | [ob] => some (p, v.rn nm 4, .alloc ob)
  | _ => none
 else none
def callA (P : Program) (T : Tab) (rd : Nat → Option Ob) (nm : Nat) (e : Operand → Option AV) (c : Call) : Out :=
 match targetA P e c with
 | some (g, args) =>
  match T g with
  | some con =>
   match frzAll rd args with
   | some args' =>
    match con args' with
    | some (p, v) => resOut nm (args.all (frzC rd 6) && p) v
    | none => none
   | none => none
  | none => none
 | none => none
def builtinA (P : Program) (b : Builtin) (ts : Array TypeId) (args : List AV) : Option AV :=
 match b, args with
 | .len, [x] => match ts[0]? with
  | some t => lenA P t x
  | none => none
 | .max, x :: r => foldA max2A x r
 | .min, x :: r => foldA min2A x r
 | _, _ => none
def assertA (P : Program) (t : TypeId) (ok : Bool) (x : AV) : Option AV :=
 match P.underlying t, x with
 | some (.interface _), _ => none
 | some _, .ifc u v => if u = t then some (if ok then .tup [v, .bool true] else v) else (if ok then (zeroT P t).map fun z => .tup [z, .bool false] else none)
 | some _, .nili => if ok then (zeroT P t).map fun z => .tup [z, .bool false] else none
 | _, _ => none
@[reducible] def plainOut (r : Option AV) : Out := r.map fun v => (true, v, .no)
@[reducible] def condOut (r : Option (Bool × AV)) : Out := r.map fun (p, v) => (p, v, .no)
def litOut (P : Program) (nm : Nat) (t : TypeId) (len : Nat) (vs : List (Nat × AV)) : Out :=
 match P.underlying t with
 | some (.slice el) =>
  match sizeT P el, zeroT P el with
  | some n, some z =>
   match fillA (fun i => some (i * n, n)) ((List.replicate len z.cells).flatten) vs with
   | some l => if 0 < n ∧ 0 < len ∧ z.cells.length = n ∧ len * n ≤ 16777216 then some (true, .gs nm n len, .alloc (.own true el n l)) else none
   | none => none
  | _, _ => none
 | _ => none
def makeOut (P : Program) (nm : Nat) (t : TypeId) (l c : AV) : Out :=
 match P.underlying t, l, c with
 | some (.slice el), .int kl (.ofNat n), .int kc (.ofNat m) =>
  match P.info? el, zeroT P el with
  | some i, some z => if n = m ∧ 0 < i.size ∧ z.cells.length = i.size ∧ i.bytes * n ≤ 281474976710656 ∧ n ≤ maxLen then some (true, .gs nm i.size n, .alloc (.own true el i.size ((List.replicate n z.cells).flatten))) else none
  | _, _ => none
 | _, _, _ => none
def keyEq : AV → AV → Option Bool
 | .int k a, .int k' b => if k = k' then some (a == b) else none
 | .bool a, .bool b => some (a == b)
 | _, _ => none
def findA (k : AV) : List (AV × AV) → Nat → Option (Option (Nat × AV))
 | [], _ => some none
 | (k', v) :: r, i =>
  match keyEq k k' with
  | some true => some (some (i, v))
  | some false => findA k r (i + 1)
  | none => none
def keyOk (P : Program) (t : TypeId) (k : AV) : Bool :=
 match P.underlying t, k with
 | some (.int k), .int k' _ => k == k'
 | some .bool, .bool _ => true
 | _, _ => false
def lookA (P : Program) (rd : Nat → Option Ob) (t : TypeId) (x k : AV) (ok : Bool) : Option AV :=
 match P.underlying t, x with
 | some (.map kt el), .mp n =>
  match keyOk P kt k, rd n, zeroT P el with
  | true, some (.mapo l _), some z =>
   match findA k l 0 with
   | some (some (_, v)) => some (if ok then .tup [v, .bool true] else v)
   | some none => some (if ok then .tup [z, .bool false] else z)
   | none => none
  | _, _, _ => none
 | _, _ => none
def opv (P : Program) (T : Tab) (rd : Nat → Option Ob) (nm : Nat) (e : Operand → Option AV) (o : Oper) : Out :=
 match o.op with
 | .move x | .assign x => plainOut (e x)
 | .pick c a b =>
  match e c, e a, e b with
  | some (.bool q), some x, some y => give (aite q x y)
  | _, _, _ => none
 | .alloc t => match zeroT P t with
  | some z => boxOut nm z
  | none => none
 | .box t x => match e x with
  | some v => boxOut nm v
  | none => none
 | .build t ps => match evParts e ps.toList with
  | some vs => plainOut (buildA P t vs)
  | none => none
 | .load t x => match e x with
  | some a => condOut (loadA P rd t a)
  | none => none
 | .store t x y => match e x, e y with
  | some a, some v => (storeA P rd t a v).map fun (n, ob) => (true, .undef, .set n ob)
  | _, _ => none
 | .nilCheck x => match e x with
  | some (.ptr n i s j) => give (.ptr n i s j)
  | some (.cp l j) => give (.cp l j)
  | some (.gp n i s j) => give (.gp n i s j)
  | some (.fn (.func f) a b) => give (.fn (.func f) a b)
  | _ => none
 | .binOp op t x y _ => match e x, e y with
  | some a, some b => condOut (binX P op t x y a b)
  | _, _ => none
 | .unOp op _ x => match e x with
  | some a => plainOut (unA op a)
  | none => none
 | .convert s d x => match e x with
  | some a => plainOut (convA P s d a)
  | none => none
 | .makeInterface t x => match P.underlying t, e x with
  | some (.interface _), _ => none
  | some _, some a => give (.ifc t a)
  | _, _ => none
 | .makeFunc f a b => match evAll e a.toList, evAll e b.toList with
  | some x, some y => give (.fn f x y)
  | _, _ => none
 | .slice t x lo hi none => match e x, evOpt e lo, evOpt e hi with
  | some a, some l, some h => condOut (sliceA P t a l h)
  | _, _, _ => none
 | .fieldAddr t x f => match e x with
  | some a => plainOut (fieldAddrA P t a f)
  | none => none
 | .field t x f => match e x, fieldOf P t f with
  | some (.agg l), some fd => plainOut (partA P fd.type l fd.offset)
  | _, _ => none
 | .indexAddr t x i => match e x, e i with
  | some a, some k => condOut (indexAddrA P t a k)
  | _, _ => none
 | .index t x i => match e x, e i with
  | some a, some k => condOut (indexA P t a k)
  | _, _ => none
 | .extract x i => match e x with
  | some (.tup l) => plainOut (l[i]?)
  | _ => none
 | .call c => match c.callee with
  | .builtin b => match evAll e c.args.toList with
   | some args => plainOut (builtinA P b c.argTypes args)
   | none => none
  | _ => callA P T rd nm e c
 | .typeAssert x _ t ok => match e x with
  | some a => plainOut (assertA P t ok a)
  | none => none
 | .buildSlice t len ps => match evParts e ps.toList with
  | some vs => litOut P nm t len vs
  | none => none
 | .makeSlice t l c => match e l, e c with
  | some x, some y => makeOut P nm t x y
  | _, _ => none
 | .lookup t x ix ok => match e x, e ix with
  | some a, some k => plainOut (lookA P rd t a k ok)
  | _, _ => none
 | .makeMap t none => match P.underlying t with
  | some (.map _ _) => some (true, .mp nm, .alloc (.mapo [] 0))
  | _ => none
 | _ => none
def cellsOf (rd : Nat → Option Ob) (s : Nat) : AV → Option (List AV)
 | .gs n s' len =>
  match rd n with
  | some (.own _ _ s2 l) => if s = s' ∧ s = s2 ∧ l.length = len * s then some l else none
  | _ => none
 | _ => none
def listC (s : Nat) (l : List AV) : Nat → Nat → AV := fun i j => l.getD (i * s + j) .undef
def joinC (c : Nat → Nat → AV) (len : Nat) (d : Nat → Nat → AV) : Nat → Nat → AV := fun i j => if i < len then c i j else d (i - len) j
def pushC (s : Nat) (c : Nat → Nat → AV) (len : Nat) (l : List AV) : Nat → Nat → AV := match s with
 | 1 => fun i _ => aite (decide (i < len)) (c i 0) (l.headD .undef)
 | _ => fun i j => aite (decide (i < len)) (c i j) (l.getD j .undef)
def row1 (s : Nat) (l : List AV) : Nat → Nat → AV := match s with
 | 1 => fun _ _ => l.headD .undef
 | _ => fun _ j => l.getD j .undef
def rowC (s : Nat) (l : List AV) : Nat → Nat → AV := match Nat.beq l.length s with
 | true => row1 s l
 | false => listC s l
def oneRow (rd : Nat → Option Ob) (s : Nat) : AV → Option (List AV)
 | .gs n _ _ =>
  match rd n with
  | some (.own _ _ _ l) => if Nat.beq l.length s = true then some l else none
  | _ => none
 | _ => none
def addC (s : Nat) (c : Nat → Nat → AV) (len : Nat) (d : Nat → Nat → AV) : Option (List AV) → Nat → Nat → AV
 | some l => pushC s c len l
 | none => joinC c len d
def AV.plain (v : AV) : Bool := v.flat 0 && v.one
noncomputable def oneC (s m : Nat) (d : Nat → Nat → AV) : Bool := @decide (∀ i j, i < m → j < s → (d i j).plain = true) (Classical.propDecidable _)
noncomputable def srcB (rd : Nat → Option Ob) (s : Nat) : AV → Option (Bool × Nat × (Nat → Nat → AV))
 | .csl s' m d => if s = s' then some (oneC s m d, m, d) else none
 | .sl n 0 s' m =>
  match rd n with
  | some (.row s2 m' d) => if s = s' ∧ s = s2 then some (Nat.ble m m' && oneC s m d, m, d) else none
  | _ => none
 | .gs n s' m =>
  match rd n with
  | some (.own _ _ s2 l) => if s = s' ∧ s = s2 ∧ l.length = m * s ∧ l.all AV.plain = true then some (true, m, listC s l) else none
  | some (.vec _ s2 m' d) => if s = s' ∧ s = s2 then some (Nat.ble m m', m, d) else none
  | _ => none
 | _ => none
abbrev XOut := Option (Bool × AV × Option (Nat × Ob) × Option Ob)
def appendA (P : Program) (rd : Nat → Option Ob) (nm : Nat) (t : TypeId) (x y : AV) : XOut :=
 match P.underlying t with
 | some (.slice e) =>
  match P.info? e, zeroT P e with
  | some i, some z =>
   match y, cellsOf rd i.size y with
   | .gs _ _ m, some new =>
    if 0 < i.size ∧ z.cells.length = i.size ∧ new.all AV.one = true then
     match x with
     | .nilsl => if 0 < m ∧ m ≤ maxLen ∧ m * i.bytes ≤ 140737488355328 then some (true, .gs nm i.size m, none, some (.own true e i.size new)) else none
     | .gs n s len =>
      match rd n with
      | some (.own true e' s' l) =>
       if e' = e ∧ s = i.size ∧ s' = i.size ∧ l.length = len * i.size ∧ len + m ≤ maxLen ∧ (len + m) * i.bytes ≤ 140737488355328 then some (true, .gs nm i.size (len + m), some (n, .dead), some (.own true e i.size (l ++ new))) else none
      | _ => none
     | _ => none
    else none
   | _, _ => none
  | _, _ => none
 | _ => none
def roomB (n bytes : Nat) : Bool := Nat.ble n maxLen && Nat.ble (n * bytes) 140737488355328
noncomputable def appendB (P : Program) (rd : Nat → Option Ob) (nm : Nat) (t : TypeId) (x y : AV) : XOut :=
 match P.underlying t with
 | some (.slice e) =>
  match P.info? e, zeroT P e with
  | some i, some z =>
   if 0 < i.size ∧ z.cells.length = i.size then
    match srcB rd i.size y with
    | some (q, m, d) =>
     match x with
     | .nilsl => some (q && roomB m i.bytes, .sl nm 0 i.size m, none, some (.row i.size m d))
     | .gs n s len =>
      match rd n with
      | some (.own true e' s' l) =>
       if e' = e ∧ s = i.size ∧ s' = i.size ∧ l.length = len * i.size ∧ l.all AV.plain = true then some (q && roomB (len + m) i.bytes, .gs nm i.size (len + m), some (n, .dead), some (.vec e i.size (len + m) (addC i.size (listC i.size l) len d (oneRow rd i.size y)))) else none
      | some (.vec e' s' len' c) =>
       if e' = e ∧ s = i.size ∧ s' = i.size then some (q && (Nat.beq len len' && roomB (len + m) i.bytes), .gs nm i.size (len + m), some (n, .dead), some (.vec e i.size (len + m) (addC i.size c len d (oneRow rd i.size y)))) else none
      | _ => none
     | _ => none
    | none => none
   else none
  | _, _ => none
 | _ => none
noncomputable def appendC (P : Program) (nm : Nat) (t : TypeId) (x y : AV) : XOut :=
 match x, y with
 | .nilsl, .nv s m d =>
  match P.underlying t with
  | some (.slice e) =>
   match P.info? e, zeroT P e with
   | some i, some z =>
    if 0 < i.size ∧ z.cells.length = i.size ∧ s = i.size then
     match m with
     | 0 => some (true, .nilsl, none, none)
     | k + 1 => some (oneC s (k + 1) d && roomB (k + 1) i.bytes, .gs nm s (k + 1), none, some (.vec e s (k + 1) d))
    else none
   | _, _ => none
  | _ => none
 | _, _ => none
noncomputable def appendX (P : Program) (rd : Nat → Option Ob) (nm : Nat) (t : TypeId) (x y : AV) : XOut :=
 match appendA P rd nm t x y with
 | some r => some r
 | none => match appendB P rd nm t x y with
  | some r => some r
  | none => appendC P nm t x y
def intsOf : List AV → Option (List Int)
 | [] => some []
 | .int .u8 n :: r => match intsOf r with
  | some l => some (n :: l)
  | none => none
 | _ => none
def slBytes (rd : Nat → Option Ob) : AV → Option (List AV)
 | .sl n i 1 len =>
  match rd n with
  | some (.row 1 m c) => if i + len ≤ m ∧ 0 < len then some ((upTo 0 len).map fun k => c (i + k) 0) else none
  | _ => none
 | _ => none
noncomputable def xop (P : Program) (o : Oper) (e : Operand → Option AV) (rd : Nat → Option Ob) (nm : Nat) : XOut :=
 match o.op with
 | .slice t x lo hi mx =>
  match P.underlying t, e x, evOpt e lo, evOpt e hi, evOpt e mx with
  | some (.slice el), some (.gs n s len), some l, some h, some m =>
   match boundA l 0, boundA h len, boundA m len, rd n, sizeT P el with
   | some (.ofNat a), some (.ofNat b), some (.ofNat c), some (.own _ _ s' cs), some s2 =>
    if s = s2 ∧ s' = s ∧ cs.length = len * s ∧ a ≤ b ∧ b ≤ c ∧ c ≤ len ∧ (mx.isNone || hi.isSome) = true ∧ cs.all (AV.flat 4) = true then some (true, .sl nm 0 s (b - a), some (n, .dead), some (.row s (b - a) fun i j => cs.getD ((a + i) * s + j) .undef)) else none
   | _, _, _, _, _ => none
  | some (.array cnt el), some (.ptr n 0 0 0), some l, some h, some none =>
   match boundA l 0, boundA h cnt, rd n, sizeT P el with
   | some (.ofNat a), some (.ofNat b), some (.cells cs), some s => if cs.length = cnt * s ∧ a ≤ b ∧ b ≤ cnt ∧ cs.all (AV.flat 4) = true then some (true, .sl nm 0 s (b - a), some (n, .dead), some (.row s (b - a) fun i j => cs.getD ((a + i) * s + j) .undef)) else none
   | _, _, _, _ => none
  | _, _, _, _, _ => none
 | .convert src dst x =>
  match P.underlying src, P.underlying dst, e x with
  | some .string, some (.slice el), some (.str s) =>
   match P.underlying el with
   | some (.int .u8) => if s.size ≤ maxLen then some (true, .gs nm 1 s.size, none, some (.own false el 1 (s.data.toList.map fun b => .int .u8 b.toNat))) else none
   | _ => none
  | some (.slice el), some .string, some y =>
   match P.underlying el, cellsOf rd 1 y with
   | some (.int .u8), some l => match intsOf l with
    | some ns => some (true, .str ⟨(ns.map fun n => UInt8.ofNat n.toNat).toArray⟩, none, none)
    | none => none
   | some (.int .u8), none => match slBytes rd y with
    | some l => match intsOf l with
     | some ns => some (true, .str ⟨(ns.map fun n => UInt8.ofNat n.toNat).toArray⟩, none, none)
     | none => none
    | none => none
   | _, _ => none
  | _, _, _ => none
 | .mapUpdate t x ix y | .insert t x ix y =>
  match P.underlying t, e x, e ix, e y with
  | some (.map kt _), some (.mp n), some k, some v =>
   match keyOk P kt k, rd n with
   | true, some (.mapo l c) =>
    match findA k l 0 with
    | some (some (i, _)) => some (true, .undef, some (n, .mapo (l.set i (k, v)) c), none)
    | some none => some (true, .undef, some (n, .mapo (l ++ [(k, v)]) (c + 1)), none)
    | none => none
   | _, _ => none
  | _, _, _, _ => none
 | .range t x =>
  match P.underlying t, e x with
  | some .string, some (.str s) => some (true, .ptr nm 0 0 0, none, some (.siter s 0))
  | _, _ => none
 | .call c =>
  match c.callee with
  | .builtin .append =>
   match evAll e c.args.toList, c.argTypes.toList with
   | some [x, y], [t, t'] => if t = t' then appendX P rd nm t x y else none
   | _, _ => none
  | _ => none
 | _ => none
def siterOf (o : Oper) (e : Operand → Option AV) (rd : Nat → Option Ob) : Option (Nat × ByteArray × Nat) :=
 match o.op with
 | .next x true =>
  match e x with
  | some (.ptr n 0 0 0) =>
   match rd n with
   | some (.siter s pos) => some (n, s, pos)
   | _ => none
  | _ => none
 | _ => none
def xheap (h : Heap) (s : Option (Nat × Ob)) (a : Option Ob) : Heap :=
 let h1 := match s with
  | some (n, o) => h.set n (some o)
  | none => h
 match a with
 | some o => h1 ++ [some o]
 | none => h1
def effOf : Option (Nat × Ob) → Option Ob → Eff
 | none, none => .no
 | none, some o => .alloc o
 | some (n, x), none => .set n x
 | some (n, x), some o => .two n x o
def heavy : Op → Bool
 | .mapUpdate _ _ _ _ | .insert _ _ _ _ => true
 | .call c => match c.callee with
  | .builtin .append => true
  | _ => false
 | _ => false
noncomputable def opw (P : Program) (T : Tab) (rd : Nat → Option Ob) (nm : Nat) (e : Operand → Option AV) (o : Oper) : Out :=
 match opv P T rd nm e o with
 | some r => some r
 | none =>
  match heavy o.op with
  | true =>
   match xop P o e rd nm with
   | some (p, v, s, a) => some (p, v, effOf s a)
   | none => none
  | false => none
def callOf (P : Program) (o : Oper) (e : Operand → Option AV) : Option (FuncId × List AV) :=
 match o.op with
 | .call c => targetA P e c
 | _ => none
structure Alg (α : Type) where
 br : Bool → α → α → α
 no : α
 fi : Int → (Int → α) → α
 fb : Bool → (Bool → α) → α
 fn : Nat → (Nat → α) → α
 bi : Int → (Int → α) → α
 bb : Bool → (Bool → α) → α
 fi_eq : ∀ n K, fi n K = K n
 br_t : ∀ x y, br true x y = x
 br_f : ∀ x y, br false x y = y
 fb_eq : ∀ n K, fb n K = K n
 fn_eq : ∀ n K, fn n K = K n
 bi_eq : ∀ n K, bi n K = K n
 bb_eq : ∀ n K, bb n K = K n
def brc (b : Bool) (A B : Prop) : Prop := match b with
 | true => A
 | false => B
theorem brc_false {b : Bool} {A : Prop} : brc b A False ↔ b = true ∧ A := by cases b <;> simp [brc]
theorem kB {b : Bool} {A B : Prop} (h : b = true → A) (k : b = false → B) : brc b A B := by
 cases b
 · exact k rfl
 · exact h rfl
def nmd {β : Type} (n : β) (K : β → Prop) : Prop := ∀ m, m = n → K m
theorem nmd_eq {β : Type} (n : β) (K : β → Prop) : nmd n K = K n := propext ⟨fun h => h n rfl, fun h m e => by rw [e]; exact h⟩
def PA : Alg Prop where
 br := brc
 no := False
 fi := fun n K => K n
 fb := fun n K => K n
 fn := fun n K => K n
 bi := nmd
 bb := nmd
 fi_eq := fun _ _ => rfl
 br_t := fun _ _ => rfl
 br_f := fun _ _ => rfl
 fb_eq := fun _ _ => rfl
 fn_eq := fun _ _ => rfl
 bi_eq := nmd_eq
 bb_eq := nmd_eq
def bro {β : Type} (b : Bool) (A B : Option β) : Option β := match b with
 | true => A
 | false => B
def forceI {α : Type} (n : Int) (K : Int → α) : α := match n with
 | .ofNat 0 => K 0
 | .ofNat (m + 1) => K (.ofNat (m + 1))
 | .negSucc 0 => K (.negSucc 0)
 | .negSucc (m + 1) => K (.negSucc (m + 1))
theorem forceI_eq {α : Type} (n : Int) (K : Int → α) : forceI n K = K n := by unfold forceI; split <;> rfl
def forceB {α : Type} (b : Bool) (K : Bool → α) : α := match b with
 | true => K true
 | false => K false
theorem forceB_eq {α : Type} (b : Bool) (K : Bool → α) : forceB b K = K b := by cases b <;> rfl
def forceN {α : Type} (n : Nat) (K : Nat → α) : α := match n with
 | 0 => K 0
 | m + 1 => K (m + 1)
theorem forceN_eq {α : Type} (n : Nat) (K : Nat → α) : forceN n K = K n := by unfold forceN; split <;> rfl
def OA (β : Type) : Alg (Option β) where
 br := bro
 no := none
 fi := forceI
 fb := forceB
 fn := forceN
 bi := forceI
 bb := forceB
 fi_eq := forceI_eq
 br_t := fun _ _ => rfl
 br_f := fun _ _ => rfl
 fb_eq := forceB_eq
 fn_eq := forceN_eq
 bi_eq := forceI_eq
 bb_eq := forceB_eq
section force
variable {α : Type}
section gen
variable (fi : Int → (Int → α) → α) (fb : Bool → (Bool → α) → α) (fn : Nat → (Nat → α) → α)
mutual
def gv : AV → (AV → α) → α
 | .undef, K => K .undef
 | .bool b, K => fb b fun b => K (.bool b)
 | .int k n, K => fi n fun n => K (.int k n)
 | .str s, K => K (.str s)
 | .anys, K => K .anys
 | .nilp, K => K .nilp
 | .nilsl, K => K .nilsl
 | .nilmap, K => K .nilmap
 | .nilf, K => K .nilf
 | .nili, K => K .nili
 | .ptr n i s j, K => fn n fun n => fn i fun i => fn s fun s => fn j fun j => K (.ptr n i s j)
 | .cp l j, K => gl l fun l => K (.cp l j)
 | .sl n i s len, K => fn n fun n => fn i fun i => fn s fun s => fn len fun len => K (.sl n i s len)
 | .csl s len c, K => K (.csl s len c)
 | .gs n s len, K => fn n fun n => fn s fun s => fn len fun len => K (.gs n s len)
 | .gp n i s j, K => fn n fun n => fn i fun i => fn s fun s => fn j fun j => K (.gp n i s j)
 | .mp n, K => fn n fun n => K (.mp n)
 | .yl n, K => fn n fun n => K (.yl n)
 | .nu e s len l, K => fn e fun e => fn s fun s => fn len fun len => gl l fun l => K (.nu e s len l)
 | .nv s len c, K => K (.nv s len c)
 | .fn f a b, K => gl a fun a => gl b fun b => K (.fn f a b)
 | .ifc t v, K => gv v fun v => K (.ifc t v)
 | .agg l, K => gl l fun l => K (.agg l)
 | .tup l, K => gl l fun l => K (.tup l)
def gl : List AV → (List AV → α) → α
 | [], K => K []
 | v :: l, K => gv v fun v => gl l fun l => K (v :: l)
end
mutual
theorem gv_eq (hi : ∀ n K, fi n K = K n) (hb : ∀ n K, fb n K = K n) (hn : ∀ n K, fn n K = K n) : ∀ (v : AV) (K : AV → α), gv fi fb fn v K = K v
 | .undef, K => rfl
 | .bool b, K => by simp only [gv, hb]
 | .int k n, K => by simp only [gv, hi]
 | .str s, K => rfl
 | .anys, K => rfl
 | .nilp, K => rfl
 | .nilsl, K => rfl
 | .nilmap, K => rfl
 | .nilf, K => rfl
 | .nili, K => rfl
 | .ptr n i s j, K => by simp only [gv, hn]
 | .cp l j, K => by simp only [gv]; rw [gl_eq hi hb hn l]
 | .sl n i s len, K => by simp only [gv, hn]
 | .csl s len c, K => rfl
 | .gs n s len, K => by simp only [gv, hn]
 | .gp n i s j, K => by simp only [gv, hn]
 | .mp n, K => by simp only [gv, hn]
 | .yl n, K => by simp only [gv, hn]
 | .nu e s len l, K => by simp only [gv, hn]; rw [gl_eq hi hb hn l]
 | .nv s len c, K => rfl
 | .fn f a b, K => by simp only [gv]; rw [gl_eq hi hb hn a, gl_eq hi hb hn b]
 | .ifc t v, K => by simp only [gv]; rw [gv_eq hi hb hn v]
 | .agg l, K => by simp only [gv]; rw [gl_eq hi hb hn l]
 | .tup l, K => by simp only [gv]; rw [gl_eq hi hb hn l]
theorem gl_eq (hi : ∀ n K, fi n K = K n) (hb : ∀ n K, fb n K = K n) (hn : ∀ n K, fn n K = K n) : ∀ (l : List AV) (K : List AV → α), gl fi fb fn l K = K l
 | [], K => rfl
 | v :: l, K => by simp only [gl]; rw [gv_eq hi hb hn v, gl_eq hi hb hn l]
end
end gen
variable (A : Alg α)
def fv (v : AV) (K : AV → α) : α := gv A.fi A.fb A.fn v K
def fl (l : List AV) (K : List AV → α) : α := gl A.fi A.fb A.fn l K
theorem fv_eq (v : AV) (K : AV → α) : fv A v K = K v := gv_eq A.fi A.fb A.fn A.fi_eq A.fb_eq A.fn_eq v K
theorem fl_eq (l : List AV) (K : List AV → α) : fl A l K = K l := gl_eq A.fi A.fb A.fn A.fi_eq A.fb_eq A.fn_eq l K
def isCall : Op → Bool
 | .call c => match c.callee with
  | .builtin _ => false
  | _ => true
 | _ => false
def fx (o : Oper) (v : AV) (K : AV → α) : α := if isCall o.op then gv A.bi A.bb A.fn v K else fv A v K
theorem fx_eq (o : Oper) (v : AV) (K : AV → α) : fx A o v K = K v := by
 unfold fx
 split
 · exact gv_eq A.bi A.bb A.fn A.bi_eq A.bb_eq A.fn_eq v K
 · exact fv_eq A v K
def fo : Ob → (Ob → α) → α
 | .cells l, K => fl A l fun l => K (.cells l)
 | .row s n c, K => K (.row s n c)
 | .own z e s l, K => A.fn e fun e => A.fn s fun s => fl A l fun l => K (.own z e s l)
 | .vec e s n c, K => K (.vec e s n c)
 | .mapo l c, K => K (.mapo l c)
 | .siter s p, K => K (.siter s p)
 | .loop s p t ps a b, K => K (.loop s p t ps a b)
 | .dfr, K => K .dfr
 | .dead, K => K .dead
theorem fo_eq (o : Ob) (K : Ob → α) : fo A o K = K o := by
 cases o <;> first | rfl | (simp only [fo, A.fn_eq]; rw [fl_eq])
def fe : Eff → (Eff → α) → α
 | .no, K => K .no
 | .alloc o, K => fo A o fun o => K (.alloc o)
 | .set n o, K => fo A o fun o => K (.set n o)
 | .two n x o, K => fo A x fun x => fo A o fun o => K (.two n x o)
theorem fe_eq (e : Eff) (K : Eff → α) : fe A e K = K e := by
 cases e
 · rfl
 · simp only [fe]; rw [fo_eq]
 · simp only [fe]; rw [fo_eq]
 · simp only [fe]; rw [fo_eq, fo_eq]
def fy (o : Oper) (e : Eff) (K : Eff → α) : α :=
 match isCall o.op, e with
 | true, .alloc (.own z ty s l) => gl A.bi A.bb A.fn l fun l => K (.alloc (.own z ty s l))
 | _, e => fe A e K
theorem fy_eq (o : Oper) (e : Eff) (K : Eff → α) : fy A o e K = K e := by
 unfold fy
 split
 · exact gl_eq A.bi A.bb A.fn A.bi_eq A.bb_eq A.fn_eq _ _
 · exact fe_eq A _ K
def fso : Option (Nat × Ob) → (Option (Nat × Ob) → α) → α
 | none, K => K none
 | some (n, o), K => fo A o fun o => K (some (n, o))
theorem fso_eq (s : Option (Nat × Ob)) (K : Option (Nat × Ob) → α) : fso A s K = K s := by
 cases s
 · rfl
 · rename_i p; obtain ⟨n, o⟩ := p; simp only [fso]; rw [fo_eq]
def fao : Option Ob → (Option Ob → α) → α
 | none, K => K none
 | some o, K => fo A o fun o => K (some o)
theorem fao_eq (s : Option Ob) (K : Option Ob → α) : fao A s K = K s := by
 cases s
 · rfl
 · simp only [fao]; rw [fo_eq]
end force
section spine
variable {α : Type}
noncomputable def fs {β : Type} (l : List β) : (List β → α) → α := @List.rec β (fun _ => (List β → α) → α) (fun K => K []) (fun x _ ih K => ih fun l => K (x :: l)) l
theorem fs_eq {β : Type} : ∀ (l : List β) (K : List β → α), fs l K = K l
 | [], K => rfl
 | x :: l, K => by show fs l (fun l => K (x :: l)) = _; rw [fs_eq l]
noncomputable def fst (s : St) (K : St → α) : α := fs s.t fun t => fs s.h fun h => K ⟨t, h, s.d⟩
theorem fst_eq (s : St) (K : St → α) : fst s K = K s := by unfold fst; rw [fs_eq, fs_eq]
end spine
noncomputable def getL {β : Type} (l : List β) : Nat → Option β := @List.rec β (fun _ => Nat → Option β) (fun _ => none) (fun x _ ih n => @Nat.rec (fun _ => Option β) (some x) (fun m _ => ih m) n) l
theorem getL_eq {β : Type} : ∀ (l : List β) (n : Nat), getL l n = l[n]?
 | [], _ => rfl
 | x :: l, 0 => rfl
 | x :: l, n + 1 => by show getL l n = _; rw [getL_eq l n]; simp
noncomputable def tmAll (st : St) (t : Nat) : Option AV := (getL st.t t).join
noncomputable def tmOf (st : St) (ts : List Nat) (t : Nat) : Option AV := if ts.contains t then tmAll st t else none
theorem tmAll_some {st : St} {d : Nat} {v : AV} (h : tmAll st d = some v) : st.t[d]? = some (some v) := by
 simp only [tmAll, getL_eq] at h
 cases hq : st.t[d]? with
 | none => simp [hq] at h
 | some u => simp [hq] at h; rw [h]
abbrev Lk := Oper → St → Nat → Option AV
noncomputable def lkAll : Lk := fun _ st => tmAll st
noncomputable def lkOf (ops : Array Oper) : Lk := fun o st => tmOf st (o.looksAt ops)
def LkOk (lk : Lk) : Prop := ∀ o st t v, lk o st t = some v → st.t[t]? = some (some v)
def evOf (tm : Nat → Option AV) : Operand → Option AV
 | .tmp t => tm t
 | .const v => ofV 3 v
 | .global _ => none
 | .func f => some (.fn (.func f) [] [])
def wantedA (ops : Array Oper) (tm : Nat → Option AV) (o : Oper) : Option Bool :=
 match o.guard with
 | none => some true
 | some (j, want) =>
  match (ops[j]?).bind (·.dst) with
  | some d =>
   match tm d with
   | some (.bool b) => some (if want then b else !b)
   | some .undef => some false
   | _ => none
  | none => none
def putT (t : List (Option AV)) (dst : Option Tmp) (v : AV) : List (Option AV) :=
 match dst with
 | some d => t.set d (some v)
 | none => t
def effH (h : Heap) (nm : Nat) : Eff → Heap
 | .no => h
 | .alloc o => if nm < h.length then h.set nm (some o) else h ++ [some o]
 | .set n o => h.set n (some o)
 | .two n x o => if nm < (h.set n (some x)).length then (h.set n (some x)).set nm (some o) else h.set n (some x) ++ [some o]
@[reducible] def stepSt (st : St) (nm : Nat) (dst : Option Tmp) (v : AV) (f : Eff) : St := ⟨putT st.t dst v, effH st.h nm f, st.d⟩
section walk
variable {α : Type}
abbrev Inl (α : Type) := Oper → (Operand → Option AV) → Heap → (AV → Heap → α) → α
def refT (st : St) (d : Nat) (b : Bool) : St := ⟨st.t.set d (some (.bool b)), st.h, st.d⟩
theorem refT_eq {st : St} {d : Nat} {b : Bool} (h : st.t[d]? = some (some (.bool b))) : refT st d b = st := by
 unfold refT
 have : st.t.set d (some (.bool b)) = st.t := by
  apply List.ext_getElem?
  intro i
  rw [List.getElem?_set]
  split
  · rename_i e; subst e
    split
    · exact h.symm
    · rename_i hl; rw [List.getElem?_eq_none (by omega)] 
  · rfl
 rw [this]
def effOk (ok : Nat → Bool) : Eff → Bool
 | .set n _ | .two n _ _ => ok n
 | _ => true
noncomputable def runO (A : Alg α) (P : Program) (T : Tab) (ok : Nat → Nat → Bool) (lk : Lk) (ops : Array Oper) (rd : Nat → Heap → Nat → Option Ob) (nm : Nat → Heap → Nat) (inl : Inl α) (i : Nat) (o : Oper) (K : St → α) (st : St) : α :=
 match opw P T (rd i st.h) (nm i st.h) (evOf (lk o st)) o with
 | some (p, v, f) => cond (effOk (ok i) f) (A.br p (fx A o v fun v => fy A o f fun f => fst (stepSt st (nm i st.h) o.dst v f) K) A.no) A.no
 | none => inl o (evOf (lk o st)) st.h (fun v h' => fv A v fun v => fst ⟨putT st.t o.dst v, h', st.d⟩ K)
noncomputable def skipO (o : Oper) (K : St → α) (st : St) : α := fst ⟨putT st.t o.dst .undef, st.h, st.d⟩ K
noncomputable def stepA (A : Alg α) (P : Program) (T : Tab) (ok : Nat → Nat → Bool) (lk : Lk) (ops : Array Oper) (rd : Nat → Heap → Nat → Option Ob) (nm : Nat → Heap → Nat) (inl : Inl α) (i : Nat) (K : St → α) (st : St) : α :=
 match getL ops.toList i with
 | none => K st
 | some o =>
  match o.guard with
  | none => runO A P T ok lk ops rd nm inl i o K st
  | some (j, want) =>
   match (ops[j]?).bind (·.dst) with
   | none => A.no
   | some d =>
    match lk o st d with
    | some (.bool b) =>
     A.br b (fst (refT st d true) fun st => if want then runO A P T ok lk ops rd nm inl i o K st else skipO o K st)
      (fst (refT st d false) fun st => if want then skipO o K st else runO A P T ok lk ops rd nm inl i o K st)
    | some .undef => skipO o K st
    | _ => A.no
noncomputable def stepB (A : Alg α) (P : Program) (T : Tab) (ok : Nat → Nat → Bool) (lk : Lk) (ops : Array Oper) (rd : Nat → Heap → Nat → Option Ob) (nm : Nat → Heap → Nat) (inl : Inl α) (i : Nat) (K : St → α) (st : St) : α :=
 match getL ops.toList i with
 | none => K st
 | some o =>
  match wantedA ops (lk o st) o with
  | none => A.no
  | some b =>
   A.br b
    (match opw P T (rd i st.h) (nm i st.h) (evOf (lk o st)) o with
     | some (p, v, f) => cond (effOk (ok i) f) (A.br p (fx A o v fun v => fy A o f fun f => fst (stepSt st (nm i st.h) o.dst v f) K) A.no) A.no
     | none => inl o (evOf (lk o st)) st.h (fun v h' => fv A v fun v => fst ⟨putT st.t o.dst v, h', st.d⟩ K))
    (fst ⟨putT st.t o.dst .undef, st.h, st.d⟩ K)
theorem tmOf_some {st : St} {ts : List Nat} {d : Nat} {v : AV} (h : tmOf st ts d = some v) : st.t[d]? = some (some v) := by
 simp only [tmOf] at h
 split at h
 · exact tmAll_some h
 · cases h
theorem lkAll_ok : LkOk lkAll := fun _ _ _ _ h => tmAll_some h
theorem lkOf_ok (ops : Array Oper) : LkOk (lkOf ops) := fun _ _ _ _ h => tmOf_some h
theorem stepA_eq (A : Alg α) (P : Program) (T : Tab) (ok : Nat → Nat → Bool) {lk : Lk} (hlk : LkOk lk) (ops : Array Oper) (rd : Nat → Heap → Nat → Option Ob) (nm : Nat → Heap → Nat) (inl : Inl α) (i : Nat) (K : St → α) (st : St) :
 stepA A P T ok lk ops rd nm inl i K st = stepB A P T ok lk ops rd nm inl i K st := by
 unfold stepA stepB
 split
 · rfl
 · rename_i o ho
   unfold wantedA
   cases hg : o.guard with
   | none => simp only [A.br_t]; rfl
   | some p =>
    obtain ⟨j, want⟩ := p
    simp only
    cases hd : (ops[j]?).bind (·.dst) with
    | none => rfl
    | some d =>
     simp only
     cases ht : lk o st d with
     | none => rfl
     | some v =>
      cases v <;> try rfl
      · simp only [A.br_f]; rfl
      · rename_i b
        have hb := refT_eq (hlk _ _ _ _ ht)
        cases b <;> cases want <;> simp only [A.br_t, A.br_f, fst_eq, hb, if_true, Bool.false_eq_true, if_false, Bool.not_true, Bool.not_false, runO, skipO]
noncomputable def opsA (A : Alg α) (P : Program) (T : Tab) (ok : Nat → Nat → Bool) (lk : Lk) (ops : Array Oper) (rd : Nat → Heap → Nat → Option Ob) (nm : Nat → Heap → Nat) (inl : Inl α) : List Nat → St → (St → α) → α
 | [], st, K => K st
 | i :: r, st, K => stepA A P T ok lk ops rd nm inl i (fun st' => opsA A P T ok lk ops rd nm inl r st' K) st
def befores (ops : List Oper) : List Nat :=
 ops.foldl (fun acc o => acc ++ [o.after.toList.foldl (fun s e => if Region.binds .any e then s ||| 2 ^ e.on ||| acc.getD e.on 0 else s) 0]) []
noncomputable def rdFlat (h : Heap) (n : Nat) : Option Ob := (getL h n).join
def okOld (bf : List Nat) (own : List (Nat × Nat)) (i n : Nat) : Bool := own.all fun (j, m) => m != n || j == i || (bf.getD i 0).testBit j || (bf.getD j 0).testBit i
def rdDrawn (base : Nat) (bf : List Nat) (own : List (Nat × Nat)) (i : Nat) (h : Heap) (n : Nat) : Option Ob :=
 if cond (n < base) (okOld bf own i n) ((bf.getD i 0).testBit (n - base)) then (h[n]?).join else none
def isAlloc : Op → Bool
 | .alloc _ | .box _ _ | .buildSlice _ _ _ | .makeSlice _ _ _ | .makeMap _ _ => true
 | .call c => match c.callee with
  | .builtin .append => true
  | _ => false
 | _ => false
def isStore : Op → Bool
 | .store _ _ _ => true
 | o => heavy o
def allocs (ops : List Oper) : Nat := (upTo 0 ops.length).foldl (fun s i => match ops[i]? with
 | some o => if isAlloc o.op then s ||| 2 ^ i else s
 | none => s) 0
def okDrawn (base mask : Nat) (own : List (Nat × Nat)) (i n : Nat) : Bool := cond (n < base) (own.any fun (j, m) => j == i && m == n) (mask.testBit (n - base))
noncomputable def headName (t : List (Option AV)) (ops : List Oper) : Nat → Nat → Option Nat
 | 0, _ => none
 | k + 1, d =>
  match ops.find? fun o => match o.dst with
   | some e => Nat.beq e d
   | none => false with
  | some o =>
   match o.op with
   | .indexAddr _ (.tmp s) _ | .fieldAddr _ (.tmp s) _ | .move (.tmp s) => headName t ops k s
   | _ => none
  | none =>
   match getL t d with
   | some (some (.ptr n _ _ _)) | some (some (.gs n _ _)) | some (some (.gp n _ _ _)) | some (some (.sl n _ _ _)) => some n
   | _ => none
def ownAll (f : Ob → Bool) (i : Nat) : Nat → Heap → List (Nat × Nat) → List (Nat × Nat)
 | _, [], r => r
 | n, none :: h, r => ownAll f i (n + 1) h r
 | n, some o :: h, r => match f o with
  | true => (i, n) :: ownAll f i (n + 1) h r
  | false => ownAll f i (n + 1) h r
def isMapo : Ob → Bool
 | .mapo _ _ => true
 | _ => false
def isOwn : Ob → Bool
 | .own _ _ _ _ | .vec .. => true
 | _ => false
noncomputable def ownAt (t : List (Option AV)) (h : Heap) (ops : List Oper) (i : Nat) (o : Oper) (r : List (Nat × Nat)) : List (Nat × Nat) :=
 match o.op with
 | .store _ (.tmp d) _ => match headName t ops 6 d with
  | some n => (i, n) :: r
  | none => r
 | .mapUpdate _ _ _ _ | .insert _ _ _ _ => ownAll isMapo i 0 h r
 | .call c => match c.callee with
  | .builtin .append => ownAll isOwn i 0 h r
  | _ => r
 | _ => r
noncomputable def ownOf (t : List (Option AV)) (h : Heap) (ops : List Oper) : Nat → List Oper → List (Nat × Nat)
 | _, [] => []
 | i, o :: r => ownAt t h ops i o (ownOf t h ops (i + 1) r)
def drawnOk (ops : List Oper) (bf : List Nat) (mask : Nat) : Bool :=
 (upTo 0 ops.length).all fun i =>
  match ops[i]? with
  | none => false
  | some y =>
   (y.after.toList.all fun e => !Region.binds .any e || decide (e.on < i)) &&
   (upTo 0 i).all fun j =>
    match ops[j]? with
    | none => false
    | some x =>
     !(bf.getD j 0).testBit i &&
     (if (bf.getD i 0).testBit j then y.after.toList.any fun e => Region.binds .any e && (e.on == j || (bf.getD e.on 0).testBit j)
      else x.apart ops.toArray y && (!(isStore x.op || isStore y.op) || bf.getD i 0 &&& bf.getD j 0 &&& mask == 0))
def noInl (A : Alg α) : Inl α := fun _ _ _ _ => A.no
def cutAt (ops : Array Oper) (bf : List Nat) (i : Nat) : Bool :=
 match ops[i]? with
 | some o => isCall o.op && (upTo 0 ops.size).all fun j => j == i || (if j < i then (bf.getD i 0).testBit j else (bf.getD j 0).testBit i)
 | none => false
noncomputable def segA (A : Alg α) (P : Program) (T : Tab) (inl : Inl α) (ops : Array Oper) (bf : List Nat) (mask : Nat) : Nat → List Nat → St → (St → α) → α
 | 0, _, _, _ => A.no
 | f + 1, todo, st, K =>
  opsA A P T (okDrawn st.h.length mask (ownOf st.t st.h ops.toList 0 ops.toList)) (lkOf ops) ops (rdDrawn st.h.length bf (ownOf st.t st.h ops.toList 0 ops.toList)) (fun i _ => st.h.length + i) (noInl A) (todo.takeWhile fun i => !cutAt ops bf i) ⟨st.t, st.h ++ List.replicate ops.size none, st.d⟩ fun st1 =>
   match todo.dropWhile fun i => !cutAt ops bf i with
   | [] => K st1
   | c :: r => stepA A P T (fun _ _ => true) lkAll ops (fun _ => rdFlat) (fun _ h => h.length) inl c (fun st2 => segA A P T inl ops bf mask f r st2 K) st1
noncomputable def regionA (A : Alg α) (P : Program) (T : Tab) (inl : Inl α) (ops : Array Oper) (draw : Bool) (st : St) (K : St → α) : α :=
 if draw then
  if drawnOk ops.toList (befores ops.toList) (allocs ops.toList) then segA A P T inl ops (befores ops.toList) (allocs ops.toList) (ops.size + 1) (upTo 0 ops.size) st K
  else A.no
 else opsA A P T (fun _ _ => true) lkAll ops (fun _ => rdFlat) (fun _ h => h.length) inl (upTo 0 ops.size) st K
def refC (st : St) (c : Operand) (b : Bool) : St := match c with
 | .tmp d => refT st d b
 | _ => st
omit α in
theorem refC_eq {st : St} {c : Operand} {b : Bool} (h : evOf (tmAll st) c = some (.bool b)) : refC st c b = st := by
 cases c with
 | tmp d =>
  exact refT_eq (tmAll_some h)
 | _ => rfl
def Code.first : Code → Nat
 | .region id _ _ => id + 1
 | .seq a b => if Code.first a = 0 then Code.first b else Code.first a
 | .cond _ a b => if Code.first a = 0 then Code.first b else Code.first a
 | .block _ b => Code.first b
 | .loop b => Code.first b
 | _ => 0
abbrev LTab (α : Type) := Nat → Option (St → (Ex → St → α) → α)
def noLoops {α : Type} : LTab α := fun _ => none
def Code.loops : Code → List Code
 | .seq a b => Code.loops a ++ Code.loops b
 | .cond _ a b => Code.loops a ++ Code.loops b
 | .block _ b => Code.loops b
 | .loop b => [b]
 | _ => []
abbrev Rf (α : Type) := Operand → Array Tmp → Code → Code → St → (Ex → St → α) → α
def noRf (A : Alg α) : Rf α := fun _ _ _ _ _ _ => A.no
noncomputable def codeA (A : Alg α) (P : Program) (T : Tab) (LT : LTab α) (lp : Code → St → (Ex → St → α) → α) (inl : Inl α) (rf : Rf α) : Code → St → (Ex → St → α) → α
 | .skip, st, Q => Q .normal st
 | .label _, st, Q => Q .normal st
 | .seq a b, st, Q => codeA A P T LT lp inl rf a st fun e st' => match e with
  | .normal => codeA A P T LT lp inl rf b st' Q
  | e => Q e st'
 | .cond c a b, st, Q =>
  match evOf (tmAll st) c with
  | some (.bool x) => A.br x (fst (refC st c true) fun st => codeA A P T LT lp inl rf a st Q) (fst (refC st c false) fun st => codeA A P T LT lp inl rf b st Q)
  | _ => A.no
 | .block id b, st, Q => codeA A P T LT lp inl rf b st fun e st' => match e with
  | .exit i => if i = id then Q .normal st' else Q (.exit i) st'
  | e => Q e st'
 | .loop b, st, Q =>
  match LT (Code.first b) with
  | some lc => lc st Q
  | none => lp b st Q
 | .exit id, st, Q => Q (.exit id) st
 | .ret, st, Q => Q .ret st
 | .region _ ops draw, st, Q => regionA A P T inl ops draw st fun st' => Q .normal st'
 | .rangeFunc f ps a b, st, Q => rf f ps a b st Q
 | _, _, _ => A.no
end walk
noncomputable def resA (P : Program) (st : St) : List ResultVar → Option (List AV)
 | [] => some []
 | .tmp t :: r =>
  match tmAll st t, resA P st r with
  | some v, some vs => some (v :: vs)
  | _, _ => none
 | .cell a t :: r =>
  match tmAll st a, resA P st r with
  | some (.ptr m i s j), some vs =>
   match loadA P (rdFlat st.h) t (.ptr m i s j) with
   | some (true, v) => some (v :: vs)
   | _ => none
  | _, _ => none
def resV : List AV → AV
 | [v] => v
 | l => .tup l
def entryT (fn : Func) (args : List AV) : List (Option AV) := args.map some ++ List.replicate (fn.ntmps - args.length) none
section walk
variable {α : Type}
noncomputable def shut : List Nat → Heap → Option Heap
 | [], h => some h
 | n :: r, h =>
  match rdFlat h n with
  | some .dfr => shut r (h.set n (some .dead))
  | _ => none
noncomputable def bodyA (A : Alg α) (P : Program) (T : Tab) (LT : LTab α) (lp : Code → St → (Ex → St → α) → α) (inl : Inl α) (rf : Rf α) (fn : Func) (args : List AV) (h : Heap) (K : AV → Heap → α) : α :=
 match fn.body with
 | some c => fl A args fun args => fst ⟨entryT fn args, h, []⟩ fun st => codeA A P T LT lp inl rf c st fun e st => match e with
  | .normal | .ret =>
   match shut st.d st.h with
   | some h2 =>
    match resA P ⟨st.t, h2, []⟩ fn.results.toList with
    | some l => fl A l fun l => K (resV l) h2
    | none => A.no
   | none => A.no
  | _ => A.no
 | none => A.no
def setPs : List (Option AV) → List Nat → List AV → List (Option AV)
 | t, p :: ps, v :: vs => setPs (t.set p (some v)) ps vs
 | t, _, _ => t
def yieldOf (o : Oper) (e : Operand → Option AV) : Option (Nat × List AV) :=
 match o.op with
 | .call c =>
  match c.callee with
  | .value f =>
   match e f, evAll e c.args.toList with
   | some (.yl n), some args => some (n, args)
   | _, _ => none
  | _ => none
 | _ => none
noncomputable def roundA (A : Alg α) (cd : Code → St → (Ex → St → α) → α) (n : Nat) (args : List AV) (h : Heap) (K : AV → Heap → α) : α :=
 match rdFlat h n with
 | some (.loop .ready _ t ps assign body) =>
  if args.length = ps.length then
   fst ⟨setPs t ps args, h, []⟩ fun st => cd assign st fun e1 st1 => match e1 with
   | .normal =>
    match rdFlat st1.h n with
    | some (.loop .ready p1 t1 ps1 as1 b1) =>
     cd body ⟨st1.t, st1.h.set n (some (.loop .busy p1 t1 ps1 as1 b1)), st1.d⟩ fun e2 st2 =>
      match rdFlat st2.h n with
      | some (.loop _ _ t2 ps2 as2 b2) =>
       match e2 with
       | .normal => K (.bool true) (st2.h.set n (some (.loop .ready none t2 ps2 as2 b2)))
       | .ret => K (.bool false) (st2.h.set n (some (.loop .done (some .ret) t2 ps2 as2 b2)))
       | .exit id => K (.bool false) (st2.h.set n (some (.loop .done (some (.exit id)) t2 ps2 as2 b2)))
      | _ => A.no
    | _ => A.no
   | _ => A.no
  else A.no
 | _ => A.no
noncomputable def rangeA (A : Alg α) (call : FuncId → List AV → Heap → (AV → Heap → α) → α) : Rf α := fun f ps assign body st Q =>
 match evOf (tmAll st) f with
 | some (.fn (.func g) first cap) =>
  call g (first ++ [.yl (st.h.length + 1)] ++ cap) (st.h ++ [some .dfr, some (.loop .ready none st.t ps.toList assign body)]) fun _ h2 =>
   match rdFlat h2 (st.h.length + 1) with
   | some (.loop s pend _ _ _ _) =>
    if s = .busy then A.no
    else match pend with
    | none => fst ⟨st.t, h2.set (st.h.length + 1) (some .dead), st.h.length :: st.d⟩ fun st => Q .normal st
    | some .ret => fst ⟨st.t, h2.set (st.h.length + 1) (some .dead), st.h.length :: st.d⟩ fun st => Q .ret st
    | some (.exit id) => fst ⟨st.t, h2.set (st.h.length + 1) (some .dead), st.h.length :: st.d⟩ fun st => Q (.exit id) st
    | _ => A.no
   | _ => A.no
 | _ => A.no
mutual
noncomputable def alp (A : Alg α) (P : Program) (T : Tab) (rf : Rf α) : Nat → Code → St → (Ex → St → α) → α
 | 0 => fun _ _ _ => A.no
 | n + 1 => fun b st Q => codeA A P T noLoops (alp A P T rf n) (ainl A P T n) rf b st fun e st' => match e with
  | .normal => alp A P T rf n b st' Q
  | e => Q e st'
noncomputable def ainl (A : Alg α) (P : Program) (T : Tab) : Nat → Inl α
 | 0 => fun _ _ _ _ => A.no
 | n + 1 => fun o e h K =>
  match siterOf o e (rdFlat h) with
  | some (m, s, pos) => A.br (decide (pos < s.size)) (K (.tup [.bool true, .int .i64 pos, .int .i32 (Utf8.decode s pos).1]) (h.set m (some (.siter s (pos + (Utf8.decode s pos).2))))) (K (.tup [.bool false]) h)
  | none =>
  match xop P o e (rdFlat h) h.length with
  | some (p, v, s, a) => A.br p (fso A s fun s => fao A a fun a => K v (xheap h s a)) A.no
  | none =>
   match callOf P o e with
   | some (g, args) => acall A P T n g args h K
   | none =>
    match yieldOf o e with
    | some (nl, args) => roundA A (codeA A P T noLoops (alp A P T (noRf A) n) (ainl A P T n) (noRf A)) nl args h K
    | none => A.no
noncomputable def acall (A : Alg α) (P : Program) (T : Tab) : Nat → FuncId → List AV → Heap → (AV → Heap → α) → α
 | 0 => fun _ _ _ _ => A.no
 | n + 1 => fun g args h K =>
  match P.funcs[g]? with
  | some fn => if fn.name == "runtime.NumGoroutine" then A.no else bodyA A P T noLoops (alp A P T (rangeA A (acall A P T n)) n) (ainl A P T n) (rangeA A (acall A P T n)) fn args h K
  | none => A.no
end
noncomputable def afn (A : Alg α) (P : Program) (T : Tab) (LT : LTab α) (n : Nat) (f : FuncId) (args : List AV) (K : AV → Heap → α) : α :=
 match P.funcs[f]? with
 | some fn => bodyA A P T LT (alp A P T (rangeA A (acall A P T n)) n) (ainl A P T n) (rangeA A (acall A P T n)) fn args [] K
 | none => A.no
noncomputable def afv (A : Alg α) (P : Program) (T : Tab) (LT : LTab α) (n : Nat) (f : FuncId) (args : List AV) (K : AV → α) : α := afn A P T LT n f args fun v _ => K v
def loopOf (P : Program) (f : FuncId) (i : Nat) : Code := (((P.funcs[f]?).bind (·.body)).bind fun c => (Code.loops c)[i]?).getD .skip
end walk
noncomputable def toNu (h : Heap) : Nat → AV → AV
 | _, .gs n s len => match rdFlat h n with
  | some (.own true e s' l) => if s = s' ∧ l.length = len * s then .nu e s len l else .gs n s len
  | some (.vec e s' len' c) => if s = s' then .nv s len c else .gs n s len
  | _ => .gs n s len
 | _, .nu .. | _, .nv .. => .ptr 0 0 0 0
 | n + 1, .agg l => .agg (l.map (toNu h n))
 | n + 1, .tup l => .tup (l.map (toNu h n))
 | _, v => v
noncomputable def nuC (h : Heap) : Nat → AV → Bool
 | _, .gs n _ len => match rdFlat h n with
  | some (.vec _ _ len' _) => Nat.ble len len'
  | _ => true
 | n + 1, .agg l => l.all (nuC h n)
 | n + 1, .tup l => l.all (nuC h n)
 | _, _ => true
noncomputable def nuK (h : Heap) (u : AV) (K : AV → Prop) : Prop := brc (nuC h 4 u) (K (toNu h 4 u)) False
noncomputable def runC (P : Program) (rounds : Nat) (T : Tab) (f : FuncId) : Con := fun args =>
 if (P.funcs[f]?).any (fun fn => !(fn.name == "runtime.NumGoroutine")) then
  match afn (OA AV) P T noLoops rounds f args fun v h => cond (nuC h 4 v) (fv (OA AV) (toNu h 4 v) some) none with
  | some v => if v.okN 4 && decide ((v.nus 4).length ≤ 1) then some (true, v) else none
  | none => none
 else none
noncomputable def runT (P : Program) (rounds : Nat) (T0 : Tab) : Nat → Tab
 | 0 => T0
 | k + 1 => fun f => match T0 f with
  | some c => some c
  | none => some (runC P rounds (runT P rounds T0 k) f)
abbrev Names := Nat → Option (Nat × Nat)
abbrev noNames : Names := fun _ => none
mutual
inductive RV : Names → World → AV → Value → Prop
 | undef {ρ : Names} {W : World} : RV ρ W .undef Go.undef
 | bool {ρ : Names} {W : World} (b : Bool) : RV ρ W (.bool b) (.bool b)
 | int {ρ : Names} {W : World} (k : IntKind) (n : Int) : RV ρ W (.int k n) (.int k n)
 | str {ρ : Names} {W : World} (s : ByteArray) : RV ρ W (.str s) (.string s)
 | anys {ρ : Names} {W : World} (s : ByteArray) : RV ρ W .anys (.string s)
 | nilp {ρ : Names} {W : World} : RV ρ W .nilp (.pointer none)
 | nilsl {ρ : Names} {W : World} : RV ρ W .nilsl (.slice none 0 0)
 | nilmap {ρ : Names} {W : World} : RV ρ W .nilmap (.map none)
 | nilf {ρ : Names} {W : World} : RV ρ W .nilf .nilFunc
 | nili {ρ : Names} {W : World} : RV ρ W .nili .nilIface
 | ptr {ρ : Names} {W : World} {n b o : Nat} (i s j : Nat) (h : ρ n = some (b, o)) : RV ρ W (.ptr n i s j) (.pointer (some ⟨b, o + (i * s + j), none⟩))
 | cp {ρ : Names} {W : World} {b o : Nat} {l : List AV} {L : List Value} (j : Nat) (hb : b < W.heap.size) (hl : RL noNames W l L) (hc : ∀ (x : Nat) (v : Value), L[x]? = some v → W.cell? ⟨b, o + x, none⟩ = some v) :
  RV ρ W (.cp l j) (.pointer (some ⟨b, o + j, none⟩))
 | sl {ρ : Names} {W : World} {n b o : Nat} (i s len cap off : Nat) (h : ρ n = some (b, o)) (hl : len ≤ cap) (ho : len = 0 ∨ off = o + i * s) : RV ρ W (.sl n i s len) (.slice (some ⟨b, off, none⟩) len cap)
 | csl {ρ : Names} {W : World} {b o : Nat} (s len cap : Nat) (c : Nat → Nat → AV) (V : Nat → Nat → Value) (hb : b < W.heap.size) (hl : len ≤ cap)
  (hc : ∀ i j, i < len → j < s → W.cell? ⟨b, o + (i * s + j), none⟩ = some (V i j)) (hr : ∀ i j, i < len → j < s → RV noNames W (c i j) (V i j)) :
  RV ρ W (.csl s len c) (.slice (some ⟨b, o, none⟩) len cap)
 | csl0 {ρ : Names} {W : World} (s : Nat) (c : Nat → Nat → AV) : RV ρ W (.csl s 0 c) (.slice none 0 0)
 | sl0 {ρ : Names} {W : World} (n i s : Nat) : RV ρ W (.sl n i s 0) (.slice none 0 0)
 | gs {ρ : Names} {W : World} {n b cap : Nat} (s len : Nat) (h : ρ n = some (b, cap)) (hl : len ≤ cap) : RV ρ W (.gs n s len) (.slice (some ⟨b, 0, none⟩) len cap)
 | gp {ρ : Names} {W : World} {n b cap : Nat} (i s j : Nat) (h : ρ n = some (b, cap)) : RV ρ W (.gp n i s j) (.pointer (some ⟨b, i * s + j, none⟩))
 | mp {ρ : Names} {W : World} {n b o : Nat} (h : ρ n = some (b, o)) : RV ρ W (.mp n) (.map (some b))
 | nu {ρ : Names} {W : World} {b cap : Nat} {l : List AV} {L : List Value} (e s len : Nat) (hb : b < W.heap.size) (hc : cap ≤ maxLen) (hl : len ≤ cap) (hW : W.heap[b]? = some (.cells L.toArray e (0, 0))) (hs : L.length = cap * s) (hlen : l.length = len * s) (h : RL noNames W l (L.take l.length)) :
  RV ρ W (.nu e s len l) (.slice (some ⟨b, 0, none⟩) len cap)
 | nv {ρ : Names} {W : World} {b o : Nat} (s len cap : Nat) (c : Nat → Nat → AV) (V : Nat → Nat → Value) (hb : b < W.heap.size) (hl : len ≤ cap)
  (hc : ∀ i j, i < len → j < s → W.cell? ⟨b, o + (i * s + j), none⟩ = some (V i j)) (hr : ∀ i j, i < len → j < s → RV noNames W (c i j) (V i j)) (hf : ∀ i j, i < len → j < s → (c i j).flat 0 = true) :
  RV ρ W (.nv s len c) (.slice (some ⟨b, o, none⟩) len cap)
 | nv0 {ρ : Names} {W : World} (s : Nat) (c : Nat → Nat → AV) : RV ρ W (.nv s 0 c) (.slice none 0 0)
 | yl {ρ : Names} {W : World} {n b o : Nat} (h : ρ n = some (b, o)) : RV ρ W (.yl n) (.func (.yield b) #[] #[])
 | fn {ρ : Names} {W : World} (f : Fn) {a b : List AV} {A B : List Value} (ha : RL ρ W a A) (hb : RL ρ W b B) : RV ρ W (.fn f a b) (.func f A.toArray B.toArray)
 | ifc {ρ : Names} {W : World} (t : TypeId) {v : AV} {V : Value} (h : RV ρ W v V) : RV ρ W (.ifc t v) (.iface t V)
 | agg {ρ : Names} {W : World} {l : List AV} {L : List Value} (h : RL ρ W l L) : RV ρ W (.agg l) (.agg L.toArray)
 | tup {ρ : Names} {W : World} {l : List AV} {L : List Value} (h : RL ρ W l L) : RV ρ W (.tup l) (.tuple L.toArray)
inductive RL : Names → World → List AV → List Value → Prop
 | nil {ρ : Names} {W : World} : RL ρ W [] []
 | cons {ρ : Names} {W : World} {v : AV} {V : Value} {l : List AV} {L : List Value} (h : RV ρ W v V) (t : RL ρ W l L) : RL ρ W (v :: l) (V :: L)
end
def Ext (ρ ρ' : Names) : Prop := ∀ n p, ρ n = some p → ρ' n = some p
theorem Ext.refl (ρ : Names) : Ext ρ ρ := fun _ _ h => h
theorem Ext.trans {a b c : Names} (h : Ext a b) (k : Ext b c) : Ext a c := fun n p x => k n p (h n p x)
def Keeps (W W' : World) : Prop := W.heap.size ≤ W'.heap.size ∧ ∀ b, b < W.heap.size → W'.heap[b]? = W.heap[b]?
theorem Keeps.refl (W : World) : Keeps W W := ⟨Nat.le_refl _, fun _ _ => rfl⟩
theorem Keeps.cell {W W' : World} (h : Keeps W W') {b o : Nat} (hb : b < W.heap.size) : W'.cell? ⟨b, o, none⟩ = W.cell? ⟨b, o, none⟩ :=
 World.cell?_of_block (w := W) (h.2 b hb)
theorem Keeps.of_below {W w : World} (h : Below W.heap.size W w) : Keeps W w := ⟨h.size, h.block⟩
mutual
theorem RV.move_ : ∀ {ρ : Names} {W : World} {v : AV} {V : Value}, RV ρ W v V → ∀ {ρ' : Names} {W' : World}, Ext ρ ρ' → Keeps W W' → RV ρ' W' v V
 | _, _, _, _, .undef, _, _, _, _ => .undef
 | _, _, _, _, .bool b, _, _, _, _ => .bool b
 | _, _, _, _, .int k n, _, _, _, _ => .int k n
 | _, _, _, _, .str s, _, _, _, _ => .str s
 | _, _, _, _, .anys s, _, _, _, _ => .anys s
 | _, _, _, _, .nilp, _, _, _, _ => .nilp
 | _, _, _, _, .nilsl, _, _, _, _ => .nilsl
 | _, _, _, _, .nilmap, _, _, _, _ => .nilmap
 | _, _, _, _, .nilf, _, _, _, _ => .nilf
 | _, _, _, _, .nili, _, _, _, _ => .nili
 | _, _, _, _, .ptr i s j h, _, _, he, hk => .ptr i s j (he _ _ h)
 | _, _, _, _, .cp j hb hl hc, _, _, he, hk => .cp j (Nat.lt_of_lt_of_le hb hk.1) (RL.move_ hl (Ext.refl _) hk) (fun x v h => (hk.cell hb).trans (hc x v h))
 | _, _, _, _, .sl i s len cap off h hl ho, _, _, he, hk => .sl i s len cap off (he _ _ h) hl ho
 | _, _, _, _, .csl s len cap c V hb hl hc hr, _, _, he, hk => .csl s len cap c V (Nat.lt_of_lt_of_le hb hk.1) hl (fun i j hi hj => (hk.cell hb).trans (hc i j hi hj)) (fun i j hi hj => RV.move_ (hr i j hi hj) (Ext.refl _) hk)
 | _, _, _, _, .csl0 s c, _, _, _, _ => .csl0 s c
 | _, _, _, _, .sl0 n i s, _, _, _, _ => .sl0 n i s
 | _, _, _, _, .nv s len cap c V hb hl hc hr hf, _, _, he, hk => .nv s len cap c V (Nat.lt_of_lt_of_le hb hk.1) hl (fun i j hi hj => (hk.cell hb).trans (hc i j hi hj)) (fun i j hi hj => RV.move_ (hr i j hi hj) (Ext.refl _) hk) hf
 | _, _, _, _, .nv0 s c, _, _, _, _ => .nv0 s c
 | _, _, _, _, .gs s len h hl, _, _, he, hk => .gs s len (he _ _ h) hl
 | _, _, _, _, .gp i s j h, _, _, he, hk => .gp i s j (he _ _ h)
 | _, _, _, _, .mp h, _, _, he, hk => .mp (he _ _ h)
 | _, _, _, _, .yl h, _, _, he, hk => .yl (he _ _ h)
 | _, _, _, _, .nu e s len hb hc hl hW hs hlen h, _, _, he, hk => .nu e s len (Nat.lt_of_lt_of_le hb hk.1) hc hl ((hk.2 _ hb).trans hW) hs hlen (RL.move_ h (Ext.refl _) hk)
 | _, _, _, _, .fn f ha hb, _, _, he, hk => .fn f (RL.move_ ha he hk) (RL.move_ hb he hk)
 | _, _, _, _, .ifc t h, _, _, he, hk => .ifc t (RV.move_ h he hk)
 | _, _, _, _, .agg h, _, _, he, hk => .agg (RL.move_ h he hk)
 | _, _, _, _, .tup h, _, _, he, hk => .tup (RL.move_ h he hk)
theorem RL.move_ : ∀ {ρ : Names} {W : World} {l : List AV} {L : List Value}, RL ρ W l L → ∀ {ρ' : Names} {W' : World}, Ext ρ ρ' → Keeps W W' → RL ρ' W' l L
 | _, _, _, _, .nil, _, _, _, _ => .nil
 | _, _, _, _, .cons h t, _, _, he, hk => .cons (RV.move_ h he hk) (RL.move_ t he hk)
end
theorem RV.move {ρ ρ' : Names} {W W' : World} (he : Ext ρ ρ') (hk : Keeps W W') {v : AV} {V : Value} (h : RV ρ W v V) : RV ρ' W' v V := h.move_ he hk
theorem RL.move {ρ ρ' : Names} {W W' : World} (he : Ext ρ ρ') (hk : Keeps W W') {l : List AV} {L : List Value} (h : RL ρ W l L) : RL ρ' W' l L := h.move_ he hk
theorem Ext.none (ρ : Names) : Ext noNames ρ := fun _ _ h => by cases h
theorem RV.ext {ρ ρ' : Names} {W : World} (he : Ext ρ ρ') {v : AV} {V : Value} (h : RV ρ W v V) : RV ρ' W v V := h.move he (Keeps.refl W)
theorem RL.ext {ρ ρ' : Names} {W : World} (he : Ext ρ ρ') {v : List AV} {V : List Value} (h : RL ρ W v V) : RL ρ' W v V := h.move he (Keeps.refl W)
theorem RL.length {ρ : Names} {W : World} : ∀ {l : List AV} {L : List Value}, RL ρ W l L → l.length = L.length
 | _, _, .nil => rfl
 | _, _, .cons _ t => by simp [RL.length t]
theorem RL.get {ρ : Names} {W : World} : ∀ {l : List AV} {L : List Value}, RL ρ W l L → ∀ (i : Nat) (v : AV), l[i]? = some v → ∃ V, L[i]? = some V ∧ RV ρ W v V
 | _, _, .nil, _, _, h => by simp at h
 | _, _, .cons h t, 0, v, e => by simp at e; subst e; exact ⟨_, rfl, h⟩
 | _, _, .cons h t, i + 1, v, e => by simp at e; simpa using RL.get t i v e
theorem RL.append {ρ : Names} {W : World} : ∀ {l : List AV} {L : List Value} {m : List AV} {M : List Value}, RL ρ W l L → RL ρ W m M → RL ρ W (l ++ m) (L ++ M)
 | _, _, _, _, .nil, k => k
 | _, _, _, _, .cons h t, k => .cons h (RL.append t k)
theorem RL.drop {ρ : Names} {W : World} : ∀ (n : Nat) {l : List AV} {L : List Value}, RL ρ W l L → RL ρ W (l.drop n) (L.drop n)
 | 0, _, _, h => h
 | n + 1, _, _, .nil => .nil
 | n + 1, _, _, .cons _ t => RL.drop n t
theorem RL.take {ρ : Names} {W : World} : ∀ (n : Nat) {l : List AV} {L : List Value}, RL ρ W l L → RL ρ W (l.take n) (L.take n)
 | 0, _, _, h => .nil
 | n + 1, _, _, .nil => .nil
 | n + 1, _, _, .cons h t => .cons h (RL.take n t)
theorem RL.set {ρ : Names} {W : World} {v : AV} {V : Value} (hv : RV ρ W v V) : ∀ (n : Nat) {l : List AV} {L : List Value}, RL ρ W l L → RL ρ W (l.set n v) (L.set n V)
 | _, _, _, .nil => .nil
 | 0, _, _, .cons _ t => .cons hv t
 | n + 1, _, _, .cons h t => .cons h (RL.set hv n t)
theorem RL.map {ρ : Names} {W : World} {α : Type} (f : α → AV) (g : α → Value) : ∀ (l : List α), (∀ x ∈ l, RV ρ W (f x) (g x)) → RL ρ W (l.map f) (l.map g)
 | [], _ => .nil
 | x :: l, h => .cons (h x (by simp)) (RL.map f g l fun y hy => h y (by simp [hy]))
def setAtV : List Value → Nat → List Value → List Value
 | l, _, [] => l
 | l, j, v :: vs => setAtV (l.set j v) (j + 1) vs
theorem RL.setAt {ρ : Names} {W : World} : ∀ {m : List AV} {M : List Value}, RL ρ W m M → ∀ (j : Nat) {l : List AV} {L : List Value}, RL ρ W l L → RL ρ W (setAt l j m) (setAtV L j M)
 | _, _, .nil, _, _, _, h => h
 | _, _, .cons hv t, j, _, _, h => RL.setAt t (j + 1) (RL.set hv j h)
theorem RV.cells {ρ : Names} {W : World} {v : AV} {V : Value} (h : RV ρ W v V) : RL ρ W v.cells V.cells.toList := by
 cases h
 case agg h => simpa [AV.cells, Value.cells] using h
 all_goals (simp only [AV.cells, Value.cells]; exact .cons (by constructor <;> assumption) .nil)
theorem RV.one {ρ : Names} {W : World} {v : AV} {V : Value} (h : RV ρ W v V) (h1 : v.one = true) : V.oneCell' = true := by
 cases h <;> simp_all [AV.one, Value.oneCell']
theorem RL.one {ρ : Names} {W : World} : ∀ {l : List AV} {L : List Value}, RL ρ W l L → l.all AV.one = true → ∀ V ∈ L, V.oneCell' = true
 | _, _, .nil, _, _, h => by simp at h
 | _, _, .cons h t, ha, V, hm => by
  simp only [List.all_cons, Bool.and_eq_true] at ha
  rcases List.mem_cons.1 hm with rfl | hm
  · exact h.one ha.1
  · exact RL.one t ha.2 V hm
theorem mapM_cons_some {α β : Type} {f : α → Option β} {a : α} {l : List α} {r : List β} (h : (a :: l).mapM f = some r) : ∃ b bs, f a = some b ∧ l.mapM f = some bs ∧ r = b :: bs := by
 simp only [List.mapM_cons, Option.bind_eq_bind, Option.bind_eq_some_iff, Option.pure_def, Option.some.injEq] at h
 obtain ⟨b, hb, bs, hbs, rfl⟩ := h
 exact ⟨b, bs, hb, hbs, rfl⟩
theorem RL.mapM_of {ρ : Names} {W : World} {f : Value → Option AV} (hf : ∀ V v, f V = some v → RV ρ W v V) : ∀ (L : List Value) (l : List AV), L.mapM f = some l → RL ρ W l L
 | [], l, h => by simp at h; subst h; exact .nil
 | V :: L, l, h => by
  obtain ⟨b, bs, h1, h2, rfl⟩ := mapM_cons_some h
  exact .cons (hf _ _ h1) (RL.mapM_of hf L bs h2)
theorem ofV_ok (ρ : Names) (W : World) : ∀ (n : Nat) (V : Value) (v : AV), ofV n V = some v → RV ρ W v V := by
 intro n
 induction n with
 | zero =>
  intro V v h
  unfold ofV at h
  split at h <;> simp at h
  case h_9 heq => cases heq
  case h_10 heq => cases heq
  all_goals (subst h; constructor)
 | succ n ih =>
  intro V v h
  cases V <;> try simp only [ofV] at h
  case bool => simp at h; subst h; constructor
  case int => simp at h; subst h; constructor
  case string => simp at h; subst h; constructor
  case nilFunc => simp at h; subst h; constructor
  case nilIface => simp at h; subst h; constructor
  case pointer a => cases a <;> simp [ofV] at h; subst h; constructor
  case map a => cases a <;> simp [ofV] at h; subst h; constructor
  case slice a l c =>
   cases a <;> cases l <;> cases c <;> simp [ofV] at h
   subst h; constructor
  case iface t u =>
   simp only [Option.map_eq_some_iff] at h
   obtain ⟨a, ha, rfl⟩ := h
   exact .ifc _ (ih _ _ ha)
  case agg cs =>
   simp only [Option.map_eq_some_iff] at h
   obtain ⟨a, ha, rfl⟩ := h
   have := RL.mapM_of (ρ := ρ) (W := W) ih _ _ ha
   simpa using RV.agg this
  all_goals simp at h
structure TR (ρ : Names) (W : World) (t : List (Option AV)) (a : Array Value) : Prop where
 len : t.length = a.size
 get : ∀ (i : Nat) (v : AV), t[i]? = some (some v) → ∃ V, a[i]? = some V ∧ RV ρ W v V
theorem TR.ext {ρ ρ' : Names} {W : World} {t : List (Option AV)} {a : Array Value} (h : TR ρ W t a) (he : Ext ρ ρ') : TR ρ' W t a :=
 ⟨h.len, fun i v hv => let ⟨V, h1, h2⟩ := h.get i v hv; ⟨V, h1, h2.ext he⟩⟩
inductive RE (ρ : Names) (W : World) : List (AV × AV) → List MapEntry → Prop
 | nil : RE ρ W [] []
 | cons {k v : AV} {e : MapEntry} {l : List (AV × AV)} {L : List MapEntry} (hk : RV ρ W k e.key) (hv : RV ρ W v e.val) (t : RE ρ W l L) : RE ρ W ((k, v) :: l) (e :: L)
theorem RE.ext {ρ ρ' : Names} {W : World} (he : Ext ρ ρ') : ∀ {l : List (AV × AV)} {L : List MapEntry}, RE ρ W l L → RE ρ' W l L
 | _, _, .nil => .nil
 | _, _, .cons hk hv t => .cons (hk.ext he) (hv.ext he) (RE.ext he t)
def Holds (ρ : Names) (W : World) (w : World) (b o : Nat) : Ob → Prop
 | .cells l => W.heap.size ≤ b ∧ o = 0 ∧ ∃ L t, w.heap[b]? = some (.cells (List.toArray L) t (0, 0)) ∧ RL ρ W l L
 | .row s len c => ∃ V : Nat → Nat → Value, (∀ i j, i < len → j < s → w.cell? ⟨b, o + (i * s + j), none⟩ = some (V i j)) ∧ (∀ i j, i < len → j < s → RV noNames W (c i j) (V i j))
 | .own z e s l => W.heap.size ≤ b ∧ o ≤ maxLen ∧ ∃ L fz, w.heap[b]? = some (.cells (List.toArray L) e fz) ∧ L.length = o * s ∧ (z = true → fz = (0, 0)) ∧ (∀ x, x < L.length → (decide (fz.1 ≤ x) && decide (x < fz.2)) = false) ∧ l.length ≤ L.length ∧ RL ρ W l (L.take l.length)
 | .vec e s len c => W.heap.size ≤ b ∧ o ≤ maxLen ∧ ∃ L, w.heap[b]? = some (.cells (List.toArray L) e (0, 0)) ∧ L.length = o * s ∧ len ≤ o ∧ ∀ i j, i < len → j < s → ∃ V, L[i * s + j]? = some V ∧ RV noNames W (c i j) V ∧ (c i j).plain = true
 | .mapo l c => W.heap.size ≤ b ∧ ∃ L, w.heap[b]? = some (.map (List.toArray L) c) ∧ RE ρ W l L
 | .siter s p => W.heap.size ≤ b ∧ o = 0 ∧ w.heap[b]? = some (.stringIter s p)
 | .loop s pe t ps sg bo => W.heap.size ≤ b ∧ ∃ r : Loop, w.heap[b]? = some (.loop r) ∧ r.state = s ∧ r.pending = pe ∧ r.params.toList = ps ∧ r.assign = sg ∧ r.body = bo ∧ TR ρ W t r.tmps
 | .dfr => W.heap.size ≤ b ∧ o = 0 ∧ w.heap[b]? = some (.deferred (some []))
 | .dead => True
structure Rel (ρ : Names) (W : World) (h : Heap) (w : World) : Prop where
 bel : Below W.heap.size W w
 dom : ∀ n p, ρ n = some p → (∃ x, h[n]? = some (some x)) ∧ p.1 < w.heap.size
 obs : ∀ n x, h[n]? = some (some x) → x.void = true ∨ ∃ b o, ρ n = some (b, o) ∧ Holds ρ W w b o x
 sep : ∀ n x b o, h[n]? = some (some x) → x.excl = true → ρ n = some (b, o) → ∀ m p y, ρ m = some p → p.1 = b → h[m]? = some (some y) → y ≠ .dead → m = n
theorem Rel.ob {ρ : Names} {W : World} {h : Heap} {w : World} (r : Rel ρ W h w) (n : Nat) (x : Ob) (hx : h[n]? = some (some x)) (hv : x.void = false := by rfl) : ∃ b o, ρ n = some (b, o) ∧ Holds ρ W w b o x := by
 rcases r.obs n x hx with h | h
 · rw [hv] at h; cases h
 · exact h
theorem Ob.excl_void {x : Ob} (h : x.excl = true) : x.void = false := by cases x <;> first | rfl | cases h
theorem Rel.start (W : World) : Rel (fun _ => none) W [] W := ⟨Below.refl _ _, by simp, by simp, by simp⟩
theorem Holds.block {ρ : Names} {W w w' : World} {b o : Nat} {x : Ob} (h : Holds ρ W w b o x) (hb : w'.heap[b]? = w.heap[b]?) : Holds ρ W w' b o x := by
 cases x with
 | cells l => obtain ⟨h1, h2, L, t, h3, h4⟩ := h; exact ⟨h1, h2, L, t, hb.trans h3, h4⟩
 | row s len c => obtain ⟨V, h1, h2⟩ := h; exact ⟨V, fun i j hi hj => (World.cell?_of_block (a := ⟨b, _, none⟩) (w := w) hb).trans (h1 i j hi hj), h2⟩
 | own z e s l => obtain ⟨h1, h2, L, fz, h3, h4⟩ := h; exact ⟨h1, h2, L, fz, hb.trans h3, h4⟩
 | vec e s len c => obtain ⟨h1, h2, L, h3, h4⟩ := h; exact ⟨h1, h2, L, hb.trans h3, h4⟩
 | mapo l c => obtain ⟨h1, L, h3, h4⟩ := h; exact ⟨h1, L, hb.trans h3, h4⟩
 | siter s p => obtain ⟨h1, h2, h3⟩ := h; exact ⟨h1, h2, hb.trans h3⟩
 | loop s pe t ps sg bo => obtain ⟨h1, r, h3, h4⟩ := h; exact ⟨h1, r, hb.trans h3, h4⟩
 | dfr => obtain ⟨h1, h2, h3⟩ := h; exact ⟨h1, h2, hb.trans h3⟩
 | dead => trivial
theorem Holds.ext {ρ ρ' : Names} {W w : World} {b o : Nat} {x : Ob} (he : Ext ρ ρ') (h : Holds ρ W w b o x) : Holds ρ' W w b o x := by
 cases x with
 | cells l => obtain ⟨h1, h2, L, t, h3, h4⟩ := h; exact ⟨h1, h2, L, t, h3, h4.ext he⟩
 | row s len c => exact h
 | own z e s l => obtain ⟨h1, h2, L, fz, h3, h4, h5, h6, h7, h8⟩ := h; exact ⟨h1, h2, L, fz, h3, h4, h5, h6, h7, h8.ext he⟩
 | vec e s len c => exact h
 | mapo l c => obtain ⟨h1, L, h3, h4⟩ := h; exact ⟨h1, L, h3, h4.ext he⟩
 | siter s p => exact h
 | loop s pe t ps sg bo => obtain ⟨h1, r, h3, h4, h5, h6, h7, h8, h9⟩ := h; exact ⟨h1, r, h3, h4, h5, h6, h7, h8, h9.ext he⟩
 | dfr => exact h
 | dead => trivial
theorem Holds.base {ρ : Names} {W w : World} {b o : Nat} {x : Ob} (h : Holds ρ W w b o x) (hx : x.excl = true) : W.heap.size ≤ b := by
 cases x <;> simp [Ob.excl] at hx <;> exact h.1
theorem Rel.below {ρ : Names} {W w w' : World} {h : Heap} (r : Rel ρ W h w) (hb : Below w.heap.size w w') : Rel ρ W h w' := by
 refine ⟨r.bel.trans (hb.mono r.bel.size), fun n p hp => ⟨(r.dom n p hp).1, Nat.lt_of_lt_of_le (r.dom n p hp).2 hb.size⟩, fun n x hx => ?_, r.sep⟩
 rcases r.obs n x hx with hv | ⟨b, o, h1, h2⟩
 · exact .inl hv
 exact .inr ⟨b, o, h1, h2.block (hb.block b (r.dom n _ h1).2)⟩
theorem Rel.drew {ρ : Names} {W w : World} {h : Heap} (r : Rel ρ W h w) : Rel ρ W h { w with drawn := w.drawn + 1 } :=
 r.below ((Below.refl _ _).drew)
theorem Rel.room {ρ : Names} {W w : World} {h : Heap} (r : Rel ρ W h w) (k : Nat) : Rel ρ W (h ++ List.replicate k none) w := by
 have hx : ∀ n x, (h ++ List.replicate k none)[n]? = some (some x) → h[n]? = some (some x) := fun n x hx => by
  rw [List.getElem?_append] at hx
  split at hx
  · exact hx
  · simp [List.getElem?_replicate] at hx
 refine ⟨r.bel, fun n p hp => ?_, fun n x h' => r.obs n x (hx n x h'), fun n x b o h' he hp m p y hm hb hy => r.sep n x b o (hx n _ h') he hp m p y hm hb (hx m _ hy)⟩
 obtain ⟨⟨x, h1⟩, h2⟩ := r.dom n p hp
 refine ⟨⟨x, ?_⟩, h2⟩
 rw [List.getElem?_append, if_pos (by rcases Nat.lt_or_ge n h.length with q | q; exact q; simp [List.getElem?_eq_none q] at h1)]
 exact h1
def Fresh (h : Heap) (nm : Nat) : Prop := nm = h.length ∨ h[nm]? = some none
theorem effH_alloc_get {h : Heap} {nm : Nat} (hf : Fresh h nm) (x : Ob) (n : Nat) : (effH h nm (.alloc x))[n]? = if n = nm then some (some x) else h[n]? := by
 simp only [effH]
 rcases hf with rfl | hf
 · rw [if_neg (by omega)]
   by_cases hn : n = h.length
   · subst hn; simp
   · rw [if_neg hn, List.getElem?_append]
     split
     · rfl
     · rw [List.getElem?_eq_none (l := h) (by omega), List.getElem?_eq_none (by simp; omega)]
 · have hl : nm < h.length := by rcases Nat.lt_or_ge nm h.length with q | q; exact q; simp [List.getElem?_eq_none q] at hf
   rw [if_pos hl, List.getElem?_set]
   by_cases hn : nm = n
   · subst hn; simp [hl]
   · simp [hn, Ne.symm hn]
theorem Rel.free_none {ρ : Names} {W w : World} {h : Heap} (r : Rel ρ W h w) {nm : Nat} (hf : Fresh h nm) : ρ nm = none := by
 cases hq : ρ nm with
 | none => rfl
 | some p =>
  obtain ⟨⟨x, h1⟩, _⟩ := r.dom nm p hq
  rcases hf with rfl | hf
  · simp at h1
  · rw [hf] at h1; simp at h1
def Names.with (ρ : Names) (nm b o : Nat) : Names := fun n => if n = nm then some (b, o) else ρ n
theorem Names.with_ext {ρ : Names} {nm b o : Nat} (h : ρ nm = none) : Ext ρ (ρ.with nm b o) := fun n p hp => by
 unfold Names.with
 by_cases hn : n = nm
 · subst hn; rw [h] at hp; cases hp
 · rw [if_neg hn]; exact hp
theorem Rel.name {ρ : Names} {W w : World} {h : Heap} (r : Rel ρ W h w) {nm : Nat} (hf : Fresh h nm) {b o : Nat} {x : Ob} (hb : b < w.heap.size) (hh : Holds (ρ.with nm b o) W w b o x) (hs : ∀ m p y, ρ m = some p → p.1 = b → h[m]? = some (some y) → y = .dead) :
 Rel (ρ.with nm b o) W (effH h nm (.alloc x)) w := by
 have hn := r.free_none hf
 have he : Ext ρ (ρ.with nm b o) := Names.with_ext hn
 have hnm : (ρ.with nm b o) nm = some (b, o) := by simp [Names.with]
 refine ⟨r.bel, fun n p hp => ?_, fun n x' hx => ?_, fun n x' b' o' hx he' hp m p y hm hpb hy hyd => ?_⟩
 · unfold Names.with at hp
   by_cases hq : n = nm
   · subst hq; rw [if_pos rfl] at hp; cases hp
     exact ⟨⟨_, by rw [effH_alloc_get hf, if_pos rfl]⟩, hb⟩
   · rw [if_neg hq] at hp
     obtain ⟨⟨x, h1⟩, h2⟩ := r.dom n p hp
     exact ⟨⟨x, by rw [effH_alloc_get hf, if_neg hq]; exact h1⟩, h2⟩
 · rw [effH_alloc_get hf] at hx
   by_cases hq : n = nm
   · subst hq; rw [if_pos rfl] at hx; cases hx
     exact .inr ⟨_, _, hnm, hh⟩
   · rw [if_neg hq] at hx
     rcases r.obs n x' hx with hv | ⟨b2, o2, h1, h2⟩
     · exact .inl hv
     exact .inr ⟨b2, o2, he _ _ h1, h2.ext he⟩
 · rw [effH_alloc_get hf] at hx hy
   unfold Names.with at hp hm
   by_cases hq : n = nm
   · subst hq; rw [if_pos rfl] at hp; cases hp
     by_cases hz : m = n
     · exact hz
     · rw [if_neg hz] at hm hy
       exact (hyd (hs m p y hm hpb hy)).elim
   · rw [if_neg hq] at hx hp
     by_cases hz : m = nm
     · rw [if_pos hz] at hm; cases hm
       have := hs n _ x' hp hpb.symm hx
       subst this; simp [Ob.excl] at he'
     · rw [if_neg hz] at hm hy; exact r.sep n x' b' o' hx he' hp m p y hm hpb hy hyd
theorem Rel.grow {ρ : Names} {W w w' : World} {h : Heap} (r : Rel ρ W h w) {row : Option Nat} (hg : w.grownBy w' row) (hW : ∀ k, row = some k → W.heap.size ≤ k) (hs : ∀ m p y, ρ m = some p → row = some p.1 → h[m]? = some (some y) → y = .dead) : Rel ρ W h w' := by
 refine ⟨r.bel.trans ⟨hg.os, hg.tape, hg.output, hg.size, fun k hk => hg.block k (Nat.lt_of_lt_of_le hk r.bel.size) (fun e => by have := hW k e.symm; omega)⟩, fun n p hp => ⟨(r.dom n p hp).1, Nat.lt_of_lt_of_le (r.dom n p hp).2 hg.size⟩, fun n x hx => ?_, r.sep⟩
 rcases r.obs n x hx with hv | ⟨b, o, h1, h2⟩
 · exact .inl hv
 refine .inr ⟨b, o, h1, ?_⟩
 by_cases hd : row = some b
 · rw [hs n _ x h1 hd hx]; trivial
 · exact h2.block (hg.block b (r.dom n _ h1).2 (fun e => hd e.symm))
theorem Rel.voids {ρ : Names} {W w : World} {h : Heap} (r : Rel ρ W h w) {nm : Nat} (hf : Fresh h nm) {x : Ob} (hx : x.void = true) : Rel ρ W (effH h nm (.alloc x)) w := by
 have hn := r.free_none hf
 have hex : x.excl = false := by cases x <;> first | rfl | cases hx
 refine ⟨r.bel, fun n p hp => ?_, fun n x' hx' => ?_, fun n x' b' o' hx' he' hp m p y hm hpb hy hyd => ?_⟩
 · obtain ⟨⟨x, h1⟩, h2⟩ := r.dom n p hp
   refine ⟨⟨x, ?_⟩, h2⟩
   rw [effH_alloc_get hf, if_neg fun e => by subst e; rw [hn] at hp; cases hp]; exact h1
 · rw [effH_alloc_get hf] at hx'
   by_cases hq : n = nm
   · subst hq; rw [if_pos rfl] at hx'; cases hx'; exact .inl hx
   · rw [if_neg hq] at hx'; exact r.obs n x' hx'
 · rw [effH_alloc_get hf] at hx' hy
   have h1 : n ≠ nm := fun e => by subst e; rw [hn] at hp; cases hp
   have h2 : m ≠ nm := fun e => by subst e; rw [hn] at hm; cases hm
   rw [if_neg h1] at hx'; rw [if_neg h2] at hy
   exact r.sep n x' b' o' hx' he' hp m p y hm hpb hy hyd
theorem Rel.alloc {ρ : Names} {W w : World} {h : Heap} (r : Rel ρ W h w) {nm : Nat} (hf : Fresh h nm) {l : List AV} {L : List Value} (hl : RL ρ W l L) (t : TypeId) :
 Rel (ρ.with nm w.heap.size 0) W (effH h nm (.alloc (.cells l))) (w.alloc (.cells L.toArray t)) := by
 have hn := r.free_none hf
 have r' : Rel ρ W h (w.alloc (.cells L.toArray t)) := r.below ((Below.refl _ _).alloc (Nat.le_refl _) _)
 refine r'.name hf (by simp) ⟨r.bel.size, rfl, L, t, by unfold World.alloc; rw [Array.getElem?_push]; simp, hl.ext (Names.with_ext hn)⟩ fun m p y hm hp _ => ?_
 have := (r.dom m p hm).2
 omega
theorem Rel.put {ρ : Names} {W w w' : World} {h : Heap} (r : Rel ρ W h w) {n b o : Nat} {x x' : Ob} (hn : h[n]? = some (some x)) (hx : x.excl = true) (hp : ρ n = some (b, o))
 (ho : ∀ k, k ≠ b → w'.heap[k]? = w.heap[k]?) (hs : w'.heap.size = w.heap.size) (h1 : w'.os = w.os) (h2 : w'.tape = w.tape) (h3 : w'.output = w.output) (hh : Holds ρ W w' b o x') : Rel ρ W (h.set n (some x')) w' := by
 have hlen : n < h.length := by rcases Nat.lt_or_ge n h.length with q | q; exact q; simp [List.getElem?_eq_none q] at hn
 have hg : ∀ m, (h.set n (some x'))[m]? = if m = n then some (some x') else h[m]? := fun m => by
  simp only [List.getElem?_set]
  by_cases hq : n = m
  · subst hq; simp [hlen]
  · simp [hq, Ne.symm hq]
 obtain ⟨b', o', e1, e2⟩ := r.ob n _ hn (Ob.excl_void hx)
 rw [hp] at e1; cases e1
 have hW : W.heap.size ≤ b := e2.base hx
 have hxd : x ≠ .dead := fun e => by subst e; simp [Ob.excl] at hx
 refine ⟨r.bel.trans ⟨h1, h2, h3, by omega, fun k hk => ho k (by omega)⟩, fun m p hm => ?_, fun m y hy => ?_, fun m y b2 o2 hy hye hm m' p' y' hm' hpb hy' hyd => ?_⟩
 · obtain ⟨⟨x, h1⟩, h2⟩ := r.dom m p hm
   by_cases hq : m = n
   · exact ⟨⟨_, by rw [hg, if_pos hq]⟩, by omega⟩
   · exact ⟨⟨x, by rw [hg, if_neg hq]; exact h1⟩, by omega⟩
 · rw [hg] at hy
   by_cases hq : m = n
   · subst hq; rw [if_pos rfl] at hy; cases hy
     exact .inr ⟨b, o, hp, hh⟩
   · rw [if_neg hq] at hy
     rcases r.obs m y hy with hv | ⟨b2, o2, g1, g2⟩
     · exact .inl hv
     refine .inr ⟨b2, o2, g1, ?_⟩
     by_cases hd : y = .dead
     · subst hd; trivial
     · exact g2.block (ho b2 fun hbb => hq (r.sep n x b o hn hx hp m _ y g1 hbb hy hd))
 · rw [hg] at hy hy'
   by_cases hq : m = n
   · subst hq
     rw [hp] at hm; cases hm
     by_cases hq' : m' = m
     · exact hq'
     · rw [if_neg hq'] at hy'
       exact r.sep m x b o hn hx hp m' p' y' hm' hpb hy' hyd
   · rw [if_neg hq] at hy
     by_cases hq' : m' = n
     · subst hq'
       exact r.sep m y b2 o2 hy hye hm m' p' x hm' hpb hn hxd
     · rw [if_neg hq'] at hy'
       exact r.sep m y b2 o2 hy hye hm m' p' y' hm' hpb hy' hyd
theorem Rel.kill {ρ : Names} {W w : World} {h : Heap} (r : Rel ρ W h w) {n b o : Nat} {x : Ob} (hn : h[n]? = some (some x)) (hx : x.excl = true) (hp : ρ n = some (b, o)) :
 Rel ρ W (h.set n (some .dead)) w ∧ ∀ m p y, ρ m = some p → p.1 = b → (h.set n (some .dead))[m]? = some (some y) → y = .dead := by
 refine ⟨r.put hn hx hp (fun _ _ => rfl) rfl rfl rfl rfl trivial, fun m p y hm hpb hy => ?_⟩
 rw [List.getElem?_set] at hy
 split at hy
 · rename_i hq; subst hq
   split at hy
   · simp at hy; exact hy.symm
   · cases hy
 · rename_i hq
   by_cases hd : y = .dead
   · exact hd
   · exact (hq (r.sep n x b o hn hx hp m p y hm hpb hy hd).symm).elim
theorem Rel.store {ρ : Names} {W w w' : World} {h : Heap} (r : Rel ρ W h w) {n b : Nat} {l l' : List AV} {L' : List Value} {t : TypeId} (hn : h[n]? = some (some (.cells l))) (hp : ρ n = some (b, 0))
 (hw : w'.heap[b]? = some (.cells L'.toArray t (0, 0))) (ho : ∀ k, k ≠ b → w'.heap[k]? = w.heap[k]?) (hs : w'.heap.size = w.heap.size) (h1 : w'.os = w.os) (h2 : w'.tape = w.tape) (h3 : w'.output = w.output)
 (hl : RL ρ W l' L') : Rel ρ W (effH h 0 (.set n (.cells l'))) w' := by
 obtain ⟨b', o', e1, e2⟩ := r.ob n _ hn
 rw [hp] at e1; cases e1
 exact r.put hn rfl hp ho hs h1 h2 h3 ⟨e2.1, rfl, L', t, hw, hl⟩
end Go.Proofs.YtimgphlfaninnaaGreat.A
