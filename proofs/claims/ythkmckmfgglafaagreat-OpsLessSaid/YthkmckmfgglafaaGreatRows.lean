/-
  No cell of these rows narrows 'for every input' (looked for: loops, veiled, ifaces, maps, wideKeys, modest, calm, conditions, laid).
  DERIVED. THE GIVEN ROWS OF THIS SEAT. 6 by the template 'for every input the law returns true; each argument reads behind the call as it read before'; 0 by the template 'total and deterministic' (their statements: YthkmckmfgglafaaGreatTotals.lean).
  GIVEN WITH THE SEED: the statements are not yours to turn. If you find one false, say at which input.
  Laid BY PROGRAM, IN A SANDBOX (cutbox-rows.mjs): the forced cells as the released guide's own fill.sh prints them over the translation 838b4bc819b04ff1… (all of the seat's roots in one cut). By AI agents, Wed Nov 11 2026. No macro, syntax, notation, axiom, sorry.
-/
import Derived.Test.YthkmckmfgglafaaGreatChecked
import GoSem.Claim
import GoSem.ClaimJoined
import GoSem.ClaimMapViews
import Derived.JoinedTies
import Derived.KernelRfl
namespace Go.Proofs.YthkmckmfgglafaaGreat
/- THE CELL 'sum', in the pinned program and in every row, IS THE sha256 OF THE DUMP (.gsa) THAT YthkmckmfgglafaaGreatProg.lean LOADS. Nothing in Lean hashes anything: it is a label: what it is worth is what the hold of that sum in a sandbox is worth. -/
noncomputable def Tryz.pinned : Pinned := { name := "ythkmckmfgglafaagreat", sum := "838b4bc819b04ff1da405986130340a497d26a6e0ce2a63fc57836251d88e681", checked := Tryz.checked }
namespace Rows
def none {H : Type} : Left H := { results := [], args := [] }

/-- 'computuslaw20.OpsLess': WHATEVER THE INPUT: true; the input reads as it did. -/
def opsLessSpec : ChangeSpec := { name := "opsLess", fn := fun _ => fun
  | [d1, d2] => { results := [.lit (.bool true)], args := [d1, d2] }
  | _ => none }
def opsLessRow : OpenClaim := { program := "ythkmckmfgglafaagreat", sum := "838b4bc819b04ff1da405986130340a497d26a6e0ce2a63fc57836251d88e681", func := "computus/computuslaw20.OpsLess", spec := "opsLess", inPlace := ["math/bits.Add64"], unfollowed := true, recurses := true, named := ["math/bits.divideError", "math/bits.overflowError"], apart := false }
def OpsLessSaid : Prop := opsLessRow.holds Tryz.pinned (OpenSpec.ofChange opsLessSpec)

/-- ITS FALSE NEIGHBOUR: 'it returns false'. Refute it at one input. -/
def opsLessWrong : ChangeSpec := { name := "opsLess", fn := fun _ => fun
  | [d1, d2] => { results := [.lit (.bool false)], args := [d1, d2] }
  | _ => none }
def OpsLessWrongFalsely : Prop := opsLessRow.holds Tryz.pinned (OpenSpec.ofChange opsLessWrong)

/-- 'computuslaw20.OpsWhole': WHATEVER THE INPUT: true; the input reads as it did. -/
def opsWholeSpec : ChangeSpec := { name := "opsWhole", fn := fun _ => fun
  | [d1, d2, d3, d4] => { results := [.lit (.bool true)], args := [d1, d2, d3, d4] }
  | _ => none }
def opsWholeRow : OpenClaim := { program := "ythkmckmfgglafaagreat", sum := "838b4bc819b04ff1da405986130340a497d26a6e0ce2a63fc57836251d88e681", func := "computus/computuslaw20.OpsWhole", spec := "opsWhole", inPlace := ["math/bits.Add64"], unfollowed := true, recurses := true, named := ["math/bits.divideError", "math/bits.overflowError"], apart := false }
def OpsWholeSaid : Prop := opsWholeRow.holds Tryz.pinned (OpenSpec.ofChange opsWholeSpec)

/-- ITS FALSE NEIGHBOUR: 'it returns false'. Refute it at one input. -/
def opsWholeWrong : ChangeSpec := { name := "opsWhole", fn := fun _ => fun
  | [d1, d2, d3, d4] => { results := [.lit (.bool false)], args := [d1, d2, d3, d4] }
  | _ => none }
def OpsWholeWrongFalsely : Prop := opsWholeRow.holds Tryz.pinned (OpenSpec.ofChange opsWholeWrong)

/-- 'computuslaw20.OpsMakes': WHATEVER THE INPUT: true; the input reads as it did. -/
def opsMakesSpec : ChangeSpec := { name := "opsMakes", fn := fun _ => fun
  | [d] => { results := [.lit (.bool true)], args := [d] }
  | _ => none }
def opsMakesRow : OpenClaim := { program := "ythkmckmfgglafaagreat", sum := "838b4bc819b04ff1da405986130340a497d26a6e0ce2a63fc57836251d88e681", func := "computus/computuslaw20.OpsMakes", spec := "opsMakes", inPlace := ["math/bits.Add64"], unfollowed := true, recurses := true, named := ["math/bits.divideError", "math/bits.overflowError"], apart := false }
def OpsMakesSaid : Prop := opsMakesRow.holds Tryz.pinned (OpenSpec.ofChange opsMakesSpec)

/-- ITS FALSE NEIGHBOUR: 'it returns false'. Refute it at one input. -/
def opsMakesWrong : ChangeSpec := { name := "opsMakes", fn := fun _ => fun
  | [d] => { results := [.lit (.bool false)], args := [d] }
  | _ => none }
def OpsMakesWrongFalsely : Prop := opsMakesRow.holds Tryz.pinned (OpenSpec.ofChange opsMakesWrong)

/-- 'computuslaw20.OpsTruncs': WHATEVER THE INPUT: true; the input reads as it did. -/
def opsTruncsSpec : ChangeSpec := { name := "opsTruncs", fn := fun _ => fun
  | [d1, d2, d3] => { results := [.lit (.bool true)], args := [d1, d2, d3] }
  | _ => none }
def opsTruncsRow : OpenClaim := { program := "ythkmckmfgglafaagreat", sum := "838b4bc819b04ff1da405986130340a497d26a6e0ce2a63fc57836251d88e681", func := "computus/computuslaw20.OpsTruncs", spec := "opsTruncs", inPlace := ["math/bits.Add64"], unfollowed := true, recurses := true, named := ["math/bits.divideError", "math/bits.overflowError"], apart := false }
def OpsTruncsSaid : Prop := opsTruncsRow.holds Tryz.pinned (OpenSpec.ofChange opsTruncsSpec)

/-- ITS FALSE NEIGHBOUR: 'it returns false'. Refute it at one input. -/
def opsTruncsWrong : ChangeSpec := { name := "opsTruncs", fn := fun _ => fun
  | [d1, d2, d3] => { results := [.lit (.bool false)], args := [d1, d2, d3] }
  | _ => none }
def OpsTruncsWrongFalsely : Prop := opsTruncsRow.holds Tryz.pinned (OpenSpec.ofChange opsTruncsWrong)

/-- 'computuslaw20.OpsHere': WHATEVER THE INPUT: true; the input reads as it did. -/
def opsHereSpec : ChangeSpec := { name := "opsHere", fn := fun _ => fun
  | [d1, d2] => { results := [.lit (.bool true)], args := [d1, d2] }
  | _ => none }
def opsHereRow : OpenClaim := { program := "ythkmckmfgglafaagreat", sum := "838b4bc819b04ff1da405986130340a497d26a6e0ce2a63fc57836251d88e681", func := "computus/computuslaw20.OpsHere", spec := "opsHere", inPlace := ["math/bits.Add64"], unfollowed := true, recurses := true, named := ["math/bits.divideError", "math/bits.overflowError"], apart := false }
def OpsHereSaid : Prop := opsHereRow.holds Tryz.pinned (OpenSpec.ofChange opsHereSpec)

/-- ITS FALSE NEIGHBOUR: 'it returns false'. Refute it at one input. -/
def opsHereWrong : ChangeSpec := { name := "opsHere", fn := fun _ => fun
  | [d1, d2] => { results := [.lit (.bool false)], args := [d1, d2] }
  | _ => none }
def OpsHereWrongFalsely : Prop := opsHereRow.holds Tryz.pinned (OpenSpec.ofChange opsHereWrong)

/-- 'computuslaw20.OpsOverlaps': WHATEVER THE INPUT: true; the input reads as it did. -/
def opsOverlapsSpec : ChangeSpec := { name := "opsOverlaps", fn := fun _ => fun
  | [d1, d2, d3, d4] => { results := [.lit (.bool true)], args := [d1, d2, d3, d4] }
  | _ => none }
def opsOverlapsRow : OpenClaim := { program := "ythkmckmfgglafaagreat", sum := "838b4bc819b04ff1da405986130340a497d26a6e0ce2a63fc57836251d88e681", func := "computus/computuslaw20.OpsOverlaps", spec := "opsOverlaps", inPlace := ["math/bits.Add64"], unfollowed := true, recurses := true, named := ["math/bits.divideError", "math/bits.overflowError"], apart := false }
def OpsOverlapsSaid : Prop := opsOverlapsRow.holds Tryz.pinned (OpenSpec.ofChange opsOverlapsSpec)

/-- ITS FALSE NEIGHBOUR: 'it returns false'. Refute it at one input. -/
def opsOverlapsWrong : ChangeSpec := { name := "opsOverlaps", fn := fun _ => fun
  | [d1, d2, d3, d4] => { results := [.lit (.bool false)], args := [d1, d2, d3, d4] }
  | _ => none }
def OpsOverlapsWrongFalsely : Prop := opsOverlapsRow.holds Tryz.pinned (OpenSpec.ofChange opsOverlapsWrong)

/- THE SECOND FORM. 'bulk': how many values and letters a reading holds, each counted each time it is reached (what is shared counts as often as it is met; a slice's spare places count too). A statement '..UptoSaid' is the law's where the arguments, and the package variables that the reading takes, are together of bulk at most 1048576: NARROWER than '..Said'. Prove '..Said' where nothing that the law and all that it calls make is longer than what came in: it says more and counts as full. Else prove '..UptoSaid'. A law counts once. -/
mutual
def uptoBulk {H : Type} : DataW H → Nat
  | .lit (.string bytes) => bytes.length + 1
  | .lit _ => 1
  | .nil => 1
  | .ptr d => uptoBulk d + 1
  | .slice elems spare => uptoBulkAll elems + uptoBulkAll spare + 1
  | .agg parts => uptoBulkAll parts + 1
  | .iface _ d => uptoBulk d + 1
  | .map entries => uptoBulkEntries entries + 1
  | .held _ => 1
def uptoBulkAll {H : Type} : List (DataW H) → Nat
  | [] => 0
  | d :: r => uptoBulk d + uptoBulkAll r
def uptoBulkEntries {H : Type} : List (Lit × DataW H) → Nat
  | [] => 0
  | x :: r => uptoBulkEntry x + uptoBulkEntries r
def uptoBulkEntry {H : Type} : Lit × DataW H → Nat
  | (.string bytes, d) => bytes.length + uptoBulk d + 1
  | (_, d) => uptoBulk d + 1
 end
def uptoSmall : (H : Type) → List (DataW H) → Bool := fun _ ds => decide (uptoBulkAll ds ≤ 1048576)
def OpenSpec.upto (s : _root_.Go.ChangeSpec) : _root_.Go.OpenSpec := { _root_.Go.OpenSpec.ofChange s with cond := some uptoSmall }

/-- 'computuslaw20.OpsLess', WHERE WHAT IT READS IS OF BULK AT MOST 1048576: true; the input reads as it did. -/
def opsLessUptoRow : OpenClaim := { program := "ythkmckmfgglafaagreat", sum := "838b4bc819b04ff1da405986130340a497d26a6e0ce2a63fc57836251d88e681", func := "computus/computuslaw20.OpsLess", spec := "opsLess", inPlace := ["math/bits.Add64"], unfollowed := true, recurses := true, named := ["math/bits.divideError", "math/bits.overflowError"], apart := false, narrowed := true }
def OpsLessUptoSaid : Prop := opsLessUptoRow.holds Tryz.pinned (OpenSpec.upto opsLessSpec)

/-- 'computuslaw20.OpsWhole', WHERE WHAT IT READS IS OF BULK AT MOST 1048576: true; the input reads as it did. -/
def opsWholeUptoRow : OpenClaim := { program := "ythkmckmfgglafaagreat", sum := "838b4bc819b04ff1da405986130340a497d26a6e0ce2a63fc57836251d88e681", func := "computus/computuslaw20.OpsWhole", spec := "opsWhole", inPlace := ["math/bits.Add64"], unfollowed := true, recurses := true, named := ["math/bits.divideError", "math/bits.overflowError"], apart := false, narrowed := true }
def OpsWholeUptoSaid : Prop := opsWholeUptoRow.holds Tryz.pinned (OpenSpec.upto opsWholeSpec)

/-- 'computuslaw20.OpsMakes', WHERE WHAT IT READS IS OF BULK AT MOST 1048576: true; the input reads as it did. -/
def opsMakesUptoRow : OpenClaim := { program := "ythkmckmfgglafaagreat", sum := "838b4bc819b04ff1da405986130340a497d26a6e0ce2a63fc57836251d88e681", func := "computus/computuslaw20.OpsMakes", spec := "opsMakes", inPlace := ["math/bits.Add64"], unfollowed := true, recurses := true, named := ["math/bits.divideError", "math/bits.overflowError"], apart := false, narrowed := true }
def OpsMakesUptoSaid : Prop := opsMakesUptoRow.holds Tryz.pinned (OpenSpec.upto opsMakesSpec)

/-- 'computuslaw20.OpsTruncs', WHERE WHAT IT READS IS OF BULK AT MOST 1048576: true; the input reads as it did. -/
def opsTruncsUptoRow : OpenClaim := { program := "ythkmckmfgglafaagreat", sum := "838b4bc819b04ff1da405986130340a497d26a6e0ce2a63fc57836251d88e681", func := "computus/computuslaw20.OpsTruncs", spec := "opsTruncs", inPlace := ["math/bits.Add64"], unfollowed := true, recurses := true, named := ["math/bits.divideError", "math/bits.overflowError"], apart := false, narrowed := true }
def OpsTruncsUptoSaid : Prop := opsTruncsUptoRow.holds Tryz.pinned (OpenSpec.upto opsTruncsSpec)

/-- 'computuslaw20.OpsHere', WHERE WHAT IT READS IS OF BULK AT MOST 1048576: true; the input reads as it did. -/
def opsHereUptoRow : OpenClaim := { program := "ythkmckmfgglafaagreat", sum := "838b4bc819b04ff1da405986130340a497d26a6e0ce2a63fc57836251d88e681", func := "computus/computuslaw20.OpsHere", spec := "opsHere", inPlace := ["math/bits.Add64"], unfollowed := true, recurses := true, named := ["math/bits.divideError", "math/bits.overflowError"], apart := false, narrowed := true }
def OpsHereUptoSaid : Prop := opsHereUptoRow.holds Tryz.pinned (OpenSpec.upto opsHereSpec)

/-- 'computuslaw20.OpsOverlaps', WHERE WHAT IT READS IS OF BULK AT MOST 1048576: true; the input reads as it did. -/
def opsOverlapsUptoRow : OpenClaim := { program := "ythkmckmfgglafaagreat", sum := "838b4bc819b04ff1da405986130340a497d26a6e0ce2a63fc57836251d88e681", func := "computus/computuslaw20.OpsOverlaps", spec := "opsOverlaps", inPlace := ["math/bits.Add64"], unfollowed := true, recurses := true, named := ["math/bits.divideError", "math/bits.overflowError"], apart := false, narrowed := true }
def OpsOverlapsUptoSaid : Prop := opsOverlapsUptoRow.holds Tryz.pinned (OpenSpec.upto opsOverlapsSpec)

end Rows
end Go.Proofs.YthkmckmfgglafaaGreat
