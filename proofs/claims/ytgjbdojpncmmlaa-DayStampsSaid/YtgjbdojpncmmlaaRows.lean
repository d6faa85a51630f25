/-
  No cell of these rows narrows 'for every input' (looked for: loops, veiled, ifaces, maps, wideKeys, modest, calm, conditions, laid).
  DERIVED. THE GIVEN ROWS OF THIS SEAT. 6 by the template 'for every input the law returns true; each argument reads behind the call as it read before'; 0 by the template 'total and deterministic' (their statements: YtgjbdojpncmmlaaTotals.lean).
  GIVEN WITH THE SEED: the statements are not yours to turn. If you find one false, say at which input.
  Laid BY PROGRAM, IN A SANDBOX (cutbox-rows.mjs): the forced cells as the released guide's own fill.sh prints them over the translation 15059c4bf2e3d970… (all of the seat's roots in one cut). By AI agents, Wed Nov 11 2026. No macro, syntax, notation, axiom, sorry.
-/
import Derived.Test.YtgjbdojpncmmlaaChecked
import GoSem.Claim
import GoSem.ClaimJoined
import GoSem.ClaimMapViews
import Derived.JoinedTies
import Derived.KernelRfl
namespace Go.Proofs.Ytgjbdojpncmmlaa
/- THE CELL 'sum', in the pinned program and in every row, IS THE sha256 OF THE DUMP (.gsa) THAT YtgjbdojpncmmlaaProg.lean LOADS. Nothing in Lean hashes anything: it is a label: what it is worth is what the hold of that sum in a sandbox is worth. -/
noncomputable def Try.pinned : Pinned := { name := "ytgjbdojpncmmlaa", sum := "15059c4bf2e3d97060d681d9712c8c67fea9a7de5e73685e3c7a126d4f390d3b", checked := Try.checked }
namespace Rows
def none {H : Type} : Left H := { results := [], args := [] }

/-- 'computuslaw15.DayParts': WHATEVER THE INPUT: true; the input reads as it did. -/
def dayPartsSpec : ChangeSpec := { name := "dayParts", fn := fun _ => fun
  | [d1, d2, d3, d4] => { results := [.lit (.bool true)], args := [d1, d2, d3, d4] }
  | _ => none }
def dayPartsRow : OpenClaim := { program := "ytgjbdojpncmmlaa", sum := "15059c4bf2e3d97060d681d9712c8c67fea9a7de5e73685e3c7a126d4f390d3b", func := "computus/computuslaw15.DayParts", spec := "dayParts", inPlace := ["math/bits.Add64"], unfollowed := true, recurses := true, named := ["math/bits.divideError", "math/bits.overflowError"], apart := false }
def DayPartsSaid : Prop := dayPartsRow.holds Try.pinned (OpenSpec.ofChange dayPartsSpec)

/-- ITS FALSE NEIGHBOUR: 'it returns false'. Refute it at one input. -/
def dayPartsWrong : ChangeSpec := { name := "dayParts", fn := fun _ => fun
  | [d1, d2, d3, d4] => { results := [.lit (.bool false)], args := [d1, d2, d3, d4] }
  | _ => none }
def DayPartsWrongFalsely : Prop := dayPartsRow.holds Try.pinned (OpenSpec.ofChange dayPartsWrong)

/-- 'computuslaw15.DaySorted': WHATEVER THE INPUT: true; the input reads as it did. -/
def daySortedSpec : ChangeSpec := { name := "daySorted", fn := fun _ => fun
  | [d1, d2] => { results := [.lit (.bool true)], args := [d1, d2] }
  | _ => none }
def daySortedRow : OpenClaim := { program := "ytgjbdojpncmmlaa", sum := "15059c4bf2e3d97060d681d9712c8c67fea9a7de5e73685e3c7a126d4f390d3b", func := "computus/computuslaw15.DaySorted", spec := "daySorted", inPlace := ["math/bits.Add64"], unfollowed := true, recurses := true, named := ["math/bits.divideError", "math/bits.overflowError"], apart := false }
def DaySortedSaid : Prop := daySortedRow.holds Try.pinned (OpenSpec.ofChange daySortedSpec)

/-- ITS FALSE NEIGHBOUR: 'it returns false'. Refute it at one input. -/
def daySortedWrong : ChangeSpec := { name := "daySorted", fn := fun _ => fun
  | [d1, d2] => { results := [.lit (.bool false)], args := [d1, d2] }
  | _ => none }
def DaySortedWrongFalsely : Prop := daySortedRow.holds Try.pinned (OpenSpec.ofChange daySortedWrong)

/-- 'computuslaw15.DayBack': WHATEVER THE INPUT: true; the input reads as it did. -/
def dayBackSpec : ChangeSpec := { name := "dayBack", fn := fun _ => fun
  | [d1, d2, d3] => { results := [.lit (.bool true)], args := [d1, d2, d3] }
  | _ => none }
def dayBackRow : OpenClaim := { program := "ytgjbdojpncmmlaa", sum := "15059c4bf2e3d97060d681d9712c8c67fea9a7de5e73685e3c7a126d4f390d3b", func := "computus/computuslaw15.DayBack", spec := "dayBack", inPlace := ["math/bits.Add64"], unfollowed := true, recurses := true, named := ["math/bits.divideError", "math/bits.overflowError"], apart := false }
def DayBackSaid : Prop := dayBackRow.holds Try.pinned (OpenSpec.ofChange dayBackSpec)

/-- ITS FALSE NEIGHBOUR: 'it returns false'. Refute it at one input. -/
def dayBackWrong : ChangeSpec := { name := "dayBack", fn := fun _ => fun
  | [d1, d2, d3] => { results := [.lit (.bool false)], args := [d1, d2, d3] }
  | _ => none }
def DayBackWrongFalsely : Prop := dayBackRow.holds Try.pinned (OpenSpec.ofChange dayBackWrong)

/-- 'computuslaw15.DayMoves': WHATEVER THE INPUT: true; the input reads as it did. -/
def dayMovesSpec : ChangeSpec := { name := "dayMoves", fn := fun _ => fun
  | [d1, d2, d3] => { results := [.lit (.bool true)], args := [d1, d2, d3] }
  | _ => none }
def dayMovesRow : OpenClaim := { program := "ytgjbdojpncmmlaa", sum := "15059c4bf2e3d97060d681d9712c8c67fea9a7de5e73685e3c7a126d4f390d3b", func := "computus/computuslaw15.DayMoves", spec := "dayMoves", inPlace := ["math/bits.Add64"], unfollowed := true, recurses := true, named := ["math/bits.divideError", "math/bits.overflowError"], apart := false }
def DayMovesSaid : Prop := dayMovesRow.holds Try.pinned (OpenSpec.ofChange dayMovesSpec)

/-- ITS FALSE NEIGHBOUR: 'it returns false'. Refute it at one input. -/
def dayMovesWrong : ChangeSpec := { name := "dayMoves", fn := fun _ => fun
  | [d1, d2, d3] => { results := [.lit (.bool false)], args := [d1, d2, d3] }
  | _ => none }
def DayMovesWrongFalsely : Prop := dayMovesRow.holds Try.pinned (OpenSpec.ofChange dayMovesWrong)

/-- 'computuslaw15.DayStamps': WHATEVER THE INPUT: true; the input reads as it did. -/
def dayStampsSpec : ChangeSpec := { name := "dayStamps", fn := fun _ => fun
  | [d1, d2, d3, d4] => { results := [.lit (.bool true)], args := [d1, d2, d3, d4] }
  | _ => none }
def dayStampsRow : OpenClaim := { program := "ytgjbdojpncmmlaa", sum := "15059c4bf2e3d97060d681d9712c8c67fea9a7de5e73685e3c7a126d4f390d3b", func := "computus/computuslaw15.DayStamps", spec := "dayStamps", inPlace := ["math/bits.Add64"], unfollowed := true, recurses := true, named := ["math/bits.divideError", "math/bits.overflowError"], apart := false }
def DayStampsSaid : Prop := dayStampsRow.holds Try.pinned (OpenSpec.ofChange dayStampsSpec)

/-- ITS FALSE NEIGHBOUR: 'it returns false'. Refute it at one input. -/
def dayStampsWrong : ChangeSpec := { name := "dayStamps", fn := fun _ => fun
  | [d1, d2, d3, d4] => { results := [.lit (.bool false)], args := [d1, d2, d3, d4] }
  | _ => none }
def DayStampsWrongFalsely : Prop := dayStampsRow.holds Try.pinned (OpenSpec.ofChange dayStampsWrong)

/-- 'computuslaw15.DayWhole': WHATEVER THE INPUT: true; the input reads as it did. -/
def dayWholeSpec : ChangeSpec := { name := "dayWhole", fn := fun _ => fun
  | [d] => { results := [.lit (.bool true)], args := [d] }
  | _ => none }
def dayWholeRow : OpenClaim := { program := "ytgjbdojpncmmlaa", sum := "15059c4bf2e3d97060d681d9712c8c67fea9a7de5e73685e3c7a126d4f390d3b", func := "computus/computuslaw15.DayWhole", spec := "dayWhole", inPlace := ["math/bits.Add64"], unfollowed := true, recurses := true, named := ["math/bits.divideError", "math/bits.overflowError"], apart := false }
def DayWholeSaid : Prop := dayWholeRow.holds Try.pinned (OpenSpec.ofChange dayWholeSpec)

/-- ITS FALSE NEIGHBOUR: 'it returns false'. Refute it at one input. -/
def dayWholeWrong : ChangeSpec := { name := "dayWhole", fn := fun _ => fun
  | [d] => { results := [.lit (.bool false)], args := [d] }
  | _ => none }
def DayWholeWrongFalsely : Prop := dayWholeRow.holds Try.pinned (OpenSpec.ofChange dayWholeWrong)

/- THE SECOND FORM. 'bulk': how many values and letters a reading holds, each counted each time it is reached (what is shared counts as often as it is met; a slice's spare places count too). A statement '..UptoSaid' is the law's where the arguments, and the package variables that the reading takes, are together of bulk at most 1048576: NARROWER than '..Said'. Prove '..Said' where nothing that the law and all that it calls make is longer than what came in: it says more and counts as full. Else prove '..UptoSaid'. A law counts once. -/
mutual
def uptoBulk {H : Type} : DataW H → Nat
  | .lit (.string bytes) => bytes.length + 1
  | .lit _ => 1
  | .nil => 1
  | .ptr d => uptoBulk d + 1
  | .slice elems spare => uptoBulkAll elems + uptoBulkAll spare + 1
  | .agg parts => uptoBulkAll parts + 1
  | .iface _ d => uptoBulk d + 1
  | .map entries => uptoBulkEntries entries + 1
  | .held _ => 1
def uptoBulkAll {H : Type} : List (DataW H) → Nat
  | [] => 0
  | d :: r => uptoBulk d + uptoBulkAll r
def uptoBulkEntries {H : Type} : List (Lit × DataW H) → Nat
  | [] => 0
  | x :: r => uptoBulkEntry x + uptoBulkEntries r
def uptoBulkEntry {H : Type} : Lit × DataW H → Nat
  | (.string bytes, d) => bytes.length + uptoBulk d + 1
  | (_, d) => uptoBulk d + 1
 end
def uptoSmall : (H : Type) → List (DataW H) → Bool := fun _ ds => decide (uptoBulkAll ds ≤ 1048576)
def OpenSpec.upto (s : _root_.Go.ChangeSpec) : _root_.Go.OpenSpec := { _root_.Go.OpenSpec.ofChange s with cond := some uptoSmall }

/-- 'computuslaw15.DayParts', WHERE WHAT IT READS IS OF BULK AT MOST 1048576: true; the input reads as it did. -/
def dayPartsUptoRow : OpenClaim := { program := "ytgjbdojpncmmlaa", sum := "15059c4bf2e3d97060d681d9712c8c67fea9a7de5e73685e3c7a126d4f390d3b", func := "computus/computuslaw15.DayParts", spec := "dayParts", inPlace := ["math/bits.Add64"], unfollowed := true, recurses := true, named := ["math/bits.divideError", "math/bits.overflowError"], apart := false, narrowed := true }
def DayPartsUptoSaid : Prop := dayPartsUptoRow.holds Try.pinned (OpenSpec.upto dayPartsSpec)

/-- 'computuslaw15.DaySorted', WHERE WHAT IT READS IS OF BULK AT MOST 1048576: true; the input reads as it did. -/
def daySortedUptoRow : OpenClaim := { program := "ytgjbdojpncmmlaa", sum := "15059c4bf2e3d97060d681d9712c8c67fea9a7de5e73685e3c7a126d4f390d3b", func := "computus/computuslaw15.DaySorted", spec := "daySorted", inPlace := ["math/bits.Add64"], unfollowed := true, recurses := true, named := ["math/bits.divideError", "math/bits.overflowError"], apart := false, narrowed := true }
def DaySortedUptoSaid : Prop := daySortedUptoRow.holds Try.pinned (OpenSpec.upto daySortedSpec)

/-- 'computuslaw15.DayBack', WHERE WHAT IT READS IS OF BULK AT MOST 1048576: true; the input reads as it did. -/
def dayBackUptoRow : OpenClaim := { program := "ytgjbdojpncmmlaa", sum := "15059c4bf2e3d97060d681d9712c8c67fea9a7de5e73685e3c7a126d4f390d3b", func := "computus/computuslaw15.DayBack", spec := "dayBack", inPlace := ["math/bits.Add64"], unfollowed := true, recurses := true, named := ["math/bits.divideError", "math/bits.overflowError"], apart := false, narrowed := true }
def DayBackUptoSaid : Prop := dayBackUptoRow.holds Try.pinned (OpenSpec.upto dayBackSpec)

/-- 'computuslaw15.DayMoves', WHERE WHAT IT READS IS OF BULK AT MOST 1048576: true; the input reads as it did. -/
def dayMovesUptoRow : OpenClaim := { program := "ytgjbdojpncmmlaa", sum := "15059c4bf2e3d97060d681d9712c8c67fea9a7de5e73685e3c7a126d4f390d3b", func := "computus/computuslaw15.DayMoves", spec := "dayMoves", inPlace := ["math/bits.Add64"], unfollowed := true, recurses := true, named := ["math/bits.divideError", "math/bits.overflowError"], apart := false, narrowed := true }
def DayMovesUptoSaid : Prop := dayMovesUptoRow.holds Try.pinned (OpenSpec.upto dayMovesSpec)

/-- 'computuslaw15.DayStamps', WHERE WHAT IT READS IS OF BULK AT MOST 1048576: true; the input reads as it did. -/
def dayStampsUptoRow : OpenClaim := { program := "ytgjbdojpncmmlaa", sum := "15059c4bf2e3d97060d681d9712c8c67fea9a7de5e73685e3c7a126d4f390d3b", func := "computus/computuslaw15.DayStamps", spec := "dayStamps", inPlace := ["math/bits.Add64"], unfollowed := true, recurses := true, named := ["math/bits.divideError", "math/bits.overflowError"], apart := false, narrowed := true }
def DayStampsUptoSaid : Prop := dayStampsUptoRow.holds Try.pinned (OpenSpec.upto dayStampsSpec)

/-- 'computuslaw15.DayWhole', WHERE WHAT IT READS IS OF BULK AT MOST 1048576: true; the input reads as it did. -/
def dayWholeUptoRow : OpenClaim := { program := "ytgjbdojpncmmlaa", sum := "15059c4bf2e3d97060d681d9712c8c67fea9a7de5e73685e3c7a126d4f390d3b", func := "computus/computuslaw15.DayWhole", spec := "dayWhole", inPlace := ["math/bits.Add64"], unfollowed := true, recurses := true, named := ["math/bits.divideError", "math/bits.overflowError"], apart := false, narrowed := true }
def DayWholeUptoSaid : Prop := dayWholeUptoRow.holds Try.pinned (OpenSpec.upto dayWholeSpec)

end Rows
end Go.Proofs.Ytgjbdojpncmmlaa
