/-
  No cell of these rows narrows 'for every input' (looked for: loops, veiled, ifaces, maps, wideKeys, modest, calm, conditions, laid).
  DERIVED. THE GIVEN ROWS OF THIS SEAT. 6 by the template 'for every input the law returns true; each argument reads behind the call as it read before'; 0 by the template 'total and deterministic' (their statements: YtimgphlfaninnaaGreatTotals.lean).
  GIVEN WITH THE SEED: the statements are not yours to turn. If you find one false, say at which input.
  Laid BY PROGRAM, IN A SANDBOX (cutbox-rows.mjs): the forced cells as the released guide's own fill.sh prints them over the translation d7c32189e861d740… (all of the seat's roots in one cut). By AI agents, Wed Nov 11 2026. No macro, syntax, notation, axiom, sorry.
-/
import Derived.Test.YtimgphlfaninnaaGreatChecked
import GoSem.Claim
import GoSem.ClaimJoined
import GoSem.ClaimMapViews
import Derived.JoinedTies
import Derived.KernelRfl
namespace Go.Proofs.YtimgphlfaninnaaGreat
/- THE CELL 'sum', in the pinned program and in every row, IS THE sha256 OF THE DUMP (.gsa) THAT YtimgphlfaninnaaGreatProg.lean LOADS. Nothing in Lean hashes anything: it is a label: what it is worth is what the hold of that sum in a sandbox is worth. -/
noncomputable def Tryz.pinned : Pinned := { name := "ytimgphlfaninnaagreat", sum := "d7c32189e861d7407260233137badbabb60f4dcad916951148888c892876496f", checked := Tryz.checked }
namespace Rows
def none {H : Type} : Left H := { results := [], args := [] }

/-- 'computuslaw17.StampLocals': WHATEVER THE INPUT: true; the input reads as it did. -/
def stampLocalsSpec : ChangeSpec := { name := "stampLocals", fn := fun _ => fun
  | [d1, d2] => { results := [.lit (.bool true)], args := [d1, d2] }
  | _ => none }
def stampLocalsRow : OpenClaim := { program := "ytimgphlfaninnaagreat", sum := "d7c32189e861d7407260233137badbabb60f4dcad916951148888c892876496f", func := "computus/computuslaw17.StampLocals", spec := "stampLocals", inPlace := ["math/bits.Add64"], unfollowed := true, recurses := true, named := ["math/bits.divideError", "math/bits.overflowError"], apart := false }
def StampLocalsSaid : Prop := stampLocalsRow.holds Tryz.pinned (OpenSpec.ofChange stampLocalsSpec)

/-- ITS FALSE NEIGHBOUR: 'it returns false'. Refute it at one input. -/
def stampLocalsWrong : ChangeSpec := { name := "stampLocals", fn := fun _ => fun
  | [d1, d2] => { results := [.lit (.bool false)], args := [d1, d2] }
  | _ => none }
def StampLocalsWrongFalsely : Prop := stampLocalsRow.holds Tryz.pinned (OpenSpec.ofChange stampLocalsWrong)

/-- 'computuslaw17.StampAdds': WHATEVER THE INPUT: true; the input reads as it did. -/
def stampAddsSpec : ChangeSpec := { name := "stampAdds", fn := fun _ => fun
  | [d1, d2, d3] => { results := [.lit (.bool true)], args := [d1, d2, d3] }
  | _ => none }
def stampAddsRow : OpenClaim := { program := "ytimgphlfaninnaagreat", sum := "d7c32189e861d7407260233137badbabb60f4dcad916951148888c892876496f", func := "computus/computuslaw17.StampAdds", spec := "stampAdds", inPlace := ["math/bits.Add64"], unfollowed := true, recurses := true, named := ["math/bits.divideError", "math/bits.overflowError"], apart := false }
def StampAddsSaid : Prop := stampAddsRow.holds Tryz.pinned (OpenSpec.ofChange stampAddsSpec)

/-- ITS FALSE NEIGHBOUR: 'it returns false'. Refute it at one input. -/
def stampAddsWrong : ChangeSpec := { name := "stampAdds", fn := fun _ => fun
  | [d1, d2, d3] => { results := [.lit (.bool false)], args := [d1, d2, d3] }
  | _ => none }
def StampAddsWrongFalsely : Prop := stampAddsRow.holds Tryz.pinned (OpenSpec.ofChange stampAddsWrong)

/-- 'computuslaw17.StampSubs': WHATEVER THE INPUT: true; the input reads as it did. -/
def stampSubsSpec : ChangeSpec := { name := "stampSubs", fn := fun _ => fun
  | [d1, d2] => { results := [.lit (.bool true)], args := [d1, d2] }
  | _ => none }
def stampSubsRow : OpenClaim := { program := "ytimgphlfaninnaagreat", sum := "d7c32189e861d7407260233137badbabb60f4dcad916951148888c892876496f", func := "computus/computuslaw17.StampSubs", spec := "stampSubs", inPlace := ["math/bits.Add64"], unfollowed := true, recurses := true, named := ["math/bits.divideError", "math/bits.overflowError"], apart := false }
def StampSubsSaid : Prop := stampSubsRow.holds Tryz.pinned (OpenSpec.ofChange stampSubsSpec)

/-- ITS FALSE NEIGHBOUR: 'it returns false'. Refute it at one input. -/
def stampSubsWrong : ChangeSpec := { name := "stampSubs", fn := fun _ => fun
  | [d1, d2] => { results := [.lit (.bool false)], args := [d1, d2] }
  | _ => none }
def StampSubsWrongFalsely : Prop := stampSubsRow.holds Tryz.pinned (OpenSpec.ofChange stampSubsWrong)

/-- 'computuslaw17.StampBack': WHATEVER THE INPUT: true; the input reads as it did. -/
def stampBackSpec : ChangeSpec := { name := "stampBack", fn := fun _ => fun
  | [d1, d2] => { results := [.lit (.bool true)], args := [d1, d2] }
  | _ => none }
def stampBackRow : OpenClaim := { program := "ytimgphlfaninnaagreat", sum := "d7c32189e861d7407260233137badbabb60f4dcad916951148888c892876496f", func := "computus/computuslaw17.StampBack", spec := "stampBack", inPlace := ["math/bits.Add64"], unfollowed := true, recurses := true, named := ["math/bits.divideError", "math/bits.overflowError"], apart := false }
def StampBackSaid : Prop := stampBackRow.holds Tryz.pinned (OpenSpec.ofChange stampBackSpec)

/-- ITS FALSE NEIGHBOUR: 'it returns false'. Refute it at one input. -/
def stampBackWrong : ChangeSpec := { name := "stampBack", fn := fun _ => fun
  | [d1, d2] => { results := [.lit (.bool false)], args := [d1, d2] }
  | _ => none }
def StampBackWrongFalsely : Prop := stampBackRow.holds Tryz.pinned (OpenSpec.ofChange stampBackWrong)

/-- 'computuslaw17.StampSum': WHATEVER THE INPUT: true; the input reads as it did. -/
def stampSumSpec : ChangeSpec := { name := "stampSum", fn := fun _ => fun
  | [d1, d2] => { results := [.lit (.bool true)], args := [d1, d2] }
  | _ => none }
def stampSumRow : OpenClaim := { program := "ytimgphlfaninnaagreat", sum := "d7c32189e861d7407260233137badbabb60f4dcad916951148888c892876496f", func := "computus/computuslaw17.StampSum", spec := "stampSum", inPlace := ["math/bits.Add64"], unfollowed := true, recurses := true, named := ["math/bits.divideError", "math/bits.overflowError"], apart := false }
def StampSumSaid : Prop := stampSumRow.holds Tryz.pinned (OpenSpec.ofChange stampSumSpec)

/-- ITS FALSE NEIGHBOUR: 'it returns false'. Refute it at one input. -/
def stampSumWrong : ChangeSpec := { name := "stampSum", fn := fun _ => fun
  | [d1, d2] => { results := [.lit (.bool false)], args := [d1, d2] }
  | _ => none }
def StampSumWrongFalsely : Prop := stampSumRow.holds Tryz.pinned (OpenSpec.ofChange stampSumWrong)

/-- 'computuslaw17.StampFlat': WHATEVER THE INPUT: true; the input reads as it did. -/
def stampFlatSpec : ChangeSpec := { name := "stampFlat", fn := fun _ => fun
  | [d1, d2, d3, d4] => { results := [.lit (.bool true)], args := [d1, d2, d3, d4] }
  | _ => none }
def stampFlatRow : OpenClaim := { program := "ytimgphlfaninnaagreat", sum := "d7c32189e861d7407260233137badbabb60f4dcad916951148888c892876496f", func := "computus/computuslaw17.StampFlat", spec := "stampFlat", inPlace := ["math/bits.Add64"], unfollowed := true, recurses := true, named := ["math/bits.divideError", "math/bits.overflowError"], apart := false }
def StampFlatSaid : Prop := stampFlatRow.holds Tryz.pinned (OpenSpec.ofChange stampFlatSpec)

/-- ITS FALSE NEIGHBOUR: 'it returns false'. Refute it at one input. -/
def stampFlatWrong : ChangeSpec := { name := "stampFlat", fn := fun _ => fun
  | [d1, d2, d3, d4] => { results := [.lit (.bool false)], args := [d1, d2, d3, d4] }
  | _ => none }
def StampFlatWrongFalsely : Prop := stampFlatRow.holds Tryz.pinned (OpenSpec.ofChange stampFlatWrong)

/- THE SECOND FORM. 'bulk': how many values and letters a reading holds, each counted each time it is reached (what is shared counts as often as it is met; a slice's spare places count too). A statement '..UptoSaid' is the law's where the arguments, and the package variables that the reading takes, are together of bulk at most 1048576: NARROWER than '..Said'. Prove '..Said' where nothing that the law and all that it calls make is longer than what came in: it says more and counts as full. Else prove '..UptoSaid'. A law counts once. -/
mutual
def uptoBulk {H : Type} : DataW H → Nat
  | .lit (.string bytes) => bytes.length + 1
  | .lit _ => 1
  | .nil => 1
  | .ptr d => uptoBulk d + 1
  | .slice elems spare => uptoBulkAll elems + uptoBulkAll spare + 1
  | .agg parts => uptoBulkAll parts + 1
  | .iface _ d => uptoBulk d + 1
  | .map entries => uptoBulkEntries entries + 1
  | .held _ => 1
def uptoBulkAll {H : Type} : List (DataW H) → Nat
  | [] => 0
  | d :: r => uptoBulk d + uptoBulkAll r
def uptoBulkEntries {H : Type} : List (Lit × DataW H) → Nat
  | [] => 0
  | x :: r => uptoBulkEntry x + uptoBulkEntries r
def uptoBulkEntry {H : Type} : Lit × DataW H → Nat
  | (.string bytes, d) => bytes.length + uptoBulk d + 1
  | (_, d) => uptoBulk d + 1
 end
def uptoSmall : (H : Type) → List (DataW H) → Bool := fun _ ds => decide (uptoBulkAll ds ≤ 1048576)
def OpenSpec.upto (s : _root_.Go.ChangeSpec) : _root_.Go.OpenSpec := { _root_.Go.OpenSpec.ofChange s with cond := some uptoSmall }

/-- 'computuslaw17.StampLocals', WHERE WHAT IT READS IS OF BULK AT MOST 1048576: true; the input reads as it did. -/
def stampLocalsUptoRow : OpenClaim := { program := "ytimgphlfaninnaagreat", sum := "d7c32189e861d7407260233137badbabb60f4dcad916951148888c892876496f", func := "computus/computuslaw17.StampLocals", spec := "stampLocals", inPlace := ["math/bits.Add64"], unfollowed := true, recurses := true, named := ["math/bits.divideError", "math/bits.overflowError"], apart := false, narrowed := true }
def StampLocalsUptoSaid : Prop := stampLocalsUptoRow.holds Tryz.pinned (OpenSpec.upto stampLocalsSpec)

/-- 'computuslaw17.StampAdds', WHERE WHAT IT READS IS OF BULK AT MOST 1048576: true; the input reads as it did. -/
def stampAddsUptoRow : OpenClaim := { program := "ytimgphlfaninnaagreat", sum := "d7c32189e861d7407260233137badbabb60f4dcad916951148888c892876496f", func := "computus/computuslaw17.StampAdds", spec := "stampAdds", inPlace := ["math/bits.Add64"], unfollowed := true, recurses := true, named := ["math/bits.divideError", "math/bits.overflowError"], apart := false, narrowed := true }
def StampAddsUptoSaid : Prop := stampAddsUptoRow.holds Tryz.pinned (OpenSpec.upto stampAddsSpec)

/-- 'computuslaw17.StampSubs', WHERE WHAT IT READS IS OF BULK AT MOST 1048576: true; the input reads as it did. -/
def stampSubsUptoRow : OpenClaim := { program := "ytimgphlfaninnaagreat", sum := "d7c32189e861d7407260233137badbabb60f4dcad916951148888c892876496f", func := "computus/computuslaw17.StampSubs", spec := "stampSubs", inPlace := ["math/bits.Add64"], unfollowed := true, recurses := true, named := ["math/bits.divideError", "math/bits.overflowError"], apart := false, narrowed := true }
def StampSubsUptoSaid : Prop := stampSubsUptoRow.holds Tryz.pinned (OpenSpec.upto stampSubsSpec)

/-- 'computuslaw17.StampBack', WHERE WHAT IT READS IS OF BULK AT MOST 1048576: true; the input reads as it did. -/
def stampBackUptoRow : OpenClaim := { program := "ytimgphlfaninnaagreat", sum := "d7c32189e861d7407260233137badbabb60f4dcad916951148888c892876496f", func := "computus/computuslaw17.StampBack", spec := "stampBack", inPlace := ["math/bits.Add64"], unfollowed := true, recurses := true, named := ["math/bits.divideError", "math/bits.overflowError"], apart := false, narrowed := true }
def StampBackUptoSaid : Prop := stampBackUptoRow.holds Tryz.pinned (OpenSpec.upto stampBackSpec)

/-- 'computuslaw17.StampSum', WHERE WHAT IT READS IS OF BULK AT MOST 1048576: true; the input reads as it did. -/
def stampSumUptoRow : OpenClaim := { program := "ytimgphlfaninnaagreat", sum := "d7c32189e861d7407260233137badbabb60f4dcad916951148888c892876496f", func := "computus/computuslaw17.StampSum", spec := "stampSum", inPlace := ["math/bits.Add64"], unfollowed := true, recurses := true, named := ["math/bits.divideError", "math/bits.overflowError"], apart := false, narrowed := true }
def StampSumUptoSaid : Prop := stampSumUptoRow.holds Tryz.pinned (OpenSpec.upto stampSumSpec)

/-- 'computuslaw17.StampFlat', WHERE WHAT IT READS IS OF BULK AT MOST 1048576: true; the input reads as it did. -/
def stampFlatUptoRow : OpenClaim := { program := "ytimgphlfaninnaagreat", sum := "d7c32189e861d7407260233137badbabb60f4dcad916951148888c892876496f", func := "computus/computuslaw17.StampFlat", spec := "stampFlat", inPlace := ["math/bits.Add64"], unfollowed := true, recurses := true, named := ["math/bits.divideError", "math/bits.overflowError"], apart := false, narrowed := true }
def StampFlatUptoSaid : Prop := stampFlatUptoRow.holds Tryz.pinned (OpenSpec.upto stampFlatSpec)

end Rows
end Go.Proofs.YtimgphlfaninnaaGreat
