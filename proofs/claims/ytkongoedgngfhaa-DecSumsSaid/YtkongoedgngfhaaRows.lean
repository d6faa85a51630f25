/-
  No cell of these rows narrows 'for every input' (looked for: loops, veiled, ifaces, maps, wideKeys, modest, calm, conditions, laid).
  DERIVED. THE GIVEN ROWS OF THIS SEAT. 6 by the template 'for every input the law returns true; each argument reads behind the call as it read before'; 0 by the template 'total and deterministic' (their statements: YtkongoedgngfhaaTotals.lean).
  GIVEN WITH THE SEED: the statements are not yours to turn. If you find one false, say at which input.
  Laid BY PROGRAM, IN A SANDBOX (cutbox-rows.mjs): the forced cells as the released guide's own fill.sh prints them over the translation ef7364755ea44931… (all of the seat's roots in one cut). By AI agents, Wed Nov 11 2026. No macro, syntax, notation, axiom, sorry.
-/
import Derived.Test.YtkongoedgngfhaaChecked
import GoSem.Claim
import GoSem.ClaimJoined
import GoSem.ClaimMapViews
import Derived.JoinedTies
import Derived.KernelRfl
namespace Go.Proofs.Ytkongoedgngfhaa
/- THE CELL 'sum', in the pinned program and in every row, IS THE sha256 OF THE DUMP (.gsa) THAT YtkongoedgngfhaaProg.lean LOADS. Nothing in Lean hashes anything: it is a label: what it is worth is what the hold of that sum in a sandbox is worth. -/
noncomputable def Try.pinned : Pinned := { name := "ytkongoedgngfhaa", sum := "ef7364755ea4493131dbba31186944d8ede9a456e41bc05d0ae58bbf152d3051", checked := Try.checked }
namespace Rows
def none {H : Type} : Left H := { results := [], args := [] }

/-- 'computuslaw04.DecTexts': WHATEVER THE INPUT: true; the input reads as it did. -/
def decTextsSpec : ChangeSpec := { name := "decTexts", fn := fun _ => fun
  | [d1, d2] => { results := [.lit (.bool true)], args := [d1, d2] }
  | _ => none }
def decTextsRow : OpenClaim := { program := "ytkongoedgngfhaa", sum := "ef7364755ea4493131dbba31186944d8ede9a456e41bc05d0ae58bbf152d3051", func := "computus/computuslaw04.DecTexts", spec := "decTexts", inPlace := ["math/bits.Add64"], named := ["math/bits.divideError", "math/bits.overflowError"], apart := false }
def DecTextsSaid : Prop := decTextsRow.holds Try.pinned (OpenSpec.ofChange decTextsSpec)

/-- ITS FALSE NEIGHBOUR: 'it returns false'. Refute it at one input. -/
def decTextsWrong : ChangeSpec := { name := "decTexts", fn := fun _ => fun
  | [d1, d2] => { results := [.lit (.bool false)], args := [d1, d2] }
  | _ => none }
def DecTextsWrongFalsely : Prop := decTextsRow.holds Try.pinned (OpenSpec.ofChange decTextsWrong)

/-- 'computuslaw04.DecApart': WHATEVER THE INPUT: true; the input reads as it did. -/
def decApartSpec : ChangeSpec := { name := "decApart", fn := fun _ => fun
  | [d1, d2] => { results := [.lit (.bool true)], args := [d1, d2] }
  | _ => none }
def decApartRow : OpenClaim := { program := "ytkongoedgngfhaa", sum := "ef7364755ea4493131dbba31186944d8ede9a456e41bc05d0ae58bbf152d3051", func := "computus/computuslaw04.DecApart", spec := "decApart", inPlace := ["math/bits.Add64"], named := ["math/bits.divideError", "math/bits.overflowError"], apart := false }
def DecApartSaid : Prop := decApartRow.holds Try.pinned (OpenSpec.ofChange decApartSpec)

/-- ITS FALSE NEIGHBOUR: 'it returns false'. Refute it at one input. -/
def decApartWrong : ChangeSpec := { name := "decApart", fn := fun _ => fun
  | [d1, d2] => { results := [.lit (.bool false)], args := [d1, d2] }
  | _ => none }
def DecApartWrongFalsely : Prop := decApartRow.holds Try.pinned (OpenSpec.ofChange decApartWrong)

/-- 'computuslaw04.DecRounds': WHATEVER THE INPUT: true; the input reads as it did. -/
def decRoundsSpec : ChangeSpec := { name := "decRounds", fn := fun _ => fun
  | [d1, d2] => { results := [.lit (.bool true)], args := [d1, d2] }
  | _ => none }
def decRoundsRow : OpenClaim := { program := "ytkongoedgngfhaa", sum := "ef7364755ea4493131dbba31186944d8ede9a456e41bc05d0ae58bbf152d3051", func := "computus/computuslaw04.DecRounds", spec := "decRounds", inPlace := ["math/bits.Add64"], named := ["math/bits.divideError", "math/bits.overflowError"], apart := false }
def DecRoundsSaid : Prop := decRoundsRow.holds Try.pinned (OpenSpec.ofChange decRoundsSpec)

/-- ITS FALSE NEIGHBOUR: 'it returns false'. Refute it at one input. -/
def decRoundsWrong : ChangeSpec := { name := "decRounds", fn := fun _ => fun
  | [d1, d2] => { results := [.lit (.bool false)], args := [d1, d2] }
  | _ => none }
def DecRoundsWrongFalsely : Prop := decRoundsRow.holds Try.pinned (OpenSpec.ofChange decRoundsWrong)

/-- 'computuslaw04.DecOrder': WHATEVER THE INPUT: true; the input reads as it did. -/
def decOrderSpec : ChangeSpec := { name := "decOrder", fn := fun _ => fun
  | [d1, d2, d3] => { results := [.lit (.bool true)], args := [d1, d2, d3] }
  | _ => none }
def decOrderRow : OpenClaim := { program := "ytkongoedgngfhaa", sum := "ef7364755ea4493131dbba31186944d8ede9a456e41bc05d0ae58bbf152d3051", func := "computus/computuslaw04.DecOrder", spec := "decOrder", inPlace := ["math/bits.Add64"], named := ["math/bits.divideError", "math/bits.overflowError"], apart := false }
def DecOrderSaid : Prop := decOrderRow.holds Try.pinned (OpenSpec.ofChange decOrderSpec)

/-- ITS FALSE NEIGHBOUR: 'it returns false'. Refute it at one input. -/
def decOrderWrong : ChangeSpec := { name := "decOrder", fn := fun _ => fun
  | [d1, d2, d3] => { results := [.lit (.bool false)], args := [d1, d2, d3] }
  | _ => none }
def DecOrderWrongFalsely : Prop := decOrderRow.holds Try.pinned (OpenSpec.ofChange decOrderWrong)

/-- 'computuslaw04.DecTurned': WHATEVER THE INPUT: true; the input reads as it did. -/
def decTurnedSpec : ChangeSpec := { name := "decTurned", fn := fun _ => fun
  | [d1, d2] => { results := [.lit (.bool true)], args := [d1, d2] }
  | _ => none }
def decTurnedRow : OpenClaim := { program := "ytkongoedgngfhaa", sum := "ef7364755ea4493131dbba31186944d8ede9a456e41bc05d0ae58bbf152d3051", func := "computus/computuslaw04.DecTurned", spec := "decTurned", inPlace := ["math/bits.Add64"], named := ["math/bits.divideError", "math/bits.overflowError"], apart := false }
def DecTurnedSaid : Prop := decTurnedRow.holds Try.pinned (OpenSpec.ofChange decTurnedSpec)

/-- ITS FALSE NEIGHBOUR: 'it returns false'. Refute it at one input. -/
def decTurnedWrong : ChangeSpec := { name := "decTurned", fn := fun _ => fun
  | [d1, d2] => { results := [.lit (.bool false)], args := [d1, d2] }
  | _ => none }
def DecTurnedWrongFalsely : Prop := decTurnedRow.holds Try.pinned (OpenSpec.ofChange decTurnedWrong)

/-- 'computuslaw04.DecSums': WHATEVER THE INPUT: true; the input reads as it did. -/
def decSumsSpec : ChangeSpec := { name := "decSums", fn := fun _ => fun
  | [d1, d2] => { results := [.lit (.bool true)], args := [d1, d2] }
  | _ => none }
def decSumsRow : OpenClaim := { program := "ytkongoedgngfhaa", sum := "ef7364755ea4493131dbba31186944d8ede9a456e41bc05d0ae58bbf152d3051", func := "computus/computuslaw04.DecSums", spec := "decSums", inPlace := ["math/bits.Add64"], named := ["math/bits.divideError", "math/bits.overflowError"], apart := false }
def DecSumsSaid : Prop := decSumsRow.holds Try.pinned (OpenSpec.ofChange decSumsSpec)

/-- ITS FALSE NEIGHBOUR: 'it returns false'. Refute it at one input. -/
def decSumsWrong : ChangeSpec := { name := "decSums", fn := fun _ => fun
  | [d1, d2] => { results := [.lit (.bool false)], args := [d1, d2] }
  | _ => none }
def DecSumsWrongFalsely : Prop := decSumsRow.holds Try.pinned (OpenSpec.ofChange decSumsWrong)

/- THE SECOND FORM. 'bulk': how many values and letters a reading holds, each counted each time it is reached (what is shared counts as often as it is met; a slice's spare places count too). A statement '..UptoSaid' is the law's where the arguments, and the package variables that the reading takes, are together of bulk at most 1048576: NARROWER than '..Said'. Prove '..Said' where nothing that the law and all that it calls make is longer than what came in: it says more and counts as full. Else prove '..UptoSaid'. A law counts once. -/
mutual
def uptoBulk {H : Type} : DataW H → Nat
  | .lit (.string bytes) => bytes.length + 1
  | .lit _ => 1
  | .nil => 1
  | .ptr d => uptoBulk d + 1
  | .slice elems spare => uptoBulkAll elems + uptoBulkAll spare + 1
  | .agg parts => uptoBulkAll parts + 1
  | .iface _ d => uptoBulk d + 1
  | .map entries => uptoBulkEntries entries + 1
  | .held _ => 1
def uptoBulkAll {H : Type} : List (DataW H) → Nat
  | [] => 0
  | d :: r => uptoBulk d + uptoBulkAll r
def uptoBulkEntries {H : Type} : List (Lit × DataW H) → Nat
  | [] => 0
  | x :: r => uptoBulkEntry x + uptoBulkEntries r
def uptoBulkEntry {H : Type} : Lit × DataW H → Nat
  | (.string bytes, d) => bytes.length + uptoBulk d + 1
  | (_, d) => uptoBulk d + 1
 end
def uptoSmall : (H : Type) → List (DataW H) → Bool := fun _ ds => decide (uptoBulkAll ds ≤ 1048576)
def OpenSpec.upto (s : _root_.Go.ChangeSpec) : _root_.Go.OpenSpec := { _root_.Go.OpenSpec.ofChange s with cond := some uptoSmall }

/-- 'computuslaw04.DecTexts', WHERE WHAT IT READS IS OF BULK AT MOST 1048576: true; the input reads as it did. -/
def decTextsUptoRow : OpenClaim := { program := "ytkongoedgngfhaa", sum := "ef7364755ea4493131dbba31186944d8ede9a456e41bc05d0ae58bbf152d3051", func := "computus/computuslaw04.DecTexts", spec := "decTexts", inPlace := ["math/bits.Add64"], named := ["math/bits.divideError", "math/bits.overflowError"], apart := false, narrowed := true }
def DecTextsUptoSaid : Prop := decTextsUptoRow.holds Try.pinned (OpenSpec.upto decTextsSpec)

/-- 'computuslaw04.DecApart', WHERE WHAT IT READS IS OF BULK AT MOST 1048576: true; the input reads as it did. -/
def decApartUptoRow : OpenClaim := { program := "ytkongoedgngfhaa", sum := "ef7364755ea4493131dbba31186944d8ede9a456e41bc05d0ae58bbf152d3051", func := "computus/computuslaw04.DecApart", spec := "decApart", inPlace := ["math/bits.Add64"], named := ["math/bits.divideError", "math/bits.overflowError"], apart := false, narrowed := true }
def DecApartUptoSaid : Prop := decApartUptoRow.holds Try.pinned (OpenSpec.upto decApartSpec)

/-- 'computuslaw04.DecRounds', WHERE WHAT IT READS IS OF BULK AT MOST 1048576: true; the input reads as it did. -/
def decRoundsUptoRow : OpenClaim := { program := "ytkongoedgngfhaa", sum := "ef7364755ea4493131dbba31186944d8ede9a456e41bc05d0ae58bbf152d3051", func := "computus/computuslaw04.DecRounds", spec := "decRounds", inPlace := ["math/bits.Add64"], named := ["math/bits.divideError", "math/bits.overflowError"], apart := false, narrowed := true }
def DecRoundsUptoSaid : Prop := decRoundsUptoRow.holds Try.pinned (OpenSpec.upto decRoundsSpec)

/-- 'computuslaw04.DecOrder', WHERE WHAT IT READS IS OF BULK AT MOST 1048576: true; the input reads as it did. -/
def decOrderUptoRow : OpenClaim := { program := "ytkongoedgngfhaa", sum := "ef7364755ea4493131dbba31186944d8ede9a456e41bc05d0ae58bbf152d3051", func := "computus/computuslaw04.DecOrder", spec := "decOrder", inPlace := ["math/bits.Add64"], named := ["math/bits.divideError", "math/bits.overflowError"], apart := false, narrowed := true }
def DecOrderUptoSaid : Prop := decOrderUptoRow.holds Try.pinned (OpenSpec.upto decOrderSpec)

/-- 'computuslaw04.DecTurned', WHERE WHAT IT READS IS OF BULK AT MOST 1048576: true; the input reads as it did. -/
def decTurnedUptoRow : OpenClaim := { program := "ytkongoedgngfhaa", sum := "ef7364755ea4493131dbba31186944d8ede9a456e41bc05d0ae58bbf152d3051", func := "computus/computuslaw04.DecTurned", spec := "decTurned", inPlace := ["math/bits.Add64"], named := ["math/bits.divideError", "math/bits.overflowError"], apart := false, narrowed := true }
def DecTurnedUptoSaid : Prop := decTurnedUptoRow.holds Try.pinned (OpenSpec.upto decTurnedSpec)

/-- 'computuslaw04.DecSums', WHERE WHAT IT READS IS OF BULK AT MOST 1048576: true; the input reads as it did. -/
def decSumsUptoRow : OpenClaim := { program := "ytkongoedgngfhaa", sum := "ef7364755ea4493131dbba31186944d8ede9a456e41bc05d0ae58bbf152d3051", func := "computus/computuslaw04.DecSums", spec := "decSums", inPlace := ["math/bits.Add64"], named := ["math/bits.divideError", "math/bits.overflowError"], apart := false, narrowed := true }
def DecSumsUptoSaid : Prop := decSumsUptoRow.holds Try.pinned (OpenSpec.upto decSumsSpec)

end Rows
end Go.Proofs.Ytkongoedgngfhaa
