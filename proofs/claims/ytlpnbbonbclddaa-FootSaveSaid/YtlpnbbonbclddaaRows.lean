/-
  No cell of these rows narrows 'for every input' (looked for: loops, veiled, ifaces, maps, wideKeys, modest, calm, conditions, laid).
  DERIVED. THE GIVEN ROWS OF THIS SEAT. 6 by the template 'for every input the law returns true; each argument reads behind the call as it read before'; 0 by the template 'total and deterministic' (their statements: YtlpnbbonbclddaaTotals.lean).
  GIVEN WITH THE SEED: the statements are not yours to turn. If you find one false, say at which input.
  Laid BY PROGRAM, IN A SANDBOX (cutbox-rows.mjs): the forced cells as the released guide's own fill.sh prints them over the translation 650e688a99b20b7f… (all of the seat's roots in one cut). By AI agents, Wed Nov 11 2026. No macro, syntax, notation, axiom, sorry.
-/
import Derived.Test.YtlpnbbonbclddaaChecked
import GoSem.Claim
import GoSem.ClaimJoined
import GoSem.ClaimMapViews
import Derived.JoinedTies
import Derived.KernelRfl
namespace Go.Proofs.Ytlpnbbonbclddaa
/- THE CELL 'sum', in the pinned program and in every row, IS THE sha256 OF THE DUMP (.gsa) THAT YtlpnbbonbclddaaProg.lean LOADS. Nothing in Lean hashes anything: it is a label: what it is worth is what the hold of that sum in a sandbox is worth. -/
noncomputable def Try.pinned : Pinned := { name := "ytlpnbbonbclddaa", sum := "650e688a99b20b7f5021facaf7c217e595d8c390c400101d3a20ce8e2e4302e4", checked := Try.checked }
namespace Rows
def none {H : Type} : Left H := { results := [], args := [] }

/-- 'computuslaw11.FootYears': WHATEVER THE INPUT: true; the input reads as it did. -/
def footYearsSpec : ChangeSpec := { name := "footYears", fn := fun _ => fun
  | [d1, d2] => { results := [.lit (.bool true)], args := [d1, d2] }
  | _ => none }
def footYearsRow : OpenClaim := { program := "ytlpnbbonbclddaa", sum := "650e688a99b20b7f5021facaf7c217e595d8c390c400101d3a20ce8e2e4302e4", func := "computus/computuslaw11.FootYears", spec := "footYears", unfollowed := true, recurses := true, apart := false }
def FootYearsSaid : Prop := footYearsRow.holds Try.pinned (OpenSpec.ofChange footYearsSpec)

/-- ITS FALSE NEIGHBOUR: 'it returns false'. Refute it at one input. -/
def footYearsWrong : ChangeSpec := { name := "footYears", fn := fun _ => fun
  | [d1, d2] => { results := [.lit (.bool false)], args := [d1, d2] }
  | _ => none }
def FootYearsWrongFalsely : Prop := footYearsRow.holds Try.pinned (OpenSpec.ofChange footYearsWrong)

/-- 'computuslaw11.FootStands': WHATEVER THE INPUT: true; the input reads as it did. -/
def footStandsSpec : ChangeSpec := { name := "footStands", fn := fun _ => fun
  | [d1, d2] => { results := [.lit (.bool true)], args := [d1, d2] }
  | _ => none }
def footStandsRow : OpenClaim := { program := "ytlpnbbonbclddaa", sum := "650e688a99b20b7f5021facaf7c217e595d8c390c400101d3a20ce8e2e4302e4", func := "computus/computuslaw11.FootStands", spec := "footStands", unfollowed := true, recurses := true, apart := false }
def FootStandsSaid : Prop := footStandsRow.holds Try.pinned (OpenSpec.ofChange footStandsSpec)

/-- ITS FALSE NEIGHBOUR: 'it returns false'. Refute it at one input. -/
def footStandsWrong : ChangeSpec := { name := "footStands", fn := fun _ => fun
  | [d1, d2] => { results := [.lit (.bool false)], args := [d1, d2] }
  | _ => none }
def FootStandsWrongFalsely : Prop := footStandsRow.holds Try.pinned (OpenSpec.ofChange footStandsWrong)

/-- 'computuslaw11.FootGoes': WHATEVER THE INPUT: true; the input reads as it did. -/
def footGoesSpec : ChangeSpec := { name := "footGoes", fn := fun _ => fun
  | [d1, d2, d3] => { results := [.lit (.bool true)], args := [d1, d2, d3] }
  | _ => none }
def footGoesRow : OpenClaim := { program := "ytlpnbbonbclddaa", sum := "650e688a99b20b7f5021facaf7c217e595d8c390c400101d3a20ce8e2e4302e4", func := "computus/computuslaw11.FootGoes", spec := "footGoes", unfollowed := true, recurses := true, apart := false }
def FootGoesSaid : Prop := footGoesRow.holds Try.pinned (OpenSpec.ofChange footGoesSpec)

/-- ITS FALSE NEIGHBOUR: 'it returns false'. Refute it at one input. -/
def footGoesWrong : ChangeSpec := { name := "footGoes", fn := fun _ => fun
  | [d1, d2, d3] => { results := [.lit (.bool false)], args := [d1, d2, d3] }
  | _ => none }
def FootGoesWrongFalsely : Prop := footGoesRow.holds Try.pinned (OpenSpec.ofChange footGoesWrong)

/-- 'computuslaw11.FootAgain': WHATEVER THE INPUT: true; the input reads as it did. -/
def footAgainSpec : ChangeSpec := { name := "footAgain", fn := fun _ => fun
  | [d1, d2] => { results := [.lit (.bool true)], args := [d1, d2] }
  | _ => none }
def footAgainRow : OpenClaim := { program := "ytlpnbbonbclddaa", sum := "650e688a99b20b7f5021facaf7c217e595d8c390c400101d3a20ce8e2e4302e4", func := "computus/computuslaw11.FootAgain", spec := "footAgain", unfollowed := true, recurses := true, apart := false }
def FootAgainSaid : Prop := footAgainRow.holds Try.pinned (OpenSpec.ofChange footAgainSpec)

/-- ITS FALSE NEIGHBOUR: 'it returns false'. Refute it at one input. -/
def footAgainWrong : ChangeSpec := { name := "footAgain", fn := fun _ => fun
  | [d1, d2] => { results := [.lit (.bool false)], args := [d1, d2] }
  | _ => none }
def FootAgainWrongFalsely : Prop := footAgainRow.holds Try.pinned (OpenSpec.ofChange footAgainWrong)

/-- 'computuslaw11.FootOrder': WHATEVER THE INPUT: true; the input reads as it did. -/
def footOrderSpec : ChangeSpec := { name := "footOrder", fn := fun _ => fun
  | [d1, d2] => { results := [.lit (.bool true)], args := [d1, d2] }
  | _ => none }
def footOrderRow : OpenClaim := { program := "ytlpnbbonbclddaa", sum := "650e688a99b20b7f5021facaf7c217e595d8c390c400101d3a20ce8e2e4302e4", func := "computus/computuslaw11.FootOrder", spec := "footOrder", unfollowed := true, recurses := true, apart := false }
def FootOrderSaid : Prop := footOrderRow.holds Try.pinned (OpenSpec.ofChange footOrderSpec)

/-- ITS FALSE NEIGHBOUR: 'it returns false'. Refute it at one input. -/
def footOrderWrong : ChangeSpec := { name := "footOrder", fn := fun _ => fun
  | [d1, d2] => { results := [.lit (.bool false)], args := [d1, d2] }
  | _ => none }
def FootOrderWrongFalsely : Prop := footOrderRow.holds Try.pinned (OpenSpec.ofChange footOrderWrong)

/-- 'computuslaw11.FootSave': WHATEVER THE INPUT: true; the input reads as it did. -/
def footSaveSpec : ChangeSpec := { name := "footSave", fn := fun _ => fun
  | [d1, d2] => { results := [.lit (.bool true)], args := [d1, d2] }
  | _ => none }
def footSaveRow : OpenClaim := { program := "ytlpnbbonbclddaa", sum := "650e688a99b20b7f5021facaf7c217e595d8c390c400101d3a20ce8e2e4302e4", func := "computus/computuslaw11.FootSave", spec := "footSave", unfollowed := true, recurses := true, apart := false }
def FootSaveSaid : Prop := footSaveRow.holds Try.pinned (OpenSpec.ofChange footSaveSpec)

/-- ITS FALSE NEIGHBOUR: 'it returns false'. Refute it at one input. -/
def footSaveWrong : ChangeSpec := { name := "footSave", fn := fun _ => fun
  | [d1, d2] => { results := [.lit (.bool false)], args := [d1, d2] }
  | _ => none }
def FootSaveWrongFalsely : Prop := footSaveRow.holds Try.pinned (OpenSpec.ofChange footSaveWrong)

/- THE SECOND FORM. 'bulk': how many values and letters a reading holds, each counted each time it is reached (what is shared counts as often as it is met; a slice's spare places count too). A statement '..UptoSaid' is the law's where the arguments, and the package variables that the reading takes, are together of bulk at most 1048576: NARROWER than '..Said'. Prove '..Said' where nothing that the law and all that it calls make is longer than what came in: it says more and counts as full. Else prove '..UptoSaid'. A law counts once. -/
mutual
def uptoBulk {H : Type} : DataW H → Nat
  | .lit (.string bytes) => bytes.length + 1
  | .lit _ => 1
  | .nil => 1
  | .ptr d => uptoBulk d + 1
  | .slice elems spare => uptoBulkAll elems + uptoBulkAll spare + 1
  | .agg parts => uptoBulkAll parts + 1
  | .iface _ d => uptoBulk d + 1
  | .map entries => uptoBulkEntries entries + 1
  | .held _ => 1
def uptoBulkAll {H : Type} : List (DataW H) → Nat
  | [] => 0
  | d :: r => uptoBulk d + uptoBulkAll r
def uptoBulkEntries {H : Type} : List (Lit × DataW H) → Nat
  | [] => 0
  | x :: r => uptoBulkEntry x + uptoBulkEntries r
def uptoBulkEntry {H : Type} : Lit × DataW H → Nat
  | (.string bytes, d) => bytes.length + uptoBulk d + 1
  | (_, d) => uptoBulk d + 1
 end
def uptoSmall : (H : Type) → List (DataW H) → Bool := fun _ ds => decide (uptoBulkAll ds ≤ 1048576)
def OpenSpec.upto (s : _root_.Go.ChangeSpec) : _root_.Go.OpenSpec := { _root_.Go.OpenSpec.ofChange s with cond := some uptoSmall }

/-- 'computuslaw11.FootYears', WHERE WHAT IT READS IS OF BULK AT MOST 1048576: true; the input reads as it did. -/
def footYearsUptoRow : OpenClaim := { program := "ytlpnbbonbclddaa", sum := "650e688a99b20b7f5021facaf7c217e595d8c390c400101d3a20ce8e2e4302e4", func := "computus/computuslaw11.FootYears", spec := "footYears", unfollowed := true, recurses := true, apart := false, narrowed := true }
def FootYearsUptoSaid : Prop := footYearsUptoRow.holds Try.pinned (OpenSpec.upto footYearsSpec)

/-- 'computuslaw11.FootStands', WHERE WHAT IT READS IS OF BULK AT MOST 1048576: true; the input reads as it did. -/
def footStandsUptoRow : OpenClaim := { program := "ytlpnbbonbclddaa", sum := "650e688a99b20b7f5021facaf7c217e595d8c390c400101d3a20ce8e2e4302e4", func := "computus/computuslaw11.FootStands", spec := "footStands", unfollowed := true, recurses := true, apart := false, narrowed := true }
def FootStandsUptoSaid : Prop := footStandsUptoRow.holds Try.pinned (OpenSpec.upto footStandsSpec)

/-- 'computuslaw11.FootGoes', WHERE WHAT IT READS IS OF BULK AT MOST 1048576: true; the input reads as it did. -/
def footGoesUptoRow : OpenClaim := { program := "ytlpnbbonbclddaa", sum := "650e688a99b20b7f5021facaf7c217e595d8c390c400101d3a20ce8e2e4302e4", func := "computus/computuslaw11.FootGoes", spec := "footGoes", unfollowed := true, recurses := true, apart := false, narrowed := true }
def FootGoesUptoSaid : Prop := footGoesUptoRow.holds Try.pinned (OpenSpec.upto footGoesSpec)

/-- 'computuslaw11.FootAgain', WHERE WHAT IT READS IS OF BULK AT MOST 1048576: true; the input reads as it did. -/
def footAgainUptoRow : OpenClaim := { program := "ytlpnbbonbclddaa", sum := "650e688a99b20b7f5021facaf7c217e595d8c390c400101d3a20ce8e2e4302e4", func := "computus/computuslaw11.FootAgain", spec := "footAgain", unfollowed := true, recurses := true, apart := false, narrowed := true }
def FootAgainUptoSaid : Prop := footAgainUptoRow.holds Try.pinned (OpenSpec.upto footAgainSpec)

/-- 'computuslaw11.FootOrder', WHERE WHAT IT READS IS OF BULK AT MOST 1048576: true; the input reads as it did. -/
def footOrderUptoRow : OpenClaim := { program := "ytlpnbbonbclddaa", sum := "650e688a99b20b7f5021facaf7c217e595d8c390c400101d3a20ce8e2e4302e4", func := "computus/computuslaw11.FootOrder", spec := "footOrder", unfollowed := true, recurses := true, apart := false, narrowed := true }
def FootOrderUptoSaid : Prop := footOrderUptoRow.holds Try.pinned (OpenSpec.upto footOrderSpec)

/-- 'computuslaw11.FootSave', WHERE WHAT IT READS IS OF BULK AT MOST 1048576: true; the input reads as it did. -/
def footSaveUptoRow : OpenClaim := { program := "ytlpnbbonbclddaa", sum := "650e688a99b20b7f5021facaf7c217e595d8c390c400101d3a20ce8e2e4302e4", func := "computus/computuslaw11.FootSave", spec := "footSave", unfollowed := true, recurses := true, apart := false, narrowed := true }
def FootSaveUptoSaid : Prop := footSaveUptoRow.holds Try.pinned (OpenSpec.upto footSaveSpec)

end Rows
end Go.Proofs.Ytlpnbbonbclddaa
