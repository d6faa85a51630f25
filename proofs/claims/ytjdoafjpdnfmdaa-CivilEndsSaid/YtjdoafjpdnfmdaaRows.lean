/-
  No cell of these rows narrows 'for every input' (looked for: loops, veiled, ifaces, maps, wideKeys, modest, calm, conditions, laid).
  DERIVED. THE GIVEN ROWS OF THIS SEAT. 8 by the template 'for every input the law returns true; each argument reads behind the call as it read before'; 0 by the template 'total and deterministic' (their statements: YtjdoafjpdnfmdaaTotals.lean).
  GIVEN WITH THE SEED: the statements are not yours to turn. If you find one false, say at which input.
  Laid BY PROGRAM, IN A SANDBOX (cutbox-rows.mjs): the forced cells as the released guide's own fill.sh prints them over the translation b683420c55cca78f… (all of the seat's roots in one cut). By AI agents, Wed Nov 11 2026. No macro, syntax, notation, axiom, sorry.
-/
import Derived.Test.YtjdoafjpdnfmdaaChecked
import GoSem.Claim
import GoSem.ClaimJoined
import GoSem.ClaimMapViews
import Derived.JoinedTies
import Derived.KernelRfl
namespace Go.Proofs.Ytjdoafjpdnfmdaa
/- THE CELL 'sum', in the pinned program and in every row, IS THE sha256 OF THE DUMP (.gsa) THAT YtjdoafjpdnfmdaaProg.lean LOADS. Nothing in Lean hashes anything: it is a label: what it is worth is what the hold of that sum in a sandbox is worth. -/
noncomputable def Try.pinned : Pinned := { name := "ytjdoafjpdnfmdaa", sum := "b683420c55cca78fabb376b21f0fc596ef5a6c32ff8c4a64d917c350ecb206f2", checked := Try.checked }
namespace Rows
def none {H : Type} : Left H := { results := [], args := [] }

/-- 'computuslaw02.CivilYears': WHATEVER THE INPUT: true; the input reads as it did. -/
def civilYearsSpec : ChangeSpec := { name := "civilYears", fn := fun _ => fun
  | [d1, d2, d3] => { results := [.lit (.bool true)], args := [d1, d2, d3] }
  | _ => none }
def civilYearsRow : OpenClaim := { program := "ytjdoafjpdnfmdaa", sum := "b683420c55cca78fabb376b21f0fc596ef5a6c32ff8c4a64d917c350ecb206f2", func := "computus/computuslaw02.CivilYears", spec := "civilYears", apart := false }
def CivilYearsSaid : Prop := civilYearsRow.holds Try.pinned (OpenSpec.ofChange civilYearsSpec)

/-- ITS FALSE NEIGHBOUR: 'it returns false'. Refute it at one input. -/
def civilYearsWrong : ChangeSpec := { name := "civilYears", fn := fun _ => fun
  | [d1, d2, d3] => { results := [.lit (.bool false)], args := [d1, d2, d3] }
  | _ => none }
def CivilYearsWrongFalsely : Prop := civilYearsRow.holds Try.pinned (OpenSpec.ofChange civilYearsWrong)

/-- 'computuslaw02.CivilShifts': WHATEVER THE INPUT: true; the input reads as it did. -/
def civilShiftsSpec : ChangeSpec := { name := "civilShifts", fn := fun _ => fun
  | [d1, d2] => { results := [.lit (.bool true)], args := [d1, d2] }
  | _ => none }
def civilShiftsRow : OpenClaim := { program := "ytjdoafjpdnfmdaa", sum := "b683420c55cca78fabb376b21f0fc596ef5a6c32ff8c4a64d917c350ecb206f2", func := "computus/computuslaw02.CivilShifts", spec := "civilShifts", apart := false }
def CivilShiftsSaid : Prop := civilShiftsRow.holds Try.pinned (OpenSpec.ofChange civilShiftsSpec)

/-- ITS FALSE NEIGHBOUR: 'it returns false'. Refute it at one input. -/
def civilShiftsWrong : ChangeSpec := { name := "civilShifts", fn := fun _ => fun
  | [d1, d2] => { results := [.lit (.bool false)], args := [d1, d2] }
  | _ => none }
def CivilShiftsWrongFalsely : Prop := civilShiftsRow.holds Try.pinned (OpenSpec.ofChange civilShiftsWrong)

/-- 'computuslaw02.CivilDays': WHATEVER THE INPUT: true; the input reads as it did. -/
def civilDaysSpec : ChangeSpec := { name := "civilDays", fn := fun _ => fun
  | [d1, d2, d3, d4] => { results := [.lit (.bool true)], args := [d1, d2, d3, d4] }
  | _ => none }
def civilDaysRow : OpenClaim := { program := "ytjdoafjpdnfmdaa", sum := "b683420c55cca78fabb376b21f0fc596ef5a6c32ff8c4a64d917c350ecb206f2", func := "computus/computuslaw02.CivilDays", spec := "civilDays", apart := false }
def CivilDaysSaid : Prop := civilDaysRow.holds Try.pinned (OpenSpec.ofChange civilDaysSpec)

/-- ITS FALSE NEIGHBOUR: 'it returns false'. Refute it at one input. -/
def civilDaysWrong : ChangeSpec := { name := "civilDays", fn := fun _ => fun
  | [d1, d2, d3, d4] => { results := [.lit (.bool false)], args := [d1, d2, d3, d4] }
  | _ => none }
def CivilDaysWrongFalsely : Prop := civilDaysRow.holds Try.pinned (OpenSpec.ofChange civilDaysWrong)

/-- 'computuslaw02.CivilWeeks': WHATEVER THE INPUT: true; the input reads as it did. -/
def civilWeeksSpec : ChangeSpec := { name := "civilWeeks", fn := fun _ => fun
  | [d] => { results := [.lit (.bool true)], args := [d] }
  | _ => none }
def civilWeeksRow : OpenClaim := { program := "ytjdoafjpdnfmdaa", sum := "b683420c55cca78fabb376b21f0fc596ef5a6c32ff8c4a64d917c350ecb206f2", func := "computus/computuslaw02.CivilWeeks", spec := "civilWeeks", apart := false }
def CivilWeeksSaid : Prop := civilWeeksRow.holds Try.pinned (OpenSpec.ofChange civilWeeksSpec)

/-- ITS FALSE NEIGHBOUR: 'it returns false'. Refute it at one input. -/
def civilWeeksWrong : ChangeSpec := { name := "civilWeeks", fn := fun _ => fun
  | [d] => { results := [.lit (.bool false)], args := [d] }
  | _ => none }
def CivilWeeksWrongFalsely : Prop := civilWeeksRow.holds Try.pinned (OpenSpec.ofChange civilWeeksWrong)

/-- 'computuslaw02.CivilBack': WHATEVER THE INPUT: true; the input reads as it did. -/
def civilBackSpec : ChangeSpec := { name := "civilBack", fn := fun _ => fun
  | [d] => { results := [.lit (.bool true)], args := [d] }
  | _ => none }
def civilBackRow : OpenClaim := { program := "ytjdoafjpdnfmdaa", sum := "b683420c55cca78fabb376b21f0fc596ef5a6c32ff8c4a64d917c350ecb206f2", func := "computus/computuslaw02.CivilBack", spec := "civilBack", apart := false }
def CivilBackSaid : Prop := civilBackRow.holds Try.pinned (OpenSpec.ofChange civilBackSpec)

/-- ITS FALSE NEIGHBOUR: 'it returns false'. Refute it at one input. -/
def civilBackWrong : ChangeSpec := { name := "civilBack", fn := fun _ => fun
  | [d] => { results := [.lit (.bool false)], args := [d] }
  | _ => none }
def CivilBackWrongFalsely : Prop := civilBackRow.holds Try.pinned (OpenSpec.ofChange civilBackWrong)

/-- 'computuslaw02.CivilOrder': WHATEVER THE INPUT: true; the input reads as it did. -/
def civilOrderSpec : ChangeSpec := { name := "civilOrder", fn := fun _ => fun
  | [d1, d2, d3] => { results := [.lit (.bool true)], args := [d1, d2, d3] }
  | _ => none }
def civilOrderRow : OpenClaim := { program := "ytjdoafjpdnfmdaa", sum := "b683420c55cca78fabb376b21f0fc596ef5a6c32ff8c4a64d917c350ecb206f2", func := "computus/computuslaw02.CivilOrder", spec := "civilOrder", apart := false }
def CivilOrderSaid : Prop := civilOrderRow.holds Try.pinned (OpenSpec.ofChange civilOrderSpec)

/-- ITS FALSE NEIGHBOUR: 'it returns false'. Refute it at one input. -/
def civilOrderWrong : ChangeSpec := { name := "civilOrder", fn := fun _ => fun
  | [d1, d2, d3] => { results := [.lit (.bool false)], args := [d1, d2, d3] }
  | _ => none }
def CivilOrderWrongFalsely : Prop := civilOrderRow.holds Try.pinned (OpenSpec.ofChange civilOrderWrong)

/-- 'computuslaw02.CivilParts': WHATEVER THE INPUT: true; the input reads as it did. -/
def civilPartsSpec : ChangeSpec := { name := "civilParts", fn := fun _ => fun
  | [d] => { results := [.lit (.bool true)], args := [d] }
  | _ => none }
def civilPartsRow : OpenClaim := { program := "ytjdoafjpdnfmdaa", sum := "b683420c55cca78fabb376b21f0fc596ef5a6c32ff8c4a64d917c350ecb206f2", func := "computus/computuslaw02.CivilParts", spec := "civilParts", apart := false }
def CivilPartsSaid : Prop := civilPartsRow.holds Try.pinned (OpenSpec.ofChange civilPartsSpec)

/-- ITS FALSE NEIGHBOUR: 'it returns false'. Refute it at one input. -/
def civilPartsWrong : ChangeSpec := { name := "civilParts", fn := fun _ => fun
  | [d] => { results := [.lit (.bool false)], args := [d] }
  | _ => none }
def CivilPartsWrongFalsely : Prop := civilPartsRow.holds Try.pinned (OpenSpec.ofChange civilPartsWrong)

/-- 'computuslaw02.CivilEnds': WHATEVER THE INPUT: true; the input reads as it did. -/
def civilEndsSpec : ChangeSpec := { name := "civilEnds", fn := fun _ => fun
  | [d1, d2] => { results := [.lit (.bool true)], args := [d1, d2] }
  | _ => none }
def civilEndsRow : OpenClaim := { program := "ytjdoafjpdnfmdaa", sum := "b683420c55cca78fabb376b21f0fc596ef5a6c32ff8c4a64d917c350ecb206f2", func := "computus/computuslaw02.CivilEnds", spec := "civilEnds", apart := false }
def CivilEndsSaid : Prop := civilEndsRow.holds Try.pinned (OpenSpec.ofChange civilEndsSpec)

/-- ITS FALSE NEIGHBOUR: 'it returns false'. Refute it at one input. -/
def civilEndsWrong : ChangeSpec := { name := "civilEnds", fn := fun _ => fun
  | [d1, d2] => { results := [.lit (.bool false)], args := [d1, d2] }
  | _ => none }
def CivilEndsWrongFalsely : Prop := civilEndsRow.holds Try.pinned (OpenSpec.ofChange civilEndsWrong)

/- THE SECOND FORM. 'bulk': how many values and letters a reading holds, each counted each time it is reached (what is shared counts as often as it is met; a slice's spare places count too). A statement '..UptoSaid' is the law's where the arguments, and the package variables that the reading takes, are together of bulk at most 1048576: NARROWER than '..Said'. Prove '..Said' where nothing that the law and all that it calls make is longer than what came in: it says more and counts as full. Else prove '..UptoSaid'. A law counts once. -/
mutual
def uptoBulk {H : Type} : DataW H → Nat
  | .lit (.string bytes) => bytes.length + 1
  | .lit _ => 1
  | .nil => 1
  | .ptr d => uptoBulk d + 1
  | .slice elems spare => uptoBulkAll elems + uptoBulkAll spare + 1
  | .agg parts => uptoBulkAll parts + 1
  | .iface _ d => uptoBulk d + 1
  | .map entries => uptoBulkEntries entries + 1
  | .held _ => 1
def uptoBulkAll {H : Type} : List (DataW H) → Nat
  | [] => 0
  | d :: r => uptoBulk d + uptoBulkAll r
def uptoBulkEntries {H : Type} : List (Lit × DataW H) → Nat
  | [] => 0
  | x :: r => uptoBulkEntry x + uptoBulkEntries r
def uptoBulkEntry {H : Type} : Lit × DataW H → Nat
  | (.string bytes, d) => bytes.length + uptoBulk d + 1
  | (_, d) => uptoBulk d + 1
 end
def uptoSmall : (H : Type) → List (DataW H) → Bool := fun _ ds => decide (uptoBulkAll ds ≤ 1048576)
def OpenSpec.upto (s : _root_.Go.ChangeSpec) : _root_.Go.OpenSpec := { _root_.Go.OpenSpec.ofChange s with cond := some uptoSmall }

/-- 'computuslaw02.CivilYears', WHERE WHAT IT READS IS OF BULK AT MOST 1048576: true; the input reads as it did. -/
def civilYearsUptoRow : OpenClaim := { program := "ytjdoafjpdnfmdaa", sum := "b683420c55cca78fabb376b21f0fc596ef5a6c32ff8c4a64d917c350ecb206f2", func := "computus/computuslaw02.CivilYears", spec := "civilYears", apart := false, narrowed := true }
def CivilYearsUptoSaid : Prop := civilYearsUptoRow.holds Try.pinned (OpenSpec.upto civilYearsSpec)

/-- 'computuslaw02.CivilShifts', WHERE WHAT IT READS IS OF BULK AT MOST 1048576: true; the input reads as it did. -/
def civilShiftsUptoRow : OpenClaim := { program := "ytjdoafjpdnfmdaa", sum := "b683420c55cca78fabb376b21f0fc596ef5a6c32ff8c4a64d917c350ecb206f2", func := "computus/computuslaw02.CivilShifts", spec := "civilShifts", apart := false, narrowed := true }
def CivilShiftsUptoSaid : Prop := civilShiftsUptoRow.holds Try.pinned (OpenSpec.upto civilShiftsSpec)

/-- 'computuslaw02.CivilDays', WHERE WHAT IT READS IS OF BULK AT MOST 1048576: true; the input reads as it did. -/
def civilDaysUptoRow : OpenClaim := { program := "ytjdoafjpdnfmdaa", sum := "b683420c55cca78fabb376b21f0fc596ef5a6c32ff8c4a64d917c350ecb206f2", func := "computus/computuslaw02.CivilDays", spec := "civilDays", apart := false, narrowed := true }
def CivilDaysUptoSaid : Prop := civilDaysUptoRow.holds Try.pinned (OpenSpec.upto civilDaysSpec)

/-- 'computuslaw02.CivilWeeks', WHERE WHAT IT READS IS OF BULK AT MOST 1048576: true; the input reads as it did. -/
def civilWeeksUptoRow : OpenClaim := { program := "ytjdoafjpdnfmdaa", sum := "b683420c55cca78fabb376b21f0fc596ef5a6c32ff8c4a64d917c350ecb206f2", func := "computus/computuslaw02.CivilWeeks", spec := "civilWeeks", apart := false, narrowed := true }
def CivilWeeksUptoSaid : Prop := civilWeeksUptoRow.holds Try.pinned (OpenSpec.upto civilWeeksSpec)

/-- 'computuslaw02.CivilBack', WHERE WHAT IT READS IS OF BULK AT MOST 1048576: true; the input reads as it did. -/
def civilBackUptoRow : OpenClaim := { program := "ytjdoafjpdnfmdaa", sum := "b683420c55cca78fabb376b21f0fc596ef5a6c32ff8c4a64d917c350ecb206f2", func := "computus/computuslaw02.CivilBack", spec := "civilBack", apart := false, narrowed := true }
def CivilBackUptoSaid : Prop := civilBackUptoRow.holds Try.pinned (OpenSpec.upto civilBackSpec)

/-- 'computuslaw02.CivilOrder', WHERE WHAT IT READS IS OF BULK AT MOST 1048576: true; the input reads as it did. -/
def civilOrderUptoRow : OpenClaim := { program := "ytjdoafjpdnfmdaa", sum := "b683420c55cca78fabb376b21f0fc596ef5a6c32ff8c4a64d917c350ecb206f2", func := "computus/computuslaw02.CivilOrder", spec := "civilOrder", apart := false, narrowed := true }
def CivilOrderUptoSaid : Prop := civilOrderUptoRow.holds Try.pinned (OpenSpec.upto civilOrderSpec)

/-- 'computuslaw02.CivilParts', WHERE WHAT IT READS IS OF BULK AT MOST 1048576: true; the input reads as it did. -/
def civilPartsUptoRow : OpenClaim := { program := "ytjdoafjpdnfmdaa", sum := "b683420c55cca78fabb376b21f0fc596ef5a6c32ff8c4a64d917c350ecb206f2", func := "computus/computuslaw02.CivilParts", spec := "civilParts", apart := false, narrowed := true }
def CivilPartsUptoSaid : Prop := civilPartsUptoRow.holds Try.pinned (OpenSpec.upto civilPartsSpec)

/-- 'computuslaw02.CivilEnds', WHERE WHAT IT READS IS OF BULK AT MOST 1048576: true; the input reads as it did. -/
def civilEndsUptoRow : OpenClaim := { program := "ytjdoafjpdnfmdaa", sum := "b683420c55cca78fabb376b21f0fc596ef5a6c32ff8c4a64d917c350ecb206f2", func := "computus/computuslaw02.CivilEnds", spec := "civilEnds", apart := false, narrowed := true }
def CivilEndsUptoSaid : Prop := civilEndsUptoRow.holds Try.pinned (OpenSpec.upto civilEndsSpec)

end Rows
end Go.Proofs.Ytjdoafjpdnfmdaa
