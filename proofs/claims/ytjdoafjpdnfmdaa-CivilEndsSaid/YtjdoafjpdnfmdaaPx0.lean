-- Written by a program of the session (a print of the seat's translation, functions given by hand among it). Lean checks it.
import Derived.Test.YtjdoafjpdnfmdaaProg
import Derived.Below
import Derived.Deep.Draws
import Derived.Deep.AppendLies
import Derived.Maps.AppendAt
import Derived.OwnWalk
import Derived.Laws.BytesArg
import Derived.Laws.MakeOwn
import Derived.Laws.OwnMore
import Derived.Deep.OwnRows
import Derived.Tactics
import Derived.Lib.ConvBytes
import Derived.Laws.Slices
import Derived.WalkKit
import Derived.KernelRfl
import Derived.RowKit3
import Derived.Deep.LoopGhost
import Derived.Deep.QuietTactic
import Derived.BigQuiet
import Derived.WideLaws
import Derived.Deep.DeepCutAuto
import Derived.Deep.CutBlock
import Derived.Deep.RegionHeld3
import Derived.Laws.Rows
import Derived.Lib.AppendStr
import Derived.ArgAppend
import Derived.Laws.IdiomCopy
import Derived.OrdersHeld
import Derived.Laws.BitsLemmas
import Derived.RowKit
import Derived.Test.YtjdoafjpdnfmdaaWWords
import Derived.Test.YtjdoafjpdnfmdaaWLast
import Derived.Test.YtjdoafjpdnfmdaaWTab
import Derived.Test.YtjdoafjpdnfmdaaWFour
import Derived.Test.YtjdoafjpdnfmdaaWQPut
import Derived.Test.YtjdoafjpdnfmdaaWApart
import Derived.Test.YtjdoafjpdnfmdaaWArr
import Derived.Test.YtjdoafjpdnfmdaaWZeros
import Derived.Test.YtjdoafjpdnfmdaaWFoot
import Derived.Test.YtjdoafjpdnfmdaaWKept
import Derived.Test.YtjdoafjpdnfmdaaWShare
import Derived.Test.YtjdoafjpdnfmdaaWN
import Derived.Test.YtjdoafjpdnfmdaaWFootNe
import Derived.Test.YtjdoafjpdnfmdaaWAt
import Derived.Test.YtjdoafjpdnfmdaaWEqStruct
import Derived.Test.YtjdoafjpdnfmdaaWRepsOne
import Derived.Test.YtjdoafjpdnfmdaaWInv
import Derived.Test.YtjdoafjpdnfmdaaWInvWords
import Derived.Test.YtjdoafjpdnfmdaaWGuard
import Derived.Test.YtjdoafjpdnfmdaaWNEv
import Derived.Test.YtjdoafjpdnfmdaaWMore
namespace Go.Proofs.Ytjdoafjpdnfmdaa.P
open Go.RowKit Go.Proofs.YtjdoafjpdnfmdaaW.PrintWords Go.Proofs.YtjdoafjpdnfmdaaW.PrintLast Go.Proofs.YtjdoafjpdnfmdaaW.PrintMore
attribute [local go_sem] max2_int min2_int max_two min_two max_three min_three max_four min_four   -- for this text's walks alone
set_option linter.unusedVariables false
set_option linter.unusedSimpArgs false



def errW : Option Int → Value
  | none => .nilIface
  | some c => .iface 0 (.int .i64 c)
theorem errW_none : errW none = .nilIface := rfl
theorem errW_some (c : Int) : errW (some c) = .iface 0 (.int .i64 c) := rfl

-- the values' own types

end Go.Proofs.Ytjdoafjpdnfmdaa.P
