-- by a program, for this seat
import Derived.Test.YtbchblgnpkddpaaProg
import Derived.Below
import Derived.Deep.Draws
import Derived.Deep.AppendLies
import Derived.Maps.AppendAt
import Derived.OwnWalk
import Derived.Laws.BytesArg
import Derived.Laws.MakeOwn
import Derived.Laws.OwnMore
import Derived.Deep.OwnRows
import Derived.Tactics
import Derived.Lib.ConvBytes
import Derived.Laws.Slices
import Derived.WalkKit
import Derived.KernelRfl
import Derived.RowKit3
import Derived.Deep.LoopGhost
import Derived.Deep.QuietTactic
import Derived.BigQuiet
import Derived.WideLaws
import Derived.Deep.DeepCutAuto
import Derived.Deep.CutBlock
import Derived.Deep.RegionHeld3
import Derived.Laws.Rows
import Derived.Lib.AppendStr
import Derived.ArgAppend
import Derived.Laws.IdiomCopy
import Derived.OrdersHeld
import Derived.Laws.BitsLemmas
import Derived.RowKit
import Derived.Laws.Cover1
import Derived.Test.YtbchblgnpkddpaaWWords
import Derived.Test.YtbchblgnpkddpaaWLast
import Derived.Test.YtbchblgnpkddpaaWTab
import Derived.Test.YtbchblgnpkddpaaWFour
import Derived.Test.YtbchblgnpkddpaaWQPut
import Derived.Test.YtbchblgnpkddpaaWApart
import Derived.Test.YtbchblgnpkddpaaWArr
import Derived.Test.YtbchblgnpkddpaaWZeros
import Derived.Test.YtbchblgnpkddpaaWFoot
import Derived.Test.YtbchblgnpkddpaaWKept
import Derived.Test.YtbchblgnpkddpaaWShare
import Derived.Test.YtbchblgnpkddpaaWN
import Derived.Test.YtbchblgnpkddpaaWFootNe
import Derived.Test.YtbchblgnpkddpaaWAt
import Derived.Test.YtbchblgnpkddpaaWEqStruct
import Derived.Test.YtbchblgnpkddpaaWRepsOne
import Derived.Test.YtbchblgnpkddpaaWInv
import Derived.Test.YtbchblgnpkddpaaWInvWords
import Derived.Test.YtbchblgnpkddpaaWGuard
import Derived.Test.YtbchblgnpkddpaaWNEv
import Derived.Test.YtbchblgnpkddpaaWMore
namespace Go.Proofs.Ytbchblgnpkddpaa.PFnExactDiffer
open Go.RowKit Go.Proofs.YtbchblgnpkddpaaW.PrintWords Go.Proofs.YtbchblgnpkddpaaW.PrintLast Go.Proofs.YtbchblgnpkddpaaW.PrintMore
attribute [local go_sem] max2_int min2_int max_two min_two max_three min_three max_four min_four   -- for this text's walks alone
set_option linter.unusedVariables false
set_option linter.unusedSimpArgs false



def errW : Option Int → Value
  | none => .nilIface
  | some c => .iface 0 (.int .i64 c)
theorem errW_none : errW none = .nilIface := rfl
theorem errW_some (c : Int) : errW (some c) = .iface 0 (.int .i64 c) := rfl

theorem info3 : (Try.prog.info? 3).map (fun i => (i.zero, i.size, i.bytes)) = some (some (.int .i64 0), 1, 8) := by kernel_rfl
-- the values' own types

end Go.Proofs.Ytbchblgnpkddpaa.PFnExactDiffer
