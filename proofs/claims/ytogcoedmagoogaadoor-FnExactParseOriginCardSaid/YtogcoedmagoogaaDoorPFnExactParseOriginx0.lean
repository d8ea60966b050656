/- Functions and contracts of a law's callees, written by a program of this session (a changed print): each contract says that the machine's call answers what the plain function says. Conditions: the plain function's own answer. -/
import Derived.Test.YtogcoedmagoogaaDoorProg
import Derived.Below
import Derived.Deep.Draws
import Derived.Deep.AppendLies
import Derived.Maps.AppendAt
import Derived.OwnWalk
import Derived.Laws.BytesArg
import Derived.Laws.MakeOwn
import Derived.Laws.OwnMore
import Derived.Deep.OwnRows
import Derived.Tactics
import Derived.Lib.ConvBytes
import Derived.Laws.Slices
import Derived.WalkKit
import Derived.KernelRfl
import Derived.RowKit3
import Derived.Deep.LoopGhost
import Derived.Deep.QuietTactic
import Derived.BigQuiet
import Derived.WideLaws
import Derived.Deep.DeepCutAuto
import Derived.Deep.CutBlock
import Derived.Deep.RegionHeld3
import Derived.Laws.Rows
import Derived.Lib.AppendStr
import Derived.ArgAppend
import Derived.Laws.IdiomCopy
import Derived.OrdersHeld
import Derived.Laws.BitsLemmas
import Derived.RowKit
import Derived.Test.YtogcoedmagoogaaDoorMan
import Derived.Test.YtogcoedmagoogaaDoorStr
import Derived.Test.YtogcoedmagoogaaDoorTab
import Derived.Test.YtogcoedmagoogaaDoorWWords
import Derived.Test.YtogcoedmagoogaaDoorWLast
import Derived.Test.YtogcoedmagoogaaDoorWTab
import Derived.Test.YtogcoedmagoogaaDoorWFour
import Derived.Test.YtogcoedmagoogaaDoorWQPut
import Derived.Test.YtogcoedmagoogaaDoorWApart
import Derived.Test.YtogcoedmagoogaaDoorWArr
import Derived.Test.YtogcoedmagoogaaDoorWZeros
import Derived.Test.YtogcoedmagoogaaDoorWFoot
import Derived.Test.YtogcoedmagoogaaDoorWKept
import Derived.Test.YtogcoedmagoogaaDoorWShare
import Derived.Test.YtogcoedmagoogaaDoorWN
import Derived.Test.YtogcoedmagoogaaDoorWFootNe
import Derived.Test.YtogcoedmagoogaaDoorWAt
import Derived.Test.YtogcoedmagoogaaDoorWEqStruct
import Derived.Test.YtogcoedmagoogaaDoorWRepsOne
import Derived.Test.YtogcoedmagoogaaDoorWInv
import Derived.Test.YtogcoedmagoogaaDoorWInvWords
import Derived.Test.YtogcoedmagoogaaDoorWGuard
import Derived.Test.YtogcoedmagoogaaDoorWNEv
import Derived.Test.YtogcoedmagoogaaDoorWMore
namespace Go.Proofs.YtogcoedmagoogaaDoor.PFnExactParseOrigin
open Go.RowKit Go.Proofs.YtogcoedmagoogaaDoorW.PrintWords Go.Proofs.YtogcoedmagoogaaDoorW.PrintLast Go.Proofs.YtogcoedmagoogaaDoorW.PrintMore
attribute [local go_sem] max2_int min2_int max_two min_two max_three min_three max_four min_four   -- for this text's walks alone
set_option linter.unusedVariables false
set_option linter.unusedSimpArgs false



def errW : Option Int → Value
  | none => .nilIface
  | some c => .iface 0 (.int .i64 c)
theorem errW_none : errW none = .nilIface := rfl
theorem errW_some (c : Int) : errW (some c) = .iface 0 (.int .i64 c) := rfl

theorem info5 : (Tryd.prog.info? 5).map (fun i => (i.zero, i.size, i.bytes)) = some (some (.int .u8 0), 1, 1) := by kernel_rfl
theorem info9 : (Tryd.prog.info? 9).map (fun i => (i.zero, i.size, i.bytes)) = some (some (.string ⟨#[]⟩), 1, 16) := by kernel_rfl
-- the values' own types

end Go.Proofs.YtogcoedmagoogaaDoor.PFnExactParseOrigin
