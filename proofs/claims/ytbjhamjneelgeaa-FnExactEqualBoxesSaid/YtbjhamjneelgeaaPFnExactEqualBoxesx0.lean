/- Functions and contracts of a law's callees, written by a program of this session (a changed print): each contract says that the machine's call answers what the plain function says. Conditions: the plain function's own answer. -/
import Derived.Test.YtbjhamjneelgeaaProg
import Derived.Below
import Derived.Deep.Draws
import Derived.Deep.AppendLies
import Derived.Maps.AppendAt
import Derived.OwnWalk
import Derived.Laws.BytesArg
import Derived.Laws.MakeOwn
import Derived.Laws.OwnMore
import Derived.Deep.OwnRows
import Derived.Tactics
import Derived.Lib.ConvBytes
import Derived.Laws.Slices
import Derived.WalkKit
import Derived.KernelRfl
import Derived.RowKit3
import Derived.Deep.LoopGhost
import Derived.Deep.QuietTactic
import Derived.BigQuiet
import Derived.WideLaws
import Derived.Deep.DeepCutAuto
import Derived.Deep.CutBlock
import Derived.Deep.RegionHeld3
import Derived.Laws.Rows
import Derived.Lib.AppendStr
import Derived.ArgAppend
import Derived.Laws.IdiomCopy
import Derived.OrdersHeld
import Derived.Laws.BitsLemmas
import Derived.RowKit
import Derived.Test.YtbjhamjneelgeaaMan
import Derived.Test.YtbjhamjneelgeaaWWords
import Derived.Test.YtbjhamjneelgeaaWLast
import Derived.Test.YtbjhamjneelgeaaWTab
import Derived.Test.YtbjhamjneelgeaaWFour
import Derived.Test.YtbjhamjneelgeaaWQPut
import Derived.Test.YtbjhamjneelgeaaWApart
import Derived.Test.YtbjhamjneelgeaaWArr
import Derived.Test.YtbjhamjneelgeaaWZeros
import Derived.Test.YtbjhamjneelgeaaWFoot
import Derived.Test.YtbjhamjneelgeaaWKept
import Derived.Test.YtbjhamjneelgeaaWShare
import Derived.Test.YtbjhamjneelgeaaWN
import Derived.Test.YtbjhamjneelgeaaWFootNe
import Derived.Test.YtbjhamjneelgeaaWAt
import Derived.Test.YtbjhamjneelgeaaWEqStruct
import Derived.Test.YtbjhamjneelgeaaWRepsOne
import Derived.Test.YtbjhamjneelgeaaWInv
import Derived.Test.YtbjhamjneelgeaaWInvWords
import Derived.Test.YtbjhamjneelgeaaWGuard
import Derived.Test.YtbjhamjneelgeaaWNEv
import Derived.Test.YtbjhamjneelgeaaWMore
namespace Go.Proofs.Ytbjhamjneelgeaa.PFnExactEqualBoxes
open Go.RowKit Go.Proofs.YtbjhamjneelgeaaW.PrintWords Go.Proofs.YtbjhamjneelgeaaW.PrintLast Go.Proofs.YtbjhamjneelgeaaW.PrintMore
attribute [local go_sem] max2_int min2_int max_two min_two max_three min_three max_four min_four   -- for this text's walks alone
set_option linter.unusedVariables false
set_option linter.unusedSimpArgs false



def errW : Option Int → Value
  | none => .nilIface
  | some c => .iface 0 (.int .i64 c)
theorem errW_none : errW none = .nilIface := rfl
theorem errW_some (c : Int) : errW (some c) = .iface 0 (.int .i64 c) := rfl

theorem info5 : (Try.prog.info? 5).map (fun i => (i.zero, i.size, i.bytes)) = some (some (.int .u8 0), 1, 1) := by kernel_rfl
-- the values' own types

end Go.Proofs.Ytbjhamjneelgeaa.PFnExactEqualBoxes
