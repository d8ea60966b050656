/- Functions and contracts of a law's callees, written by a program of this session (a changed print): each contract says that the machine's call answers what the plain function says. Conditions: the plain function's own answer. -/
import Derived.Test.YtebggeldghoefaaDoorProg
import Derived.Below
import Derived.Deep.Draws
import Derived.Deep.AppendLies
import Derived.Maps.AppendAt
import Derived.OwnWalk
import Derived.Laws.BytesArg
import Derived.Laws.MakeOwn
import Derived.Laws.OwnMore
import Derived.Deep.OwnRows
import Derived.Tactics
import Derived.Lib.ConvBytes
import Derived.Laws.Slices
import Derived.WalkKit
import Derived.KernelRfl
import Derived.RowKit3
import Derived.Deep.LoopGhost
import Derived.Deep.QuietTactic
import Derived.BigQuiet
import Derived.WideLaws
import Derived.Deep.DeepCutAuto
import Derived.Deep.CutBlock
import Derived.Deep.RegionHeld3
import Derived.Laws.Rows
import Derived.Lib.AppendStr
import Derived.ArgAppend
import Derived.Laws.IdiomCopy
import Derived.OrdersHeld
import Derived.Laws.BitsLemmas
import Derived.RowKit
import Derived.Test.YtebggeldghoefaaDoorMan
import Derived.Test.YtebggeldghoefaaDoorStr
import Derived.Test.YtebggeldghoefaaDoorWWords
import Derived.Test.YtebggeldghoefaaDoorWLast
import Derived.Test.YtebggeldghoefaaDoorWTab
import Derived.Test.YtebggeldghoefaaDoorWFour
import Derived.Test.YtebggeldghoefaaDoorWQPut
import Derived.Test.YtebggeldghoefaaDoorWApart
import Derived.Test.YtebggeldghoefaaDoorWArr
import Derived.Test.YtebggeldghoefaaDoorWZeros
import Derived.Test.YtebggeldghoefaaDoorWFoot
import Derived.Test.YtebggeldghoefaaDoorWKept
import Derived.Test.YtebggeldghoefaaDoorWShare
import Derived.Test.YtebggeldghoefaaDoorWN
import Derived.Test.YtebggeldghoefaaDoorWFootNe
import Derived.Test.YtebggeldghoefaaDoorWAt
import Derived.Test.YtebggeldghoefaaDoorWEqStruct
import Derived.Test.YtebggeldghoefaaDoorWRepsOne
import Derived.Test.YtebggeldghoefaaDoorWInv
import Derived.Test.YtebggeldghoefaaDoorWInvWords
import Derived.Test.YtebggeldghoefaaDoorWGuard
import Derived.Test.YtebggeldghoefaaDoorWNEv
import Derived.Test.YtebggeldghoefaaDoorWMore
namespace Go.Proofs.YtebggeldghoefaaDoor.PFnExactIsSameSite
open Go.RowKit Go.Proofs.YtebggeldghoefaaDoorW.PrintWords Go.Proofs.YtebggeldghoefaaDoorW.PrintLast Go.Proofs.YtebggeldghoefaaDoorW.PrintMore
attribute [local go_sem] max2_int min2_int max_two min_two max_three min_three max_four min_four   -- for this text's walks alone
set_option linter.unusedVariables false
set_option linter.unusedSimpArgs false



def errW : Option Int → Value
  | none => .nilIface
  | some c => .iface 0 (.int .i64 c)
theorem errW_none : errW none = .nilIface := rfl
theorem errW_some (c : Int) : errW (some c) = .iface 0 (.int .i64 c) := rfl

theorem info9 : (Tryd.prog.info? 9).map (fun i => (i.zero, i.size, i.bytes)) = some (some (.string ⟨#[]⟩), 1, 16) := by kernel_rfl
-- the values' own types

end Go.Proofs.YtebggeldghoefaaDoor.PFnExactIsSameSite
