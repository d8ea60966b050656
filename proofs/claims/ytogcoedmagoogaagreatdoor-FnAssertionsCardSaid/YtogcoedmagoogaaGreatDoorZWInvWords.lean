/- Helping lemmas of the law FnAssertions, in so far as it needs them; conditions: each lemma's own. -/
import Derived.Test.YtogcoedmagoogaaGreatDoorZWInv
import Derived.Test.YtogcoedmagoogaaGreatDoorZWFootNe
namespace Go.Proofs.YtogcoedmagoogaaGreatDoorW.PrintWords
open Go.RowKit
end Go.Proofs.YtogcoedmagoogaaGreatDoorW.PrintWords
namespace Go.Proofs.YtogcoedmagoogaaGreatDoorW.PrintLast
end Go.Proofs.YtogcoedmagoogaaGreatDoorW.PrintLast

