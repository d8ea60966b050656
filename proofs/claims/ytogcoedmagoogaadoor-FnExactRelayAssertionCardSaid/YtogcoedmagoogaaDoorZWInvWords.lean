/- Helping lemmas of the law FnExactRelayAssertion, in so far as it needs them; conditions: each lemma's own. -/
import Derived.Test.YtogcoedmagoogaaDoorZWInv
import Derived.Test.YtogcoedmagoogaaDoorZWFootNe
namespace Go.Proofs.YtogcoedmagoogaaDoorW.PrintWords
open Go.RowKit
end Go.Proofs.YtogcoedmagoogaaDoorW.PrintWords
namespace Go.Proofs.YtogcoedmagoogaaDoorW.PrintLast
end Go.Proofs.YtogcoedmagoogaaDoorW.PrintLast

