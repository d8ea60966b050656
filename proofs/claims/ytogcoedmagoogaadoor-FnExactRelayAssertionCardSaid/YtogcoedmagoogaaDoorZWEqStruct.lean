/- Helping lemmas of the law FnExactRelayAssertion, in so far as it needs them; conditions: each lemma's own. -/
import Derived.Test.YtogcoedmagoogaaDoorZWWords
import Derived.Laws.StructEq
namespace Go.Proofs.YtogcoedmagoogaaDoorW.PrintWords
open Go.RowKit
end Go.Proofs.YtogcoedmagoogaaDoorW.PrintWords

