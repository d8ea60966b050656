/- Helping lemmas of the law FnExactRelayAssertion, in so far as it needs them; conditions: each lemma's own. -/
import Derived.Test.YtogcoedmagoogaaDoorZWTab
namespace Go.Proofs.YtogcoedmagoogaaDoorW.PrintLast
end Go.Proofs.YtogcoedmagoogaaDoorW.PrintLast

