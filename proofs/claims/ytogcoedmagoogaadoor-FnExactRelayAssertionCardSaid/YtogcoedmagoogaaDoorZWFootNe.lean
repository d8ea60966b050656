/- Helping lemmas of the law FnExactRelayAssertion, in so far as it needs them; conditions: each lemma's own. -/
import Derived.Test.YtogcoedmagoogaaDoorZWN
namespace Go.Proofs.YtogcoedmagoogaaDoorW.PrintWords
open Go.RowKit
namespace Kd
end Kd
end Go.Proofs.YtogcoedmagoogaaDoorW.PrintWords

