/- Helping lemmas of the law FnAssertions, in so far as it needs them; conditions: each lemma's own. -/
import Derived.Test.YtogcoedmagoogaaGreatDoorZWN
namespace Go.Proofs.YtogcoedmagoogaaGreatDoorW.PrintWords
open Go.RowKit
namespace Kd
end Kd
end Go.Proofs.YtogcoedmagoogaaGreatDoorW.PrintWords

