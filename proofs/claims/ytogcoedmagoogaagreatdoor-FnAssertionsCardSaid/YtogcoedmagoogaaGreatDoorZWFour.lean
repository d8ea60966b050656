/- Helping lemmas of the law FnAssertions, in so far as it needs them; conditions: each lemma's own. -/
import Derived.Test.YtogcoedmagoogaaGreatDoorZWTab
namespace Go.Proofs.YtogcoedmagoogaaGreatDoorW.PrintLast
end Go.Proofs.YtogcoedmagoogaaGreatDoorW.PrintLast

