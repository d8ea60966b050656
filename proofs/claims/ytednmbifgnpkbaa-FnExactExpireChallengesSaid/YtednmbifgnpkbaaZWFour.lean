/- Helping lemmas of the law FnExactExpireChallenges, in so far as it needs them; conditions: each lemma's own. -/
import Derived.Test.YtednmbifgnpkbaaZWTab
namespace Go.Proofs.YtednmbifgnpkbaaW.PrintLast
end Go.Proofs.YtednmbifgnpkbaaW.PrintLast

