/- Helping lemmas of the law FnExactExpireChallenges, in so far as it needs them; conditions: each lemma's own. -/
import Derived.Test.YtednmbifgnpkbaaZWFootNe
namespace Go.Proofs.YtednmbifgnpkbaaW.PrintWords
open Go.RowKit
namespace Kd
end Kd
end Go.Proofs.YtednmbifgnpkbaaW.PrintWords

