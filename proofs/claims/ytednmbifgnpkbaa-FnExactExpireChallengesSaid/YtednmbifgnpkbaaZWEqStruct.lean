/- Helping lemmas of the law FnExactExpireChallenges, in so far as it needs them; conditions: each lemma's own. -/
import Derived.Test.YtednmbifgnpkbaaZWWords
import Derived.Laws.StructEq
namespace Go.Proofs.YtednmbifgnpkbaaW.PrintWords
open Go.RowKit
end Go.Proofs.YtednmbifgnpkbaaW.PrintWords

