/- Helping lemmas of the law FnExactExpireChallenges, in so far as it needs them; conditions: each lemma's own. -/
import Derived.Test.YtednmbifgnpkbaaZWInv
import Derived.Test.YtednmbifgnpkbaaZWFootNe
namespace Go.Proofs.YtednmbifgnpkbaaW.PrintWords
open Go.RowKit
end Go.Proofs.YtednmbifgnpkbaaW.PrintWords
namespace Go.Proofs.YtednmbifgnpkbaaW.PrintLast
end Go.Proofs.YtednmbifgnpkbaaW.PrintLast

