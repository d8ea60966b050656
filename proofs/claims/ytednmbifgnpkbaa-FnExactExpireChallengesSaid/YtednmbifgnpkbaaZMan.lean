/- Helping lemmas of the law FnExactExpireChallenges, in so far as it needs them; conditions: each lemma's own. -/
import Derived.Test.YtednmbifgnpkbaaZWMore
import Derived.Lib.ConvBytes
namespace Go.Proofs.Ytednmbifgnpkbaa.Man
open Go.RowKit Go.Proofs.YtednmbifgnpkbaaW.PrintWords Go.Proofs.YtednmbifgnpkbaaW.PrintLast Go.Proofs.YtednmbifgnpkbaaW.PrintMore
set_option linter.unusedVariables false
end Go.Proofs.Ytednmbifgnpkbaa.Man

