/-
  No cell of these rows narrows 'for every input' (looked for: loops, veiled, ifaces, maps, wideKeys, modest, calm, conditions, laid).
  DERIVED. THE GIVEN ROWS OF THIS SEAT. 12 by the template 'for every input the law returns true; each argument reads behind the call as it read before'; 0 by the template 'total and deterministic' (their statements: YtednmbifgnpkbaaTotals.lean).
  GIVEN WITH THE SEED: the statements are not yours to turn. If you find one false, say at which input.
  Laid BY PROGRAM, IN A SANDBOX (cutbox-rows.mjs): the forced cells as the released guide's own fill.sh prints them over the translation f6867f3f1ac58c76… (all of the seat's roots in one cut). By AI agents, Wed Nov 11 2026. No macro, syntax, notation, axiom, sorry.
-/
import Derived.Test.YtednmbifgnpkbaaChecked
import GoSem.Claim
import GoSem.ClaimJoined
import GoSem.ClaimMapViews
import Derived.JoinedTies
import Derived.KernelRfl
namespace Go.Proofs.Ytednmbifgnpkbaa
/- THE CELL 'sum', in the pinned program and in every row, IS THE sha256 OF THE DUMP (.gsa) THAT YtednmbifgnpkbaaProg.lean LOADS. Nothing in Lean hashes anything: it is a label: what it is worth is what the hold of that sum in a sandbox is worth. -/
noncomputable def Try.pinned : Pinned := { name := "ytednmbifgnpkbaa", sum := "f6867f3f1ac58c76e878b4a25b3863391d9480c3da9a7f4988e1af0041da4a50", checked := Try.checked }
namespace Rows
def none {H : Type} : Left H := { results := [], args := [] }

/-- 'laws.FnExactExpireChallenges': WHATEVER THE INPUT: true; the input reads as it did. -/
def fnExactExpireChallengesSpec : ChangeSpec := { name := "fnExactExpireChallenges", fn := fun _ => fun
  | [d1, d2] => { results := [.lit (.bool true)], args := [d1, d2] }
  | _ => none }
def fnExactExpireChallengesRow : OpenClaim := { program := "ytednmbifgnpkbaa", sum := "f6867f3f1ac58c76e878b4a25b3863391d9480c3da9a7f4988e1af0041da4a50", func := "loop.example/g00581/laws.FnExactExpireChallenges", spec := "fnExactExpireChallenges", apart := false }
def FnExactExpireChallengesSaid : Prop := fnExactExpireChallengesRow.holds Try.pinned (OpenSpec.ofChange fnExactExpireChallengesSpec)

/-- ITS FALSE NEIGHBOUR: 'it returns false'. Refute it at one input. -/
def fnExactExpireChallengesWrong : ChangeSpec := { name := "fnExactExpireChallenges", fn := fun _ => fun
  | [d1, d2] => { results := [.lit (.bool false)], args := [d1, d2] }
  | _ => none }
def FnExactExpireChallengesWrongFalsely : Prop := fnExactExpireChallengesRow.holds Try.pinned (OpenSpec.ofChange fnExactExpireChallengesWrong)

/-- 'laws.FnExactIssueChallenge': WHATEVER THE INPUT: true; the input reads as it did. -/
def fnExactIssueChallengeSpec : ChangeSpec := { name := "fnExactIssueChallenge", fn := fun _ => fun
  | [d1, d2, d3] => { results := [.lit (.bool true)], args := [d1, d2, d3] }
  | _ => none }
def fnExactIssueChallengeRow : OpenClaim := { program := "ytednmbifgnpkbaa", sum := "f6867f3f1ac58c76e878b4a25b3863391d9480c3da9a7f4988e1af0041da4a50", func := "loop.example/g00581/laws.FnExactIssueChallenge", spec := "fnExactIssueChallenge", apart := false }
def FnExactIssueChallengeSaid : Prop := fnExactIssueChallengeRow.holds Try.pinned (OpenSpec.ofChange fnExactIssueChallengeSpec)

/-- ITS FALSE NEIGHBOUR: 'it returns false'. Refute it at one input. -/
def fnExactIssueChallengeWrong : ChangeSpec := { name := "fnExactIssueChallenge", fn := fun _ => fun
  | [d1, d2, d3] => { results := [.lit (.bool false)], args := [d1, d2, d3] }
  | _ => none }
def FnExactIssueChallengeWrongFalsely : Prop := fnExactIssueChallengeRow.holds Try.pinned (OpenSpec.ofChange fnExactIssueChallengeWrong)

/-- 'laws.FnExactSignWithStore': WHATEVER THE INPUT: true; the input reads as it did. -/
def fnExactSignWithStoreSpec : ChangeSpec := { name := "fnExactSignWithStore", fn := fun _ => fun
  | [d1, d2, d3, d4] => { results := [.lit (.bool true)], args := [d1, d2, d3, d4] }
  | _ => none }
def fnExactSignWithStoreRow : OpenClaim := { program := "ytednmbifgnpkbaa", sum := "f6867f3f1ac58c76e878b4a25b3863391d9480c3da9a7f4988e1af0041da4a50", func := "loop.example/g00581/laws.FnExactSignWithStore", spec := "fnExactSignWithStore", apart := false }
def FnExactSignWithStoreSaid : Prop := fnExactSignWithStoreRow.holds Try.pinned (OpenSpec.ofChange fnExactSignWithStoreSpec)

/-- ITS FALSE NEIGHBOUR: 'it returns false'. Refute it at one input. -/
def fnExactSignWithStoreWrong : ChangeSpec := { name := "fnExactSignWithStore", fn := fun _ => fun
  | [d1, d2, d3, d4] => { results := [.lit (.bool false)], args := [d1, d2, d3, d4] }
  | _ => none }
def FnExactSignWithStoreWrongFalsely : Prop := fnExactSignWithStoreRow.holds Try.pinned (OpenSpec.ofChange fnExactSignWithStoreWrong)

/-- 'laws.FnExactTakeChallenge': WHATEVER THE INPUT: true; the input reads as it did. -/
def fnExactTakeChallengeSpec : ChangeSpec := { name := "fnExactTakeChallenge", fn := fun _ => fun
  | [d1, d2, d3, d4] => { results := [.lit (.bool true)], args := [d1, d2, d3, d4] }
  | _ => none }
def fnExactTakeChallengeRow : OpenClaim := { program := "ytednmbifgnpkbaa", sum := "f6867f3f1ac58c76e878b4a25b3863391d9480c3da9a7f4988e1af0041da4a50", func := "loop.example/g00581/laws.FnExactTakeChallenge", spec := "fnExactTakeChallenge", apart := false }
def FnExactTakeChallengeSaid : Prop := fnExactTakeChallengeRow.holds Try.pinned (OpenSpec.ofChange fnExactTakeChallengeSpec)

/-- ITS FALSE NEIGHBOUR: 'it returns false'. Refute it at one input. -/
def fnExactTakeChallengeWrong : ChangeSpec := { name := "fnExactTakeChallenge", fn := fun _ => fun
  | [d1, d2, d3, d4] => { results := [.lit (.bool false)], args := [d1, d2, d3, d4] }
  | _ => none }
def FnExactTakeChallengeWrongFalsely : Prop := fnExactTakeChallengeRow.holds Try.pinned (OpenSpec.ofChange fnExactTakeChallengeWrong)

/-- 'laws.FnExactCombineEvaluations': WHATEVER THE INPUT: true; the input reads as it did. -/
def fnExactCombineEvaluationsSpec : ChangeSpec := { name := "fnExactCombineEvaluations", fn := fun _ => fun
  | [d1, d2] => { results := [.lit (.bool true)], args := [d1, d2] }
  | _ => none }
def fnExactCombineEvaluationsRow : OpenClaim := { program := "ytednmbifgnpkbaa", sum := "f6867f3f1ac58c76e878b4a25b3863391d9480c3da9a7f4988e1af0041da4a50", func := "loop.example/g00581/laws.FnExactCombineEvaluations", spec := "fnExactCombineEvaluations", apart := false }
def FnExactCombineEvaluationsSaid : Prop := fnExactCombineEvaluationsRow.holds Try.pinned (OpenSpec.ofChange fnExactCombineEvaluationsSpec)

/-- ITS FALSE NEIGHBOUR: 'it returns false'. Refute it at one input. -/
def fnExactCombineEvaluationsWrong : ChangeSpec := { name := "fnExactCombineEvaluations", fn := fun _ => fun
  | [d1, d2] => { results := [.lit (.bool false)], args := [d1, d2] }
  | _ => none }
def FnExactCombineEvaluationsWrongFalsely : Prop := fnExactCombineEvaluationsRow.holds Try.pinned (OpenSpec.ofChange fnExactCombineEvaluationsWrong)

/-- 'laws.FnOblivious': WHATEVER THE INPUT: true; the input reads as it did. -/
def fnObliviousSpec : ChangeSpec := { name := "fnOblivious", fn := fun _ => fun
  | [d] => { results := [.lit (.bool true)], args := [d] }
  | _ => none }
def fnObliviousRow : OpenClaim := { program := "ytednmbifgnpkbaa", sum := "f6867f3f1ac58c76e878b4a25b3863391d9480c3da9a7f4988e1af0041da4a50", func := "loop.example/g00581/laws.FnOblivious", spec := "fnOblivious", apart := false }
def FnObliviousSaid : Prop := fnObliviousRow.holds Try.pinned (OpenSpec.ofChange fnObliviousSpec)

/-- ITS FALSE NEIGHBOUR: 'it returns false'. Refute it at one input. -/
def fnObliviousWrong : ChangeSpec := { name := "fnOblivious", fn := fun _ => fun
  | [d] => { results := [.lit (.bool false)], args := [d] }
  | _ => none }
def FnObliviousWrongFalsely : Prop := fnObliviousRow.holds Try.pinned (OpenSpec.ofChange fnObliviousWrong)

/-- 'laws.FnExactOpenBox': WHATEVER THE INPUT: true; the input reads as it did. -/
def fnExactOpenBoxSpec : ChangeSpec := { name := "fnExactOpenBox", fn := fun _ => fun
  | [d1, d2] => { results := [.lit (.bool true)], args := [d1, d2] }
  | _ => none }
def fnExactOpenBoxRow : OpenClaim := { program := "ytednmbifgnpkbaa", sum := "f6867f3f1ac58c76e878b4a25b3863391d9480c3da9a7f4988e1af0041da4a50", func := "loop.example/g00581/laws.FnExactOpenBox", spec := "fnExactOpenBox", apart := false }
def FnExactOpenBoxSaid : Prop := fnExactOpenBoxRow.holds Try.pinned (OpenSpec.ofChange fnExactOpenBoxSpec)

/-- ITS FALSE NEIGHBOUR: 'it returns false'. Refute it at one input. -/
def fnExactOpenBoxWrong : ChangeSpec := { name := "fnExactOpenBox", fn := fun _ => fun
  | [d1, d2] => { results := [.lit (.bool false)], args := [d1, d2] }
  | _ => none }
def FnExactOpenBoxWrongFalsely : Prop := fnExactOpenBoxRow.holds Try.pinned (OpenSpec.ofChange fnExactOpenBoxWrong)

/-- 'laws.FnKeyStores': WHATEVER THE INPUT: true; the input reads as it did. -/
def fnKeyStoresSpec : ChangeSpec := { name := "fnKeyStores", fn := fun _ => fun
  | [d] => { results := [.lit (.bool true)], args := [d] }
  | _ => none }
def fnKeyStoresRow : OpenClaim := { program := "ytednmbifgnpkbaa", sum := "f6867f3f1ac58c76e878b4a25b3863391d9480c3da9a7f4988e1af0041da4a50", func := "loop.example/g00581/laws.FnKeyStores", spec := "fnKeyStores", apart := false }
def FnKeyStoresSaid : Prop := fnKeyStoresRow.holds Try.pinned (OpenSpec.ofChange fnKeyStoresSpec)

/-- ITS FALSE NEIGHBOUR: 'it returns false'. Refute it at one input. -/
def fnKeyStoresWrong : ChangeSpec := { name := "fnKeyStores", fn := fun _ => fun
  | [d] => { results := [.lit (.bool false)], args := [d] }
  | _ => none }
def FnKeyStoresWrongFalsely : Prop := fnKeyStoresRow.holds Try.pinned (OpenSpec.ofChange fnKeyStoresWrong)

/-- 'laws.FnChallenges': WHATEVER THE INPUT: true; the input reads as it did. -/
def fnChallengesSpec : ChangeSpec := { name := "fnChallenges", fn := fun _ => fun
  | [d] => { results := [.lit (.bool true)], args := [d] }
  | _ => none }
def fnChallengesRow : OpenClaim := { program := "ytednmbifgnpkbaa", sum := "f6867f3f1ac58c76e878b4a25b3863391d9480c3da9a7f4988e1af0041da4a50", func := "loop.example/g00581/laws.FnChallenges", spec := "fnChallenges", apart := false }
def FnChallengesSaid : Prop := fnChallengesRow.holds Try.pinned (OpenSpec.ofChange fnChallengesSpec)

/-- ITS FALSE NEIGHBOUR: 'it returns false'. Refute it at one input. -/
def fnChallengesWrong : ChangeSpec := { name := "fnChallenges", fn := fun _ => fun
  | [d] => { results := [.lit (.bool false)], args := [d] }
  | _ => none }
def FnChallengesWrongFalsely : Prop := fnChallengesRow.holds Try.pinned (OpenSpec.ofChange fnChallengesWrong)

/-- 'laws.FnExactSealBox': WHATEVER THE INPUT: true; the input reads as it did. -/
def fnExactSealBoxSpec : ChangeSpec := { name := "fnExactSealBox", fn := fun _ => fun
  | [d1, d2, d3] => { results := [.lit (.bool true)], args := [d1, d2, d3] }
  | _ => none }
def fnExactSealBoxRow : OpenClaim := { program := "ytednmbifgnpkbaa", sum := "f6867f3f1ac58c76e878b4a25b3863391d9480c3da9a7f4988e1af0041da4a50", func := "loop.example/g00581/laws.FnExactSealBox", spec := "fnExactSealBox", apart := false }
def FnExactSealBoxSaid : Prop := fnExactSealBoxRow.holds Try.pinned (OpenSpec.ofChange fnExactSealBoxSpec)

/-- ITS FALSE NEIGHBOUR: 'it returns false'. Refute it at one input. -/
def fnExactSealBoxWrong : ChangeSpec := { name := "fnExactSealBox", fn := fun _ => fun
  | [d1, d2, d3] => { results := [.lit (.bool false)], args := [d1, d2, d3] }
  | _ => none }
def FnExactSealBoxWrongFalsely : Prop := fnExactSealBoxRow.holds Try.pinned (OpenSpec.ofChange fnExactSealBoxWrong)

/-- 'laws.FnExactCheckAttestation': WHATEVER THE INPUT: true; the input reads as it did. -/
def fnExactCheckAttestationSpec : ChangeSpec := { name := "fnExactCheckAttestation", fn := fun _ => fun
  | [d1, d2] => { results := [.lit (.bool true)], args := [d1, d2] }
  | _ => none }
def fnExactCheckAttestationRow : OpenClaim := { program := "ytednmbifgnpkbaa", sum := "f6867f3f1ac58c76e878b4a25b3863391d9480c3da9a7f4988e1af0041da4a50", func := "loop.example/g00581/laws.FnExactCheckAttestation", spec := "fnExactCheckAttestation", apart := false }
def FnExactCheckAttestationSaid : Prop := fnExactCheckAttestationRow.holds Try.pinned (OpenSpec.ofChange fnExactCheckAttestationSpec)

/-- ITS FALSE NEIGHBOUR: 'it returns false'. Refute it at one input. -/
def fnExactCheckAttestationWrong : ChangeSpec := { name := "fnExactCheckAttestation", fn := fun _ => fun
  | [d1, d2] => { results := [.lit (.bool false)], args := [d1, d2] }
  | _ => none }
def FnExactCheckAttestationWrongFalsely : Prop := fnExactCheckAttestationRow.holds Try.pinned (OpenSpec.ofChange fnExactCheckAttestationWrong)

/-- 'laws.FnExactFindBox': WHATEVER THE INPUT: true; the input reads as it did. -/
def fnExactFindBoxSpec : ChangeSpec := { name := "fnExactFindBox", fn := fun _ => fun
  | [d1, d2] => { results := [.lit (.bool true)], args := [d1, d2] }
  | _ => none }
def fnExactFindBoxRow : OpenClaim := { program := "ytednmbifgnpkbaa", sum := "f6867f3f1ac58c76e878b4a25b3863391d9480c3da9a7f4988e1af0041da4a50", func := "loop.example/g00581/laws.FnExactFindBox", spec := "fnExactFindBox", apart := false }
def FnExactFindBoxSaid : Prop := fnExactFindBoxRow.holds Try.pinned (OpenSpec.ofChange fnExactFindBoxSpec)

/-- ITS FALSE NEIGHBOUR: 'it returns false'. Refute it at one input. -/
def fnExactFindBoxWrong : ChangeSpec := { name := "fnExactFindBox", fn := fun _ => fun
  | [d1, d2] => { results := [.lit (.bool false)], args := [d1, d2] }
  | _ => none }
def FnExactFindBoxWrongFalsely : Prop := fnExactFindBoxRow.holds Try.pinned (OpenSpec.ofChange fnExactFindBoxWrong)

/- THE SECOND FORM. 'bulk': how many values and letters a reading holds, each counted each time it is reached (what is shared counts as often as it is met; a slice's spare places count too). A statement '..UptoSaid' is the law's where the arguments, and the package variables that the reading takes, are together of bulk at most 1048576: NARROWER than '..Said'. Prove '..Said' where nothing that the law and all that it calls make is longer than what came in: it says more and counts as full. Else prove '..UptoSaid'. A law counts once. -/
mutual
def uptoBulk {H : Type} : DataW H → Nat
  | .lit (.string bytes) => bytes.length + 1
  | .lit _ => 1
  | .nil => 1
  | .ptr d => uptoBulk d + 1
  | .slice elems spare => uptoBulkAll elems + uptoBulkAll spare + 1
  | .agg parts => uptoBulkAll parts + 1
  | .iface _ d => uptoBulk d + 1
  | .map entries => uptoBulkEntries entries + 1
  | .held _ => 1
def uptoBulkAll {H : Type} : List (DataW H) → Nat
  | [] => 0
  | d :: r => uptoBulk d + uptoBulkAll r
def uptoBulkEntries {H : Type} : List (Lit × DataW H) → Nat
  | [] => 0
  | x :: r => uptoBulkEntry x + uptoBulkEntries r
def uptoBulkEntry {H : Type} : Lit × DataW H → Nat
  | (.string bytes, d) => bytes.length + uptoBulk d + 1
  | (_, d) => uptoBulk d + 1
 end
def uptoSmall : (H : Type) → List (DataW H) → Bool := fun _ ds => decide (uptoBulkAll ds ≤ 1048576)
def OpenSpec.upto (s : _root_.Go.ChangeSpec) : _root_.Go.OpenSpec := { _root_.Go.OpenSpec.ofChange s with cond := some uptoSmall }

/-- 'laws.FnExactExpireChallenges', WHERE WHAT IT READS IS OF BULK AT MOST 1048576: true; the input reads as it did. -/
def fnExactExpireChallengesUptoRow : OpenClaim := { program := "ytednmbifgnpkbaa", sum := "f6867f3f1ac58c76e878b4a25b3863391d9480c3da9a7f4988e1af0041da4a50", func := "loop.example/g00581/laws.FnExactExpireChallenges", spec := "fnExactExpireChallenges", apart := false, narrowed := true }
def FnExactExpireChallengesUptoSaid : Prop := fnExactExpireChallengesUptoRow.holds Try.pinned (OpenSpec.upto fnExactExpireChallengesSpec)

/-- 'laws.FnExactIssueChallenge', WHERE WHAT IT READS IS OF BULK AT MOST 1048576: true; the input reads as it did. -/
def fnExactIssueChallengeUptoRow : OpenClaim := { program := "ytednmbifgnpkbaa", sum := "f6867f3f1ac58c76e878b4a25b3863391d9480c3da9a7f4988e1af0041da4a50", func := "loop.example/g00581/laws.FnExactIssueChallenge", spec := "fnExactIssueChallenge", apart := false, narrowed := true }
def FnExactIssueChallengeUptoSaid : Prop := fnExactIssueChallengeUptoRow.holds Try.pinned (OpenSpec.upto fnExactIssueChallengeSpec)

/-- 'laws.FnExactSignWithStore', WHERE WHAT IT READS IS OF BULK AT MOST 1048576: true; the input reads as it did. -/
def fnExactSignWithStoreUptoRow : OpenClaim := { program := "ytednmbifgnpkbaa", sum := "f6867f3f1ac58c76e878b4a25b3863391d9480c3da9a7f4988e1af0041da4a50", func := "loop.example/g00581/laws.FnExactSignWithStore", spec := "fnExactSignWithStore", apart := false, narrowed := true }
def FnExactSignWithStoreUptoSaid : Prop := fnExactSignWithStoreUptoRow.holds Try.pinned (OpenSpec.upto fnExactSignWithStoreSpec)

/-- 'laws.FnExactTakeChallenge', WHERE WHAT IT READS IS OF BULK AT MOST 1048576: true; the input reads as it did. -/
def fnExactTakeChallengeUptoRow : OpenClaim := { program := "ytednmbifgnpkbaa", sum := "f6867f3f1ac58c76e878b4a25b3863391d9480c3da9a7f4988e1af0041da4a50", func := "loop.example/g00581/laws.FnExactTakeChallenge", spec := "fnExactTakeChallenge", apart := false, narrowed := true }
def FnExactTakeChallengeUptoSaid : Prop := fnExactTakeChallengeUptoRow.holds Try.pinned (OpenSpec.upto fnExactTakeChallengeSpec)

/-- 'laws.FnExactCombineEvaluations', WHERE WHAT IT READS IS OF BULK AT MOST 1048576: true; the input reads as it did. -/
def fnExactCombineEvaluationsUptoRow : OpenClaim := { program := "ytednmbifgnpkbaa", sum := "f6867f3f1ac58c76e878b4a25b3863391d9480c3da9a7f4988e1af0041da4a50", func := "loop.example/g00581/laws.FnExactCombineEvaluations", spec := "fnExactCombineEvaluations", apart := false, narrowed := true }
def FnExactCombineEvaluationsUptoSaid : Prop := fnExactCombineEvaluationsUptoRow.holds Try.pinned (OpenSpec.upto fnExactCombineEvaluationsSpec)

/-- 'laws.FnOblivious', WHERE WHAT IT READS IS OF BULK AT MOST 1048576: true; the input reads as it did. -/
def fnObliviousUptoRow : OpenClaim := { program := "ytednmbifgnpkbaa", sum := "f6867f3f1ac58c76e878b4a25b3863391d9480c3da9a7f4988e1af0041da4a50", func := "loop.example/g00581/laws.FnOblivious", spec := "fnOblivious", apart := false, narrowed := true }
def FnObliviousUptoSaid : Prop := fnObliviousUptoRow.holds Try.pinned (OpenSpec.upto fnObliviousSpec)

/-- 'laws.FnExactOpenBox', WHERE WHAT IT READS IS OF BULK AT MOST 1048576: true; the input reads as it did. -/
def fnExactOpenBoxUptoRow : OpenClaim := { program := "ytednmbifgnpkbaa", sum := "f6867f3f1ac58c76e878b4a25b3863391d9480c3da9a7f4988e1af0041da4a50", func := "loop.example/g00581/laws.FnExactOpenBox", spec := "fnExactOpenBox", apart := false, narrowed := true }
def FnExactOpenBoxUptoSaid : Prop := fnExactOpenBoxUptoRow.holds Try.pinned (OpenSpec.upto fnExactOpenBoxSpec)

/-- 'laws.FnKeyStores', WHERE WHAT IT READS IS OF BULK AT MOST 1048576: true; the input reads as it did. -/
def fnKeyStoresUptoRow : OpenClaim := { program := "ytednmbifgnpkbaa", sum := "f6867f3f1ac58c76e878b4a25b3863391d9480c3da9a7f4988e1af0041da4a50", func := "loop.example/g00581/laws.FnKeyStores", spec := "fnKeyStores", apart := false, narrowed := true }
def FnKeyStoresUptoSaid : Prop := fnKeyStoresUptoRow.holds Try.pinned (OpenSpec.upto fnKeyStoresSpec)

/-- 'laws.FnChallenges', WHERE WHAT IT READS IS OF BULK AT MOST 1048576: true; the input reads as it did. -/
def fnChallengesUptoRow : OpenClaim := { program := "ytednmbifgnpkbaa", sum := "f6867f3f1ac58c76e878b4a25b3863391d9480c3da9a7f4988e1af0041da4a50", func := "loop.example/g00581/laws.FnChallenges", spec := "fnChallenges", apart := false, narrowed := true }
def FnChallengesUptoSaid : Prop := fnChallengesUptoRow.holds Try.pinned (OpenSpec.upto fnChallengesSpec)

/-- 'laws.FnExactSealBox', WHERE WHAT IT READS IS OF BULK AT MOST 1048576: true; the input reads as it did. -/
def fnExactSealBoxUptoRow : OpenClaim := { program := "ytednmbifgnpkbaa", sum := "f6867f3f1ac58c76e878b4a25b3863391d9480c3da9a7f4988e1af0041da4a50", func := "loop.example/g00581/laws.FnExactSealBox", spec := "fnExactSealBox", apart := false, narrowed := true }
def FnExactSealBoxUptoSaid : Prop := fnExactSealBoxUptoRow.holds Try.pinned (OpenSpec.upto fnExactSealBoxSpec)

/-- 'laws.FnExactCheckAttestation', WHERE WHAT IT READS IS OF BULK AT MOST 1048576: true; the input reads as it did. -/
def fnExactCheckAttestationUptoRow : OpenClaim := { program := "ytednmbifgnpkbaa", sum := "f6867f3f1ac58c76e878b4a25b3863391d9480c3da9a7f4988e1af0041da4a50", func := "loop.example/g00581/laws.FnExactCheckAttestation", spec := "fnExactCheckAttestation", apart := false, narrowed := true }
def FnExactCheckAttestationUptoSaid : Prop := fnExactCheckAttestationUptoRow.holds Try.pinned (OpenSpec.upto fnExactCheckAttestationSpec)

/-- 'laws.FnExactFindBox', WHERE WHAT IT READS IS OF BULK AT MOST 1048576: true; the input reads as it did. -/
def fnExactFindBoxUptoRow : OpenClaim := { program := "ytednmbifgnpkbaa", sum := "f6867f3f1ac58c76e878b4a25b3863391d9480c3da9a7f4988e1af0041da4a50", func := "loop.example/g00581/laws.FnExactFindBox", spec := "fnExactFindBox", apart := false, narrowed := true }
def FnExactFindBoxUptoSaid : Prop := fnExactFindBoxUptoRow.holds Try.pinned (OpenSpec.upto fnExactFindBoxSpec)

end Rows
end Go.Proofs.Ytednmbifgnpkbaa
