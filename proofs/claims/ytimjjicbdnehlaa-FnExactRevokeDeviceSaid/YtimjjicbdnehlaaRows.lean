/-
  No cell of these rows narrows 'for every input' (looked for: loops, veiled, ifaces, maps, wideKeys, modest, calm, conditions, laid).
  DERIVED. THE GIVEN ROWS OF THIS SEAT. 12 by the template 'for every input the law returns true; each argument reads behind the call as it read before'; 0 by the template 'total and deterministic' (their statements: YtimjjicbdnehlaaTotals.lean).
  GIVEN WITH THE SEED: the statements are not yours to turn. If you find one false, say at which input.
  Laid BY PROGRAM, IN A SANDBOX (cutbox-rows.mjs): the forced cells as the released guide's own fill.sh prints them over the translation 6561b25411d6a65b… (all of the seat's roots in one cut). By AI agents, Wed Nov 11 2026. No macro, syntax, notation, axiom, sorry.
-/
import Derived.Test.YtimjjicbdnehlaaChecked
import GoSem.Claim
import GoSem.ClaimJoined
import GoSem.ClaimMapViews
import Derived.JoinedTies
import Derived.KernelRfl
namespace Go.Proofs.Ytimjjicbdnehlaa
/- THE CELL 'sum', in the pinned program and in every row, IS THE sha256 OF THE DUMP (.gsa) THAT YtimjjicbdnehlaaProg.lean LOADS. Nothing in Lean hashes anything: it is a label: what it is worth is what the hold of that sum in a sandbox is worth. -/
noncomputable def Try.pinned : Pinned := { name := "ytimjjicbdnehlaa", sum := "6561b25411d6a65b7f0d97e567c1b93184b58a9da1bc996e77fadfc601dea0a9", checked := Try.checked }
namespace Rows
def none {H : Type} : Left H := { results := [], args := [] }

/-- 'laws.FnExactDirectOutput': WHATEVER THE INPUT: true; the input reads as it did. -/
def fnExactDirectOutputSpec : ChangeSpec := { name := "fnExactDirectOutput", fn := fun _ => fun
  | [d1, d2, d3] => { results := [.lit (.bool true)], args := [d1, d2, d3] }
  | _ => none }
def fnExactDirectOutputRow : OpenClaim := { program := "ytimjjicbdnehlaa", sum := "6561b25411d6a65b7f0d97e567c1b93184b58a9da1bc996e77fadfc601dea0a9", func := "loop.example/g00581/laws.FnExactDirectOutput", spec := "fnExactDirectOutput", apart := false }
def FnExactDirectOutputSaid : Prop := fnExactDirectOutputRow.holds Try.pinned (OpenSpec.ofChange fnExactDirectOutputSpec)

/-- ITS FALSE NEIGHBOUR: 'it returns false'. Refute it at one input. -/
def fnExactDirectOutputWrong : ChangeSpec := { name := "fnExactDirectOutput", fn := fun _ => fun
  | [d1, d2, d3] => { results := [.lit (.bool false)], args := [d1, d2, d3] }
  | _ => none }
def FnExactDirectOutputWrongFalsely : Prop := fnExactDirectOutputRow.holds Try.pinned (OpenSpec.ofChange fnExactDirectOutputWrong)

/-- 'laws.FnExactBlindInput': WHATEVER THE INPUT: true; the input reads as it did. -/
def fnExactBlindInputSpec : ChangeSpec := { name := "fnExactBlindInput", fn := fun _ => fun
  | [d1, d2, d3] => { results := [.lit (.bool true)], args := [d1, d2, d3] }
  | _ => none }
def fnExactBlindInputRow : OpenClaim := { program := "ytimjjicbdnehlaa", sum := "6561b25411d6a65b7f0d97e567c1b93184b58a9da1bc996e77fadfc601dea0a9", func := "loop.example/g00581/laws.FnExactBlindInput", spec := "fnExactBlindInput", apart := false }
def FnExactBlindInputSaid : Prop := fnExactBlindInputRow.holds Try.pinned (OpenSpec.ofChange fnExactBlindInputSpec)

/-- ITS FALSE NEIGHBOUR: 'it returns false'. Refute it at one input. -/
def fnExactBlindInputWrong : ChangeSpec := { name := "fnExactBlindInput", fn := fun _ => fun
  | [d1, d2, d3] => { results := [.lit (.bool false)], args := [d1, d2, d3] }
  | _ => none }
def FnExactBlindInputWrongFalsely : Prop := fnExactBlindInputRow.holds Try.pinned (OpenSpec.ofChange fnExactBlindInputWrong)

/-- 'laws.FnExactSignAsDevice': WHATEVER THE INPUT: true; the input reads as it did. -/
def fnExactSignAsDeviceSpec : ChangeSpec := { name := "fnExactSignAsDevice", fn := fun _ => fun
  | [d1, d2] => { results := [.lit (.bool true)], args := [d1, d2] }
  | _ => none }
def fnExactSignAsDeviceRow : OpenClaim := { program := "ytimjjicbdnehlaa", sum := "6561b25411d6a65b7f0d97e567c1b93184b58a9da1bc996e77fadfc601dea0a9", func := "loop.example/g00581/laws.FnExactSignAsDevice", spec := "fnExactSignAsDevice", apart := false }
def FnExactSignAsDeviceSaid : Prop := fnExactSignAsDeviceRow.holds Try.pinned (OpenSpec.ofChange fnExactSignAsDeviceSpec)

/-- ITS FALSE NEIGHBOUR: 'it returns false'. Refute it at one input. -/
def fnExactSignAsDeviceWrong : ChangeSpec := { name := "fnExactSignAsDevice", fn := fun _ => fun
  | [d1, d2] => { results := [.lit (.bool false)], args := [d1, d2] }
  | _ => none }
def FnExactSignAsDeviceWrongFalsely : Prop := fnExactSignAsDeviceRow.holds Try.pinned (OpenSpec.ofChange fnExactSignAsDeviceWrong)

/-- 'laws.FnExactChallengeValue': WHATEVER THE INPUT: true; the input reads as it did. -/
def fnExactChallengeValueSpec : ChangeSpec := { name := "fnExactChallengeValue", fn := fun _ => fun
  | [d1, d2] => { results := [.lit (.bool true)], args := [d1, d2] }
  | _ => none }
def fnExactChallengeValueRow : OpenClaim := { program := "ytimjjicbdnehlaa", sum := "6561b25411d6a65b7f0d97e567c1b93184b58a9da1bc996e77fadfc601dea0a9", func := "loop.example/g00581/laws.FnExactChallengeValue", spec := "fnExactChallengeValue", apart := false }
def FnExactChallengeValueSaid : Prop := fnExactChallengeValueRow.holds Try.pinned (OpenSpec.ofChange fnExactChallengeValueSpec)

/-- ITS FALSE NEIGHBOUR: 'it returns false'. Refute it at one input. -/
def fnExactChallengeValueWrong : ChangeSpec := { name := "fnExactChallengeValue", fn := fun _ => fun
  | [d1, d2] => { results := [.lit (.bool false)], args := [d1, d2] }
  | _ => none }
def FnExactChallengeValueWrongFalsely : Prop := fnExactChallengeValueRow.holds Try.pinned (OpenSpec.ofChange fnExactChallengeValueWrong)

/-- 'laws.FnExactBoxMAC': WHATEVER THE INPUT: true; the input reads as it did. -/
def fnExactBoxMACSpec : ChangeSpec := { name := "fnExactBoxMAC", fn := fun _ => fun
  | [d1, d2] => { results := [.lit (.bool true)], args := [d1, d2] }
  | _ => none }
def fnExactBoxMACRow : OpenClaim := { program := "ytimjjicbdnehlaa", sum := "6561b25411d6a65b7f0d97e567c1b93184b58a9da1bc996e77fadfc601dea0a9", func := "loop.example/g00581/laws.FnExactBoxMAC", spec := "fnExactBoxMAC", apart := false }
def FnExactBoxMACSaid : Prop := fnExactBoxMACRow.holds Try.pinned (OpenSpec.ofChange fnExactBoxMACSpec)

/-- ITS FALSE NEIGHBOUR: 'it returns false'. Refute it at one input. -/
def fnExactBoxMACWrong : ChangeSpec := { name := "fnExactBoxMAC", fn := fun _ => fun
  | [d1, d2] => { results := [.lit (.bool false)], args := [d1, d2] }
  | _ => none }
def FnExactBoxMACWrongFalsely : Prop := fnExactBoxMACRow.holds Try.pinned (OpenSpec.ofChange fnExactBoxMACWrong)

/-- 'laws.FnExactSitePublic': WHATEVER THE INPUT: true; the input reads as it did. -/
def fnExactSitePublicSpec : ChangeSpec := { name := "fnExactSitePublic", fn := fun _ => fun
  | [d1, d2, d3] => { results := [.lit (.bool true)], args := [d1, d2, d3] }
  | _ => none }
def fnExactSitePublicRow : OpenClaim := { program := "ytimjjicbdnehlaa", sum := "6561b25411d6a65b7f0d97e567c1b93184b58a9da1bc996e77fadfc601dea0a9", func := "loop.example/g00581/laws.FnExactSitePublic", spec := "fnExactSitePublic", apart := false }
def FnExactSitePublicSaid : Prop := fnExactSitePublicRow.holds Try.pinned (OpenSpec.ofChange fnExactSitePublicSpec)

/-- ITS FALSE NEIGHBOUR: 'it returns false'. Refute it at one input. -/
def fnExactSitePublicWrong : ChangeSpec := { name := "fnExactSitePublic", fn := fun _ => fun
  | [d1, d2, d3] => { results := [.lit (.bool false)], args := [d1, d2, d3] }
  | _ => none }
def FnExactSitePublicWrongFalsely : Prop := fnExactSitePublicRow.holds Try.pinned (OpenSpec.ofChange fnExactSitePublicWrong)

/-- 'laws.FnExactExplainBlinded': WHATEVER THE INPUT: true; the input reads as it did. -/
def fnExactExplainBlindedSpec : ChangeSpec := { name := "fnExactExplainBlinded", fn := fun _ => fun
  | [d1, d2, d3] => { results := [.lit (.bool true)], args := [d1, d2, d3] }
  | _ => none }
def fnExactExplainBlindedRow : OpenClaim := { program := "ytimjjicbdnehlaa", sum := "6561b25411d6a65b7f0d97e567c1b93184b58a9da1bc996e77fadfc601dea0a9", func := "loop.example/g00581/laws.FnExactExplainBlinded", spec := "fnExactExplainBlinded", apart := false }
def FnExactExplainBlindedSaid : Prop := fnExactExplainBlindedRow.holds Try.pinned (OpenSpec.ofChange fnExactExplainBlindedSpec)

/-- ITS FALSE NEIGHBOUR: 'it returns false'. Refute it at one input. -/
def fnExactExplainBlindedWrong : ChangeSpec := { name := "fnExactExplainBlinded", fn := fun _ => fun
  | [d1, d2, d3] => { results := [.lit (.bool false)], args := [d1, d2, d3] }
  | _ => none }
def FnExactExplainBlindedWrongFalsely : Prop := fnExactExplainBlindedRow.holds Try.pinned (OpenSpec.ofChange fnExactExplainBlindedWrong)

/-- 'laws.FnExactAttest': WHATEVER THE INPUT: true; the input reads as it did. -/
def fnExactAttestSpec : ChangeSpec := { name := "fnExactAttest", fn := fun _ => fun
  | [d1, d2] => { results := [.lit (.bool true)], args := [d1, d2] }
  | _ => none }
def fnExactAttestRow : OpenClaim := { program := "ytimjjicbdnehlaa", sum := "6561b25411d6a65b7f0d97e567c1b93184b58a9da1bc996e77fadfc601dea0a9", func := "loop.example/g00581/laws.FnExactAttest", spec := "fnExactAttest", apart := false }
def FnExactAttestSaid : Prop := fnExactAttestRow.holds Try.pinned (OpenSpec.ofChange fnExactAttestSpec)

/-- ITS FALSE NEIGHBOUR: 'it returns false'. Refute it at one input. -/
def fnExactAttestWrong : ChangeSpec := { name := "fnExactAttest", fn := fun _ => fun
  | [d1, d2] => { results := [.lit (.bool false)], args := [d1, d2] }
  | _ => none }
def FnExactAttestWrongFalsely : Prop := fnExactAttestRow.holds Try.pinned (OpenSpec.ofChange fnExactAttestWrong)

/-- 'laws.FnExactAssertionMessage': WHATEVER THE INPUT: true; the input reads as it did. -/
def fnExactAssertionMessageSpec : ChangeSpec := { name := "fnExactAssertionMessage", fn := fun _ => fun
  | [d] => { results := [.lit (.bool true)], args := [d] }
  | _ => none }
def fnExactAssertionMessageRow : OpenClaim := { program := "ytimjjicbdnehlaa", sum := "6561b25411d6a65b7f0d97e567c1b93184b58a9da1bc996e77fadfc601dea0a9", func := "loop.example/g00581/laws.FnExactAssertionMessage", spec := "fnExactAssertionMessage", apart := false }
def FnExactAssertionMessageSaid : Prop := fnExactAssertionMessageRow.holds Try.pinned (OpenSpec.ofChange fnExactAssertionMessageSpec)

/-- ITS FALSE NEIGHBOUR: 'it returns false'. Refute it at one input. -/
def fnExactAssertionMessageWrong : ChangeSpec := { name := "fnExactAssertionMessage", fn := fun _ => fun
  | [d] => { results := [.lit (.bool false)], args := [d] }
  | _ => none }
def FnExactAssertionMessageWrongFalsely : Prop := fnExactAssertionMessageRow.holds Try.pinned (OpenSpec.ofChange fnExactAssertionMessageWrong)

/-- 'laws.FnExactRevokeDevice': WHATEVER THE INPUT: true; the input reads as it did. -/
def fnExactRevokeDeviceSpec : ChangeSpec := { name := "fnExactRevokeDevice", fn := fun _ => fun
  | [d1, d2, d3] => { results := [.lit (.bool true)], args := [d1, d2, d3] }
  | _ => none }
def fnExactRevokeDeviceRow : OpenClaim := { program := "ytimjjicbdnehlaa", sum := "6561b25411d6a65b7f0d97e567c1b93184b58a9da1bc996e77fadfc601dea0a9", func := "loop.example/g00581/laws.FnExactRevokeDevice", spec := "fnExactRevokeDevice", apart := false }
def FnExactRevokeDeviceSaid : Prop := fnExactRevokeDeviceRow.holds Try.pinned (OpenSpec.ofChange fnExactRevokeDeviceSpec)

/-- ITS FALSE NEIGHBOUR: 'it returns false'. Refute it at one input. -/
def fnExactRevokeDeviceWrong : ChangeSpec := { name := "fnExactRevokeDevice", fn := fun _ => fun
  | [d1, d2, d3] => { results := [.lit (.bool false)], args := [d1, d2, d3] }
  | _ => none }
def FnExactRevokeDeviceWrongFalsely : Prop := fnExactRevokeDeviceRow.holds Try.pinned (OpenSpec.ofChange fnExactRevokeDeviceWrong)

/-- 'laws.FnBoxes': WHATEVER THE INPUT: true; the input reads as it did. -/
def fnBoxesSpec : ChangeSpec := { name := "fnBoxes", fn := fun _ => fun
  | [d] => { results := [.lit (.bool true)], args := [d] }
  | _ => none }
def fnBoxesRow : OpenClaim := { program := "ytimjjicbdnehlaa", sum := "6561b25411d6a65b7f0d97e567c1b93184b58a9da1bc996e77fadfc601dea0a9", func := "loop.example/g00581/laws.FnBoxes", spec := "fnBoxes", apart := false }
def FnBoxesSaid : Prop := fnBoxesRow.holds Try.pinned (OpenSpec.ofChange fnBoxesSpec)

/-- ITS FALSE NEIGHBOUR: 'it returns false'. Refute it at one input. -/
def fnBoxesWrong : ChangeSpec := { name := "fnBoxes", fn := fun _ => fun
  | [d] => { results := [.lit (.bool false)], args := [d] }
  | _ => none }
def FnBoxesWrongFalsely : Prop := fnBoxesRow.holds Try.pinned (OpenSpec.ofChange fnBoxesWrong)

/-- 'laws.FnAttestations': WHATEVER THE INPUT: true; the input reads as it did. -/
def fnAttestationsSpec : ChangeSpec := { name := "fnAttestations", fn := fun _ => fun
  | [d] => { results := [.lit (.bool true)], args := [d] }
  | _ => none }
def fnAttestationsRow : OpenClaim := { program := "ytimjjicbdnehlaa", sum := "6561b25411d6a65b7f0d97e567c1b93184b58a9da1bc996e77fadfc601dea0a9", func := "loop.example/g00581/laws.FnAttestations", spec := "fnAttestations", apart := false }
def FnAttestationsSaid : Prop := fnAttestationsRow.holds Try.pinned (OpenSpec.ofChange fnAttestationsSpec)

/-- ITS FALSE NEIGHBOUR: 'it returns false'. Refute it at one input. -/
def fnAttestationsWrong : ChangeSpec := { name := "fnAttestations", fn := fun _ => fun
  | [d] => { results := [.lit (.bool false)], args := [d] }
  | _ => none }
def FnAttestationsWrongFalsely : Prop := fnAttestationsRow.holds Try.pinned (OpenSpec.ofChange fnAttestationsWrong)

/- THE SECOND FORM. 'bulk': how many values and letters a reading holds, each counted each time it is reached (what is shared counts as often as it is met; a slice's spare places count too). A statement '..UptoSaid' is the law's where the arguments, and the package variables that the reading takes, are together of bulk at most 1048576: NARROWER than '..Said'. Prove '..Said' where nothing that the law and all that it calls make is longer than what came in: it says more and counts as full. Else prove '..UptoSaid'. A law counts once. -/
mutual
def uptoBulk {H : Type} : DataW H → Nat
  | .lit (.string bytes) => bytes.length + 1
  | .lit _ => 1
  | .nil => 1
  | .ptr d => uptoBulk d + 1
  | .slice elems spare => uptoBulkAll elems + uptoBulkAll spare + 1
  | .agg parts => uptoBulkAll parts + 1
  | .iface _ d => uptoBulk d + 1
  | .map entries => uptoBulkEntries entries + 1
  | .held _ => 1
def uptoBulkAll {H : Type} : List (DataW H) → Nat
  | [] => 0
  | d :: r => uptoBulk d + uptoBulkAll r
def uptoBulkEntries {H : Type} : List (Lit × DataW H) → Nat
  | [] => 0
  | x :: r => uptoBulkEntry x + uptoBulkEntries r
def uptoBulkEntry {H : Type} : Lit × DataW H → Nat
  | (.string bytes, d) => bytes.length + uptoBulk d + 1
  | (_, d) => uptoBulk d + 1
 end
def uptoSmall : (H : Type) → List (DataW H) → Bool := fun _ ds => decide (uptoBulkAll ds ≤ 1048576)
def OpenSpec.upto (s : _root_.Go.ChangeSpec) : _root_.Go.OpenSpec := { _root_.Go.OpenSpec.ofChange s with cond := some uptoSmall }

/-- 'laws.FnExactDirectOutput', WHERE WHAT IT READS IS OF BULK AT MOST 1048576: true; the input reads as it did. -/
def fnExactDirectOutputUptoRow : OpenClaim := { program := "ytimjjicbdnehlaa", sum := "6561b25411d6a65b7f0d97e567c1b93184b58a9da1bc996e77fadfc601dea0a9", func := "loop.example/g00581/laws.FnExactDirectOutput", spec := "fnExactDirectOutput", apart := false, narrowed := true }
def FnExactDirectOutputUptoSaid : Prop := fnExactDirectOutputUptoRow.holds Try.pinned (OpenSpec.upto fnExactDirectOutputSpec)

/-- 'laws.FnExactBlindInput', WHERE WHAT IT READS IS OF BULK AT MOST 1048576: true; the input reads as it did. -/
def fnExactBlindInputUptoRow : OpenClaim := { program := "ytimjjicbdnehlaa", sum := "6561b25411d6a65b7f0d97e567c1b93184b58a9da1bc996e77fadfc601dea0a9", func := "loop.example/g00581/laws.FnExactBlindInput", spec := "fnExactBlindInput", apart := false, narrowed := true }
def FnExactBlindInputUptoSaid : Prop := fnExactBlindInputUptoRow.holds Try.pinned (OpenSpec.upto fnExactBlindInputSpec)

/-- 'laws.FnExactSignAsDevice', WHERE WHAT IT READS IS OF BULK AT MOST 1048576: true; the input reads as it did. -/
def fnExactSignAsDeviceUptoRow : OpenClaim := { program := "ytimjjicbdnehlaa", sum := "6561b25411d6a65b7f0d97e567c1b93184b58a9da1bc996e77fadfc601dea0a9", func := "loop.example/g00581/laws.FnExactSignAsDevice", spec := "fnExactSignAsDevice", apart := false, narrowed := true }
def FnExactSignAsDeviceUptoSaid : Prop := fnExactSignAsDeviceUptoRow.holds Try.pinned (OpenSpec.upto fnExactSignAsDeviceSpec)

/-- 'laws.FnExactChallengeValue', WHERE WHAT IT READS IS OF BULK AT MOST 1048576: true; the input reads as it did. -/
def fnExactChallengeValueUptoRow : OpenClaim := { program := "ytimjjicbdnehlaa", sum := "6561b25411d6a65b7f0d97e567c1b93184b58a9da1bc996e77fadfc601dea0a9", func := "loop.example/g00581/laws.FnExactChallengeValue", spec := "fnExactChallengeValue", apart := false, narrowed := true }
def FnExactChallengeValueUptoSaid : Prop := fnExactChallengeValueUptoRow.holds Try.pinned (OpenSpec.upto fnExactChallengeValueSpec)

/-- 'laws.FnExactBoxMAC', WHERE WHAT IT READS IS OF BULK AT MOST 1048576: true; the input reads as it did. -/
def fnExactBoxMACUptoRow : OpenClaim := { program := "ytimjjicbdnehlaa", sum := "6561b25411d6a65b7f0d97e567c1b93184b58a9da1bc996e77fadfc601dea0a9", func := "loop.example/g00581/laws.FnExactBoxMAC", spec := "fnExactBoxMAC", apart := false, narrowed := true }
def FnExactBoxMACUptoSaid : Prop := fnExactBoxMACUptoRow.holds Try.pinned (OpenSpec.upto fnExactBoxMACSpec)

/-- 'laws.FnExactSitePublic', WHERE WHAT IT READS IS OF BULK AT MOST 1048576: true; the input reads as it did. -/
def fnExactSitePublicUptoRow : OpenClaim := { program := "ytimjjicbdnehlaa", sum := "6561b25411d6a65b7f0d97e567c1b93184b58a9da1bc996e77fadfc601dea0a9", func := "loop.example/g00581/laws.FnExactSitePublic", spec := "fnExactSitePublic", apart := false, narrowed := true }
def FnExactSitePublicUptoSaid : Prop := fnExactSitePublicUptoRow.holds Try.pinned (OpenSpec.upto fnExactSitePublicSpec)

/-- 'laws.FnExactExplainBlinded', WHERE WHAT IT READS IS OF BULK AT MOST 1048576: true; the input reads as it did. -/
def fnExactExplainBlindedUptoRow : OpenClaim := { program := "ytimjjicbdnehlaa", sum := "6561b25411d6a65b7f0d97e567c1b93184b58a9da1bc996e77fadfc601dea0a9", func := "loop.example/g00581/laws.FnExactExplainBlinded", spec := "fnExactExplainBlinded", apart := false, narrowed := true }
def FnExactExplainBlindedUptoSaid : Prop := fnExactExplainBlindedUptoRow.holds Try.pinned (OpenSpec.upto fnExactExplainBlindedSpec)

/-- 'laws.FnExactAttest', WHERE WHAT IT READS IS OF BULK AT MOST 1048576: true; the input reads as it did. -/
def fnExactAttestUptoRow : OpenClaim := { program := "ytimjjicbdnehlaa", sum := "6561b25411d6a65b7f0d97e567c1b93184b58a9da1bc996e77fadfc601dea0a9", func := "loop.example/g00581/laws.FnExactAttest", spec := "fnExactAttest", apart := false, narrowed := true }
def FnExactAttestUptoSaid : Prop := fnExactAttestUptoRow.holds Try.pinned (OpenSpec.upto fnExactAttestSpec)

/-- 'laws.FnExactAssertionMessage', WHERE WHAT IT READS IS OF BULK AT MOST 1048576: true; the input reads as it did. -/
def fnExactAssertionMessageUptoRow : OpenClaim := { program := "ytimjjicbdnehlaa", sum := "6561b25411d6a65b7f0d97e567c1b93184b58a9da1bc996e77fadfc601dea0a9", func := "loop.example/g00581/laws.FnExactAssertionMessage", spec := "fnExactAssertionMessage", apart := false, narrowed := true }
def FnExactAssertionMessageUptoSaid : Prop := fnExactAssertionMessageUptoRow.holds Try.pinned (OpenSpec.upto fnExactAssertionMessageSpec)

/-- 'laws.FnExactRevokeDevice', WHERE WHAT IT READS IS OF BULK AT MOST 1048576: true; the input reads as it did. -/
def fnExactRevokeDeviceUptoRow : OpenClaim := { program := "ytimjjicbdnehlaa", sum := "6561b25411d6a65b7f0d97e567c1b93184b58a9da1bc996e77fadfc601dea0a9", func := "loop.example/g00581/laws.FnExactRevokeDevice", spec := "fnExactRevokeDevice", apart := false, narrowed := true }
def FnExactRevokeDeviceUptoSaid : Prop := fnExactRevokeDeviceUptoRow.holds Try.pinned (OpenSpec.upto fnExactRevokeDeviceSpec)

/-- 'laws.FnBoxes', WHERE WHAT IT READS IS OF BULK AT MOST 1048576: true; the input reads as it did. -/
def fnBoxesUptoRow : OpenClaim := { program := "ytimjjicbdnehlaa", sum := "6561b25411d6a65b7f0d97e567c1b93184b58a9da1bc996e77fadfc601dea0a9", func := "loop.example/g00581/laws.FnBoxes", spec := "fnBoxes", apart := false, narrowed := true }
def FnBoxesUptoSaid : Prop := fnBoxesUptoRow.holds Try.pinned (OpenSpec.upto fnBoxesSpec)

/-- 'laws.FnAttestations', WHERE WHAT IT READS IS OF BULK AT MOST 1048576: true; the input reads as it did. -/
def fnAttestationsUptoRow : OpenClaim := { program := "ytimjjicbdnehlaa", sum := "6561b25411d6a65b7f0d97e567c1b93184b58a9da1bc996e77fadfc601dea0a9", func := "loop.example/g00581/laws.FnAttestations", spec := "fnAttestations", apart := false, narrowed := true }
def FnAttestationsUptoSaid : Prop := fnAttestationsUptoRow.holds Try.pinned (OpenSpec.upto fnAttestationsSpec)

end Rows
end Go.Proofs.Ytimjjicbdnehlaa
