/-
  No cell of these rows narrows 'for every input' (looked for: loops, veiled, ifaces, maps, wideKeys, modest, calm, conditions, laid).
  DERIVED. THE GIVEN ROWS OF THIS SEAT. 12 by the template 'for every input the law returns true; each argument reads behind the call as it read before'; 0 by the template 'total and deterministic' (their statements: YtbjhamjneelgeaaTotals.lean).
  GIVEN WITH THE SEED: the statements are not yours to turn. If you find one false, say at which input.
  Laid BY PROGRAM, IN A SANDBOX (cutbox-rows.mjs): the forced cells as the released guide's own fill.sh prints them over the translation 976e0ad8e51bce2c… (all of the seat's roots in one cut). By AI agents, Wed Nov 11 2026. No macro, syntax, notation, axiom, sorry.
-/
import Derived.Test.YtbjhamjneelgeaaChecked
import GoSem.Claim
import GoSem.ClaimJoined
import GoSem.ClaimMapViews
import Derived.JoinedTies
import Derived.KernelRfl
namespace Go.Proofs.Ytbjhamjneelgeaa
/- THE CELL 'sum', in the pinned program and in every row, IS THE sha256 OF THE DUMP (.gsa) THAT YtbjhamjneelgeaaProg.lean LOADS. Nothing in Lean hashes anything: it is a label: what it is worth is what the hold of that sum in a sandbox is worth. -/
noncomputable def Try.pinned : Pinned := { name := "ytbjhamjneelgeaa", sum := "976e0ad8e51bce2c43e08bcd6925b063309a32c10a94eacd0250d52dc71a3cc0", checked := Try.checked }
namespace Rows
def none {H : Type} : Left H := { results := [], args := [] }

/-- 'laws.FnExactIsRevoked': WHATEVER THE INPUT: true; the input reads as it did. -/
def fnExactIsRevokedSpec : ChangeSpec := { name := "fnExactIsRevoked", fn := fun _ => fun
  | [d1, d2, d3] => { results := [.lit (.bool true)], args := [d1, d2, d3] }
  | _ => none }
def fnExactIsRevokedRow : OpenClaim := { program := "ytbjhamjneelgeaa", sum := "976e0ad8e51bce2c43e08bcd6925b063309a32c10a94eacd0250d52dc71a3cc0", func := "loop.example/g00581/laws.FnExactIsRevoked", spec := "fnExactIsRevoked", apart := false }
def FnExactIsRevokedSaid : Prop := fnExactIsRevokedRow.holds Try.pinned (OpenSpec.ofChange fnExactIsRevokedSpec)

/-- ITS FALSE NEIGHBOUR: 'it returns false'. Refute it at one input. -/
def fnExactIsRevokedWrong : ChangeSpec := { name := "fnExactIsRevoked", fn := fun _ => fun
  | [d1, d2, d3] => { results := [.lit (.bool false)], args := [d1, d2, d3] }
  | _ => none }
def FnExactIsRevokedWrongFalsely : Prop := fnExactIsRevokedRow.holds Try.pinned (OpenSpec.ofChange fnExactIsRevokedWrong)

/-- 'laws.FnExactEqualBoxes': WHATEVER THE INPUT: true; the input reads as it did. -/
def fnExactEqualBoxesSpec : ChangeSpec := { name := "fnExactEqualBoxes", fn := fun _ => fun
  | [d1, d2] => { results := [.lit (.bool true)], args := [d1, d2] }
  | _ => none }
def fnExactEqualBoxesRow : OpenClaim := { program := "ytbjhamjneelgeaa", sum := "976e0ad8e51bce2c43e08bcd6925b063309a32c10a94eacd0250d52dc71a3cc0", func := "loop.example/g00581/laws.FnExactEqualBoxes", spec := "fnExactEqualBoxes", apart := false }
def FnExactEqualBoxesSaid : Prop := fnExactEqualBoxesRow.holds Try.pinned (OpenSpec.ofChange fnExactEqualBoxesSpec)

/-- ITS FALSE NEIGHBOUR: 'it returns false'. Refute it at one input. -/
def fnExactEqualBoxesWrong : ChangeSpec := { name := "fnExactEqualBoxes", fn := fun _ => fun
  | [d1, d2] => { results := [.lit (.bool false)], args := [d1, d2] }
  | _ => none }
def FnExactEqualBoxesWrongFalsely : Prop := fnExactEqualBoxesRow.holds Try.pinned (OpenSpec.ofChange fnExactEqualBoxesWrong)

/-- 'laws.FnExactIsValidList': WHATEVER THE INPUT: true; the input reads as it did. -/
def fnExactIsValidListSpec : ChangeSpec := { name := "fnExactIsValidList", fn := fun _ => fun
  | [d] => { results := [.lit (.bool true)], args := [d] }
  | _ => none }
def fnExactIsValidListRow : OpenClaim := { program := "ytbjhamjneelgeaa", sum := "976e0ad8e51bce2c43e08bcd6925b063309a32c10a94eacd0250d52dc71a3cc0", func := "loop.example/g00581/laws.FnExactIsValidList", spec := "fnExactIsValidList", apart := false }
def FnExactIsValidListSaid : Prop := fnExactIsValidListRow.holds Try.pinned (OpenSpec.ofChange fnExactIsValidListSpec)

/-- ITS FALSE NEIGHBOUR: 'it returns false'. Refute it at one input. -/
def fnExactIsValidListWrong : ChangeSpec := { name := "fnExactIsValidList", fn := fun _ => fun
  | [d] => { results := [.lit (.bool false)], args := [d] }
  | _ => none }
def FnExactIsValidListWrongFalsely : Prop := fnExactIsValidListRow.holds Try.pinned (OpenSpec.ofChange fnExactIsValidListWrong)

/-- 'laws.FnExactSiteHash': WHATEVER THE INPUT: true; the input reads as it did. -/
def fnExactSiteHashSpec : ChangeSpec := { name := "fnExactSiteHash", fn := fun _ => fun
  | [d] => { results := [.lit (.bool true)], args := [d] }
  | _ => none }
def fnExactSiteHashRow : OpenClaim := { program := "ytbjhamjneelgeaa", sum := "976e0ad8e51bce2c43e08bcd6925b063309a32c10a94eacd0250d52dc71a3cc0", func := "loop.example/g00581/laws.FnExactSiteHash", spec := "fnExactSiteHash", apart := false }
def FnExactSiteHashSaid : Prop := fnExactSiteHashRow.holds Try.pinned (OpenSpec.ofChange fnExactSiteHashSpec)

/-- ITS FALSE NEIGHBOUR: 'it returns false'. Refute it at one input. -/
def fnExactSiteHashWrong : ChangeSpec := { name := "fnExactSiteHash", fn := fun _ => fun
  | [d] => { results := [.lit (.bool false)], args := [d] }
  | _ => none }
def FnExactSiteHashWrongFalsely : Prop := fnExactSiteHashRow.holds Try.pinned (OpenSpec.ofChange fnExactSiteHashWrong)

/-- 'laws.FnExactFindChallenge': WHATEVER THE INPUT: true; the input reads as it did. -/
def fnExactFindChallengeSpec : ChangeSpec := { name := "fnExactFindChallenge", fn := fun _ => fun
  | [d1, d2] => { results := [.lit (.bool true)], args := [d1, d2] }
  | _ => none }
def fnExactFindChallengeRow : OpenClaim := { program := "ytbjhamjneelgeaa", sum := "976e0ad8e51bce2c43e08bcd6925b063309a32c10a94eacd0250d52dc71a3cc0", func := "loop.example/g00581/laws.FnExactFindChallenge", spec := "fnExactFindChallenge", apart := false }
def FnExactFindChallengeSaid : Prop := fnExactFindChallengeRow.holds Try.pinned (OpenSpec.ofChange fnExactFindChallengeSpec)

/-- ITS FALSE NEIGHBOUR: 'it returns false'. Refute it at one input. -/
def fnExactFindChallengeWrong : ChangeSpec := { name := "fnExactFindChallenge", fn := fun _ => fun
  | [d1, d2] => { results := [.lit (.bool false)], args := [d1, d2] }
  | _ => none }
def FnExactFindChallengeWrongFalsely : Prop := fnExactFindChallengeRow.holds Try.pinned (OpenSpec.ofChange fnExactFindChallengeWrong)

/-- 'laws.FnExactDevicePublic': WHATEVER THE INPUT: true; the input reads as it did. -/
def fnExactDevicePublicSpec : ChangeSpec := { name := "fnExactDevicePublic", fn := fun _ => fun
  | [d] => { results := [.lit (.bool true)], args := [d] }
  | _ => none }
def fnExactDevicePublicRow : OpenClaim := { program := "ytbjhamjneelgeaa", sum := "976e0ad8e51bce2c43e08bcd6925b063309a32c10a94eacd0250d52dc71a3cc0", func := "loop.example/g00581/laws.FnExactDevicePublic", spec := "fnExactDevicePublic", apart := false }
def FnExactDevicePublicSaid : Prop := fnExactDevicePublicRow.holds Try.pinned (OpenSpec.ofChange fnExactDevicePublicSpec)

/-- ITS FALSE NEIGHBOUR: 'it returns false'. Refute it at one input. -/
def fnExactDevicePublicWrong : ChangeSpec := { name := "fnExactDevicePublic", fn := fun _ => fun
  | [d] => { results := [.lit (.bool false)], args := [d] }
  | _ => none }
def FnExactDevicePublicWrongFalsely : Prop := fnExactDevicePublicRow.holds Try.pinned (OpenSpec.ofChange fnExactDevicePublicWrong)

/-- 'laws.FnExactFinishOutput': WHATEVER THE INPUT: true; the input reads as it did. -/
def fnExactFinishOutputSpec : ChangeSpec := { name := "fnExactFinishOutput", fn := fun _ => fun
  | [d1, d2] => { results := [.lit (.bool true)], args := [d1, d2] }
  | _ => none }
def fnExactFinishOutputRow : OpenClaim := { program := "ytbjhamjneelgeaa", sum := "976e0ad8e51bce2c43e08bcd6925b063309a32c10a94eacd0250d52dc71a3cc0", func := "loop.example/g00581/laws.FnExactFinishOutput", spec := "fnExactFinishOutput", apart := false }
def FnExactFinishOutputSaid : Prop := fnExactFinishOutputRow.holds Try.pinned (OpenSpec.ofChange fnExactFinishOutputSpec)

/-- ITS FALSE NEIGHBOUR: 'it returns false'. Refute it at one input. -/
def fnExactFinishOutputWrong : ChangeSpec := { name := "fnExactFinishOutput", fn := fun _ => fun
  | [d1, d2] => { results := [.lit (.bool false)], args := [d1, d2] }
  | _ => none }
def FnExactFinishOutputWrongFalsely : Prop := fnExactFinishOutputRow.holds Try.pinned (OpenSpec.ofChange fnExactFinishOutputWrong)

/-- 'laws.FnExactFindCredential': WHATEVER THE INPUT: true; the input reads as it did. -/
def fnExactFindCredentialSpec : ChangeSpec := { name := "fnExactFindCredential", fn := fun _ => fun
  | [d1, d2] => { results := [.lit (.bool true)], args := [d1, d2] }
  | _ => none }
def fnExactFindCredentialRow : OpenClaim := { program := "ytbjhamjneelgeaa", sum := "976e0ad8e51bce2c43e08bcd6925b063309a32c10a94eacd0250d52dc71a3cc0", func := "loop.example/g00581/laws.FnExactFindCredential", spec := "fnExactFindCredential", apart := false }
def FnExactFindCredentialSaid : Prop := fnExactFindCredentialRow.holds Try.pinned (OpenSpec.ofChange fnExactFindCredentialSpec)

/-- ITS FALSE NEIGHBOUR: 'it returns false'. Refute it at one input. -/
def fnExactFindCredentialWrong : ChangeSpec := { name := "fnExactFindCredential", fn := fun _ => fun
  | [d1, d2] => { results := [.lit (.bool false)], args := [d1, d2] }
  | _ => none }
def FnExactFindCredentialWrongFalsely : Prop := fnExactFindCredentialRow.holds Try.pinned (OpenSpec.ofChange fnExactFindCredentialWrong)

/-- 'laws.FnExactEqualBooks': WHATEVER THE INPUT: true; the input reads as it did. -/
def fnExactEqualBooksSpec : ChangeSpec := { name := "fnExactEqualBooks", fn := fun _ => fun
  | [d1, d2] => { results := [.lit (.bool true)], args := [d1, d2] }
  | _ => none }
def fnExactEqualBooksRow : OpenClaim := { program := "ytbjhamjneelgeaa", sum := "976e0ad8e51bce2c43e08bcd6925b063309a32c10a94eacd0250d52dc71a3cc0", func := "loop.example/g00581/laws.FnExactEqualBooks", spec := "fnExactEqualBooks", apart := false }
def FnExactEqualBooksSaid : Prop := fnExactEqualBooksRow.holds Try.pinned (OpenSpec.ofChange fnExactEqualBooksSpec)

/-- ITS FALSE NEIGHBOUR: 'it returns false'. Refute it at one input. -/
def fnExactEqualBooksWrong : ChangeSpec := { name := "fnExactEqualBooks", fn := fun _ => fun
  | [d1, d2] => { results := [.lit (.bool false)], args := [d1, d2] }
  | _ => none }
def FnExactEqualBooksWrongFalsely : Prop := fnExactEqualBooksRow.holds Try.pinned (OpenSpec.ofChange fnExactEqualBooksWrong)

/-- 'laws.FnExactIsValidBook': WHATEVER THE INPUT: true; the input reads as it did. -/
def fnExactIsValidBookSpec : ChangeSpec := { name := "fnExactIsValidBook", fn := fun _ => fun
  | [d] => { results := [.lit (.bool true)], args := [d] }
  | _ => none }
def fnExactIsValidBookRow : OpenClaim := { program := "ytbjhamjneelgeaa", sum := "976e0ad8e51bce2c43e08bcd6925b063309a32c10a94eacd0250d52dc71a3cc0", func := "loop.example/g00581/laws.FnExactIsValidBook", spec := "fnExactIsValidBook", apart := false }
def FnExactIsValidBookSaid : Prop := fnExactIsValidBookRow.holds Try.pinned (OpenSpec.ofChange fnExactIsValidBookSpec)

/-- ITS FALSE NEIGHBOUR: 'it returns false'. Refute it at one input. -/
def fnExactIsValidBookWrong : ChangeSpec := { name := "fnExactIsValidBook", fn := fun _ => fun
  | [d] => { results := [.lit (.bool false)], args := [d] }
  | _ => none }
def FnExactIsValidBookWrongFalsely : Prop := fnExactIsValidBookRow.holds Try.pinned (OpenSpec.ofChange fnExactIsValidBookWrong)

/-- 'laws.FnExactEqualAccounts': WHATEVER THE INPUT: true; the input reads as it did. -/
def fnExactEqualAccountsSpec : ChangeSpec := { name := "fnExactEqualAccounts", fn := fun _ => fun
  | [d1, d2] => { results := [.lit (.bool true)], args := [d1, d2] }
  | _ => none }
def fnExactEqualAccountsRow : OpenClaim := { program := "ytbjhamjneelgeaa", sum := "976e0ad8e51bce2c43e08bcd6925b063309a32c10a94eacd0250d52dc71a3cc0", func := "loop.example/g00581/laws.FnExactEqualAccounts", spec := "fnExactEqualAccounts", apart := false }
def FnExactEqualAccountsSaid : Prop := fnExactEqualAccountsRow.holds Try.pinned (OpenSpec.ofChange fnExactEqualAccountsSpec)

/-- ITS FALSE NEIGHBOUR: 'it returns false'. Refute it at one input. -/
def fnExactEqualAccountsWrong : ChangeSpec := { name := "fnExactEqualAccounts", fn := fun _ => fun
  | [d1, d2] => { results := [.lit (.bool false)], args := [d1, d2] }
  | _ => none }
def FnExactEqualAccountsWrongFalsely : Prop := fnExactEqualAccountsRow.holds Try.pinned (OpenSpec.ofChange fnExactEqualAccountsWrong)

/-- 'laws.FnExactSitePrivate': WHATEVER THE INPUT: true; the input reads as it did. -/
def fnExactSitePrivateSpec : ChangeSpec := { name := "fnExactSitePrivate", fn := fun _ => fun
  | [d1, d2, d3] => { results := [.lit (.bool true)], args := [d1, d2, d3] }
  | _ => none }
def fnExactSitePrivateRow : OpenClaim := { program := "ytbjhamjneelgeaa", sum := "976e0ad8e51bce2c43e08bcd6925b063309a32c10a94eacd0250d52dc71a3cc0", func := "loop.example/g00581/laws.FnExactSitePrivate", spec := "fnExactSitePrivate", apart := false }
def FnExactSitePrivateSaid : Prop := fnExactSitePrivateRow.holds Try.pinned (OpenSpec.ofChange fnExactSitePrivateSpec)

/-- ITS FALSE NEIGHBOUR: 'it returns false'. Refute it at one input. -/
def fnExactSitePrivateWrong : ChangeSpec := { name := "fnExactSitePrivate", fn := fun _ => fun
  | [d1, d2, d3] => { results := [.lit (.bool false)], args := [d1, d2, d3] }
  | _ => none }
def FnExactSitePrivateWrongFalsely : Prop := fnExactSitePrivateRow.holds Try.pinned (OpenSpec.ofChange fnExactSitePrivateWrong)

/- THE SECOND FORM. 'bulk': how many values and letters a reading holds, each counted each time it is reached (what is shared counts as often as it is met; a slice's spare places count too). A statement '..UptoSaid' is the law's where the arguments, and the package variables that the reading takes, are together of bulk at most 1048576: NARROWER than '..Said'. Prove '..Said' where nothing that the law and all that it calls make is longer than what came in: it says more and counts as full. Else prove '..UptoSaid'. A law counts once. -/
mutual
def uptoBulk {H : Type} : DataW H → Nat
  | .lit (.string bytes) => bytes.length + 1
  | .lit _ => 1
  | .nil => 1
  | .ptr d => uptoBulk d + 1
  | .slice elems spare => uptoBulkAll elems + uptoBulkAll spare + 1
  | .agg parts => uptoBulkAll parts + 1
  | .iface _ d => uptoBulk d + 1
  | .map entries => uptoBulkEntries entries + 1
  | .held _ => 1
def uptoBulkAll {H : Type} : List (DataW H) → Nat
  | [] => 0
  | d :: r => uptoBulk d + uptoBulkAll r
def uptoBulkEntries {H : Type} : List (Lit × DataW H) → Nat
  | [] => 0
  | x :: r => uptoBulkEntry x + uptoBulkEntries r
def uptoBulkEntry {H : Type} : Lit × DataW H → Nat
  | (.string bytes, d) => bytes.length + uptoBulk d + 1
  | (_, d) => uptoBulk d + 1
 end
def uptoSmall : (H : Type) → List (DataW H) → Bool := fun _ ds => decide (uptoBulkAll ds ≤ 1048576)
def OpenSpec.upto (s : _root_.Go.ChangeSpec) : _root_.Go.OpenSpec := { _root_.Go.OpenSpec.ofChange s with cond := some uptoSmall }

/-- 'laws.FnExactIsRevoked', WHERE WHAT IT READS IS OF BULK AT MOST 1048576: true; the input reads as it did. -/
def fnExactIsRevokedUptoRow : OpenClaim := { program := "ytbjhamjneelgeaa", sum := "976e0ad8e51bce2c43e08bcd6925b063309a32c10a94eacd0250d52dc71a3cc0", func := "loop.example/g00581/laws.FnExactIsRevoked", spec := "fnExactIsRevoked", apart := false, narrowed := true }
def FnExactIsRevokedUptoSaid : Prop := fnExactIsRevokedUptoRow.holds Try.pinned (OpenSpec.upto fnExactIsRevokedSpec)

/-- 'laws.FnExactEqualBoxes', WHERE WHAT IT READS IS OF BULK AT MOST 1048576: true; the input reads as it did. -/
def fnExactEqualBoxesUptoRow : OpenClaim := { program := "ytbjhamjneelgeaa", sum := "976e0ad8e51bce2c43e08bcd6925b063309a32c10a94eacd0250d52dc71a3cc0", func := "loop.example/g00581/laws.FnExactEqualBoxes", spec := "fnExactEqualBoxes", apart := false, narrowed := true }
def FnExactEqualBoxesUptoSaid : Prop := fnExactEqualBoxesUptoRow.holds Try.pinned (OpenSpec.upto fnExactEqualBoxesSpec)

/-- 'laws.FnExactIsValidList', WHERE WHAT IT READS IS OF BULK AT MOST 1048576: true; the input reads as it did. -/
def fnExactIsValidListUptoRow : OpenClaim := { program := "ytbjhamjneelgeaa", sum := "976e0ad8e51bce2c43e08bcd6925b063309a32c10a94eacd0250d52dc71a3cc0", func := "loop.example/g00581/laws.FnExactIsValidList", spec := "fnExactIsValidList", apart := false, narrowed := true }
def FnExactIsValidListUptoSaid : Prop := fnExactIsValidListUptoRow.holds Try.pinned (OpenSpec.upto fnExactIsValidListSpec)

/-- 'laws.FnExactSiteHash', WHERE WHAT IT READS IS OF BULK AT MOST 1048576: true; the input reads as it did. -/
def fnExactSiteHashUptoRow : OpenClaim := { program := "ytbjhamjneelgeaa", sum := "976e0ad8e51bce2c43e08bcd6925b063309a32c10a94eacd0250d52dc71a3cc0", func := "loop.example/g00581/laws.FnExactSiteHash", spec := "fnExactSiteHash", apart := false, narrowed := true }
def FnExactSiteHashUptoSaid : Prop := fnExactSiteHashUptoRow.holds Try.pinned (OpenSpec.upto fnExactSiteHashSpec)

/-- 'laws.FnExactFindChallenge', WHERE WHAT IT READS IS OF BULK AT MOST 1048576: true; the input reads as it did. -/
def fnExactFindChallengeUptoRow : OpenClaim := { program := "ytbjhamjneelgeaa", sum := "976e0ad8e51bce2c43e08bcd6925b063309a32c10a94eacd0250d52dc71a3cc0", func := "loop.example/g00581/laws.FnExactFindChallenge", spec := "fnExactFindChallenge", apart := false, narrowed := true }
def FnExactFindChallengeUptoSaid : Prop := fnExactFindChallengeUptoRow.holds Try.pinned (OpenSpec.upto fnExactFindChallengeSpec)

/-- 'laws.FnExactDevicePublic', WHERE WHAT IT READS IS OF BULK AT MOST 1048576: true; the input reads as it did. -/
def fnExactDevicePublicUptoRow : OpenClaim := { program := "ytbjhamjneelgeaa", sum := "976e0ad8e51bce2c43e08bcd6925b063309a32c10a94eacd0250d52dc71a3cc0", func := "loop.example/g00581/laws.FnExactDevicePublic", spec := "fnExactDevicePublic", apart := false, narrowed := true }
def FnExactDevicePublicUptoSaid : Prop := fnExactDevicePublicUptoRow.holds Try.pinned (OpenSpec.upto fnExactDevicePublicSpec)

/-- 'laws.FnExactFinishOutput', WHERE WHAT IT READS IS OF BULK AT MOST 1048576: true; the input reads as it did. -/
def fnExactFinishOutputUptoRow : OpenClaim := { program := "ytbjhamjneelgeaa", sum := "976e0ad8e51bce2c43e08bcd6925b063309a32c10a94eacd0250d52dc71a3cc0", func := "loop.example/g00581/laws.FnExactFinishOutput", spec := "fnExactFinishOutput", apart := false, narrowed := true }
def FnExactFinishOutputUptoSaid : Prop := fnExactFinishOutputUptoRow.holds Try.pinned (OpenSpec.upto fnExactFinishOutputSpec)

/-- 'laws.FnExactFindCredential', WHERE WHAT IT READS IS OF BULK AT MOST 1048576: true; the input reads as it did. -/
def fnExactFindCredentialUptoRow : OpenClaim := { program := "ytbjhamjneelgeaa", sum := "976e0ad8e51bce2c43e08bcd6925b063309a32c10a94eacd0250d52dc71a3cc0", func := "loop.example/g00581/laws.FnExactFindCredential", spec := "fnExactFindCredential", apart := false, narrowed := true }
def FnExactFindCredentialUptoSaid : Prop := fnExactFindCredentialUptoRow.holds Try.pinned (OpenSpec.upto fnExactFindCredentialSpec)

/-- 'laws.FnExactEqualBooks', WHERE WHAT IT READS IS OF BULK AT MOST 1048576: true; the input reads as it did. -/
def fnExactEqualBooksUptoRow : OpenClaim := { program := "ytbjhamjneelgeaa", sum := "976e0ad8e51bce2c43e08bcd6925b063309a32c10a94eacd0250d52dc71a3cc0", func := "loop.example/g00581/laws.FnExactEqualBooks", spec := "fnExactEqualBooks", apart := false, narrowed := true }
def FnExactEqualBooksUptoSaid : Prop := fnExactEqualBooksUptoRow.holds Try.pinned (OpenSpec.upto fnExactEqualBooksSpec)

/-- 'laws.FnExactIsValidBook', WHERE WHAT IT READS IS OF BULK AT MOST 1048576: true; the input reads as it did. -/
def fnExactIsValidBookUptoRow : OpenClaim := { program := "ytbjhamjneelgeaa", sum := "976e0ad8e51bce2c43e08bcd6925b063309a32c10a94eacd0250d52dc71a3cc0", func := "loop.example/g00581/laws.FnExactIsValidBook", spec := "fnExactIsValidBook", apart := false, narrowed := true }
def FnExactIsValidBookUptoSaid : Prop := fnExactIsValidBookUptoRow.holds Try.pinned (OpenSpec.upto fnExactIsValidBookSpec)

/-- 'laws.FnExactEqualAccounts', WHERE WHAT IT READS IS OF BULK AT MOST 1048576: true; the input reads as it did. -/
def fnExactEqualAccountsUptoRow : OpenClaim := { program := "ytbjhamjneelgeaa", sum := "976e0ad8e51bce2c43e08bcd6925b063309a32c10a94eacd0250d52dc71a3cc0", func := "loop.example/g00581/laws.FnExactEqualAccounts", spec := "fnExactEqualAccounts", apart := false, narrowed := true }
def FnExactEqualAccountsUptoSaid : Prop := fnExactEqualAccountsUptoRow.holds Try.pinned (OpenSpec.upto fnExactEqualAccountsSpec)

/-- 'laws.FnExactSitePrivate', WHERE WHAT IT READS IS OF BULK AT MOST 1048576: true; the input reads as it did. -/
def fnExactSitePrivateUptoRow : OpenClaim := { program := "ytbjhamjneelgeaa", sum := "976e0ad8e51bce2c43e08bcd6925b063309a32c10a94eacd0250d52dc71a3cc0", func := "loop.example/g00581/laws.FnExactSitePrivate", spec := "fnExactSitePrivate", apart := false, narrowed := true }
def FnExactSitePrivateUptoSaid : Prop := fnExactSitePrivateUptoRow.holds Try.pinned (OpenSpec.upto fnExactSitePrivateSpec)

end Rows
end Go.Proofs.Ytbjhamjneelgeaa
