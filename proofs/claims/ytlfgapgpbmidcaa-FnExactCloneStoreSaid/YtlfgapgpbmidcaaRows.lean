/-
  No cell of these rows narrows 'for every input' (looked for: loops, veiled, ifaces, maps, wideKeys, modest, calm, conditions, laid).
  DERIVED. THE GIVEN ROWS OF THIS SEAT. 6 by the template 'for every input the law returns true; each argument reads behind the call as it read before'; 0 by the template 'total and deterministic' (their statements: YtlfgapgpbmidcaaTotals.lean).
  GIVEN WITH THE SEED: the statements are not yours to turn. If you find one false, say at which input.
  Laid BY PROGRAM, IN A SANDBOX (cutbox-rows.mjs): the forced cells as the released guide's own fill.sh prints them over the translation dc1d493f4e836277… (all of the seat's roots in one cut). By AI agents, Wed Nov 11 2026. No macro, syntax, notation, axiom, sorry.
-/
import Derived.Test.YtlfgapgpbmidcaaChecked
import GoSem.Claim
import GoSem.ClaimJoined
import GoSem.ClaimMapViews
import Derived.JoinedTies
import Derived.KernelRfl
namespace Go.Proofs.Ytlfgapgpbmidcaa
/- THE CELL 'sum', in the pinned program and in every row, IS THE sha256 OF THE DUMP (.gsa) THAT YtlfgapgpbmidcaaProg.lean LOADS. Nothing in Lean hashes anything: it is a label: what it is worth is what the hold of that sum in a sandbox is worth. -/
noncomputable def Try.pinned : Pinned := { name := "ytlfgapgpbmidcaa", sum := "dc1d493f4e8362778c40543a7de6f74f84bae3b412fe44164e10e91ec15eeada", checked := Try.checked }
namespace Rows
def none {H : Type} : Left H := { results := [], args := [] }

/-- 'laws.FnExactIsValidStore': WHATEVER THE INPUT: true; the input reads as it did. -/
def fnExactIsValidStoreSpec : ChangeSpec := { name := "fnExactIsValidStore", fn := fun _ => fun
  | [d] => { results := [.lit (.bool true)], args := [d] }
  | _ => none }
def fnExactIsValidStoreRow : OpenClaim := { program := "ytlfgapgpbmidcaa", sum := "dc1d493f4e8362778c40543a7de6f74f84bae3b412fe44164e10e91ec15eeada", func := "loop.example/g00581/laws.FnExactIsValidStore", spec := "fnExactIsValidStore", apart := false }
def FnExactIsValidStoreSaid : Prop := fnExactIsValidStoreRow.holds Try.pinned (OpenSpec.ofChange fnExactIsValidStoreSpec)

/-- ITS FALSE NEIGHBOUR: 'it returns false'. Refute it at one input. -/
def fnExactIsValidStoreWrong : ChangeSpec := { name := "fnExactIsValidStore", fn := fun _ => fun
  | [d] => { results := [.lit (.bool false)], args := [d] }
  | _ => none }
def FnExactIsValidStoreWrongFalsely : Prop := fnExactIsValidStoreRow.holds Try.pinned (OpenSpec.ofChange fnExactIsValidStoreWrong)

/-- 'laws.FnExactIsClone': WHATEVER THE INPUT: true; the input reads as it did. -/
def fnExactIsCloneSpec : ChangeSpec := { name := "fnExactIsClone", fn := fun _ => fun
  | [d1, d2] => { results := [.lit (.bool true)], args := [d1, d2] }
  | _ => none }
def fnExactIsCloneRow : OpenClaim := { program := "ytlfgapgpbmidcaa", sum := "dc1d493f4e8362778c40543a7de6f74f84bae3b412fe44164e10e91ec15eeada", func := "loop.example/g00581/laws.FnExactIsClone", spec := "fnExactIsClone", apart := false }
def FnExactIsCloneSaid : Prop := fnExactIsCloneRow.holds Try.pinned (OpenSpec.ofChange fnExactIsCloneSpec)

/-- ITS FALSE NEIGHBOUR: 'it returns false'. Refute it at one input. -/
def fnExactIsCloneWrong : ChangeSpec := { name := "fnExactIsClone", fn := fun _ => fun
  | [d1, d2] => { results := [.lit (.bool false)], args := [d1, d2] }
  | _ => none }
def FnExactIsCloneWrongFalsely : Prop := fnExactIsCloneRow.holds Try.pinned (OpenSpec.ofChange fnExactIsCloneWrong)

/-- 'laws.FnExactAssertionName': WHATEVER THE INPUT: true; the input reads as it did. -/
def fnExactAssertionNameSpec : ChangeSpec := { name := "fnExactAssertionName", fn := fun _ => fun
  | [d] => { results := [.lit (.bool true)], args := [d] }
  | _ => none }
def fnExactAssertionNameRow : OpenClaim := { program := "ytlfgapgpbmidcaa", sum := "dc1d493f4e8362778c40543a7de6f74f84bae3b412fe44164e10e91ec15eeada", func := "loop.example/g00581/laws.FnExactAssertionName", spec := "fnExactAssertionName", apart := false }
def FnExactAssertionNameSaid : Prop := fnExactAssertionNameRow.holds Try.pinned (OpenSpec.ofChange fnExactAssertionNameSpec)

/-- ITS FALSE NEIGHBOUR: 'it returns false'. Refute it at one input. -/
def fnExactAssertionNameWrong : ChangeSpec := { name := "fnExactAssertionName", fn := fun _ => fun
  | [d] => { results := [.lit (.bool false)], args := [d] }
  | _ => none }
def FnExactAssertionNameWrongFalsely : Prop := fnExactAssertionNameRow.holds Try.pinned (OpenSpec.ofChange fnExactAssertionNameWrong)

/-- 'laws.FnExactCloneStore': WHATEVER THE INPUT: true; the input reads as it did. -/
def fnExactCloneStoreSpec : ChangeSpec := { name := "fnExactCloneStore", fn := fun _ => fun
  | [d] => { results := [.lit (.bool true)], args := [d] }
  | _ => none }
def fnExactCloneStoreRow : OpenClaim := { program := "ytlfgapgpbmidcaa", sum := "dc1d493f4e8362778c40543a7de6f74f84bae3b412fe44164e10e91ec15eeada", func := "loop.example/g00581/laws.FnExactCloneStore", spec := "fnExactCloneStore", apart := false }
def FnExactCloneStoreSaid : Prop := fnExactCloneStoreRow.holds Try.pinned (OpenSpec.ofChange fnExactCloneStoreSpec)

/-- ITS FALSE NEIGHBOUR: 'it returns false'. Refute it at one input. -/
def fnExactCloneStoreWrong : ChangeSpec := { name := "fnExactCloneStore", fn := fun _ => fun
  | [d] => { results := [.lit (.bool false)], args := [d] }
  | _ => none }
def FnExactCloneStoreWrongFalsely : Prop := fnExactCloneStoreRow.holds Try.pinned (OpenSpec.ofChange fnExactCloneStoreWrong)

/-- 'laws.FnExactBoxKey': WHATEVER THE INPUT: true; the input reads as it did. -/
def fnExactBoxKeySpec : ChangeSpec := { name := "fnExactBoxKey", fn := fun _ => fun
  | [d1, d2] => { results := [.lit (.bool true)], args := [d1, d2] }
  | _ => none }
def fnExactBoxKeyRow : OpenClaim := { program := "ytlfgapgpbmidcaa", sum := "dc1d493f4e8362778c40543a7de6f74f84bae3b412fe44164e10e91ec15eeada", func := "loop.example/g00581/laws.FnExactBoxKey", spec := "fnExactBoxKey", apart := false }
def FnExactBoxKeySaid : Prop := fnExactBoxKeyRow.holds Try.pinned (OpenSpec.ofChange fnExactBoxKeySpec)

/-- ITS FALSE NEIGHBOUR: 'it returns false'. Refute it at one input. -/
def fnExactBoxKeyWrong : ChangeSpec := { name := "fnExactBoxKey", fn := fun _ => fun
  | [d1, d2] => { results := [.lit (.bool false)], args := [d1, d2] }
  | _ => none }
def FnExactBoxKeyWrongFalsely : Prop := fnExactBoxKeyRow.holds Try.pinned (OpenSpec.ofChange fnExactBoxKeyWrong)

/-- 'laws.FnExactVendorPrivate': WHATEVER THE INPUT: true; the input reads as it did. -/
def fnExactVendorPrivateSpec : ChangeSpec := { name := "fnExactVendorPrivate", fn := fun _ => fun
  | [d1, d2] => { results := [.lit (.bool true)], args := [d1, d2] }
  | _ => none }
def fnExactVendorPrivateRow : OpenClaim := { program := "ytlfgapgpbmidcaa", sum := "dc1d493f4e8362778c40543a7de6f74f84bae3b412fe44164e10e91ec15eeada", func := "loop.example/g00581/laws.FnExactVendorPrivate", spec := "fnExactVendorPrivate", apart := false }
def FnExactVendorPrivateSaid : Prop := fnExactVendorPrivateRow.holds Try.pinned (OpenSpec.ofChange fnExactVendorPrivateSpec)

/-- ITS FALSE NEIGHBOUR: 'it returns false'. Refute it at one input. -/
def fnExactVendorPrivateWrong : ChangeSpec := { name := "fnExactVendorPrivate", fn := fun _ => fun
  | [d1, d2] => { results := [.lit (.bool false)], args := [d1, d2] }
  | _ => none }
def FnExactVendorPrivateWrongFalsely : Prop := fnExactVendorPrivateRow.holds Try.pinned (OpenSpec.ofChange fnExactVendorPrivateWrong)

/- THE SECOND FORM. 'bulk': how many values and letters a reading holds, each counted each time it is reached (what is shared counts as often as it is met; a slice's spare places count too). A statement '..UptoSaid' is the law's where the arguments, and the package variables that the reading takes, are together of bulk at most 1048576: NARROWER than '..Said'. Prove '..Said' where nothing that the law and all that it calls make is longer than what came in: it says more and counts as full. Else prove '..UptoSaid'. A law counts once. -/
mutual
def uptoBulk {H : Type} : DataW H → Nat
  | .lit (.string bytes) => bytes.length + 1
  | .lit _ => 1
  | .nil => 1
  | .ptr d => uptoBulk d + 1
  | .slice elems spare => uptoBulkAll elems + uptoBulkAll spare + 1
  | .agg parts => uptoBulkAll parts + 1
  | .iface _ d => uptoBulk d + 1
  | .map entries => uptoBulkEntries entries + 1
  | .held _ => 1
def uptoBulkAll {H : Type} : List (DataW H) → Nat
  | [] => 0
  | d :: r => uptoBulk d + uptoBulkAll r
def uptoBulkEntries {H : Type} : List (Lit × DataW H) → Nat
  | [] => 0
  | x :: r => uptoBulkEntry x + uptoBulkEntries r
def uptoBulkEntry {H : Type} : Lit × DataW H → Nat
  | (.string bytes, d) => bytes.length + uptoBulk d + 1
  | (_, d) => uptoBulk d + 1
 end
def uptoSmall : (H : Type) → List (DataW H) → Bool := fun _ ds => decide (uptoBulkAll ds ≤ 1048576)
def OpenSpec.upto (s : _root_.Go.ChangeSpec) : _root_.Go.OpenSpec := { _root_.Go.OpenSpec.ofChange s with cond := some uptoSmall }

/-- 'laws.FnExactIsValidStore', WHERE WHAT IT READS IS OF BULK AT MOST 1048576: true; the input reads as it did. -/
def fnExactIsValidStoreUptoRow : OpenClaim := { program := "ytlfgapgpbmidcaa", sum := "dc1d493f4e8362778c40543a7de6f74f84bae3b412fe44164e10e91ec15eeada", func := "loop.example/g00581/laws.FnExactIsValidStore", spec := "fnExactIsValidStore", apart := false, narrowed := true }
def FnExactIsValidStoreUptoSaid : Prop := fnExactIsValidStoreUptoRow.holds Try.pinned (OpenSpec.upto fnExactIsValidStoreSpec)

/-- 'laws.FnExactIsClone', WHERE WHAT IT READS IS OF BULK AT MOST 1048576: true; the input reads as it did. -/
def fnExactIsCloneUptoRow : OpenClaim := { program := "ytlfgapgpbmidcaa", sum := "dc1d493f4e8362778c40543a7de6f74f84bae3b412fe44164e10e91ec15eeada", func := "loop.example/g00581/laws.FnExactIsClone", spec := "fnExactIsClone", apart := false, narrowed := true }
def FnExactIsCloneUptoSaid : Prop := fnExactIsCloneUptoRow.holds Try.pinned (OpenSpec.upto fnExactIsCloneSpec)

/-- 'laws.FnExactAssertionName', WHERE WHAT IT READS IS OF BULK AT MOST 1048576: true; the input reads as it did. -/
def fnExactAssertionNameUptoRow : OpenClaim := { program := "ytlfgapgpbmidcaa", sum := "dc1d493f4e8362778c40543a7de6f74f84bae3b412fe44164e10e91ec15eeada", func := "loop.example/g00581/laws.FnExactAssertionName", spec := "fnExactAssertionName", apart := false, narrowed := true }
def FnExactAssertionNameUptoSaid : Prop := fnExactAssertionNameUptoRow.holds Try.pinned (OpenSpec.upto fnExactAssertionNameSpec)

/-- 'laws.FnExactCloneStore', WHERE WHAT IT READS IS OF BULK AT MOST 1048576: true; the input reads as it did. -/
def fnExactCloneStoreUptoRow : OpenClaim := { program := "ytlfgapgpbmidcaa", sum := "dc1d493f4e8362778c40543a7de6f74f84bae3b412fe44164e10e91ec15eeada", func := "loop.example/g00581/laws.FnExactCloneStore", spec := "fnExactCloneStore", apart := false, narrowed := true }
def FnExactCloneStoreUptoSaid : Prop := fnExactCloneStoreUptoRow.holds Try.pinned (OpenSpec.upto fnExactCloneStoreSpec)

/-- 'laws.FnExactBoxKey', WHERE WHAT IT READS IS OF BULK AT MOST 1048576: true; the input reads as it did. -/
def fnExactBoxKeyUptoRow : OpenClaim := { program := "ytlfgapgpbmidcaa", sum := "dc1d493f4e8362778c40543a7de6f74f84bae3b412fe44164e10e91ec15eeada", func := "loop.example/g00581/laws.FnExactBoxKey", spec := "fnExactBoxKey", apart := false, narrowed := true }
def FnExactBoxKeyUptoSaid : Prop := fnExactBoxKeyUptoRow.holds Try.pinned (OpenSpec.upto fnExactBoxKeySpec)

/-- 'laws.FnExactVendorPrivate', WHERE WHAT IT READS IS OF BULK AT MOST 1048576: true; the input reads as it did. -/
def fnExactVendorPrivateUptoRow : OpenClaim := { program := "ytlfgapgpbmidcaa", sum := "dc1d493f4e8362778c40543a7de6f74f84bae3b412fe44164e10e91ec15eeada", func := "loop.example/g00581/laws.FnExactVendorPrivate", spec := "fnExactVendorPrivate", apart := false, narrowed := true }
def FnExactVendorPrivateUptoSaid : Prop := fnExactVendorPrivateUptoRow.holds Try.pinned (OpenSpec.upto fnExactVendorPrivateSpec)

end Rows
end Go.Proofs.Ytlfgapgpbmidcaa
