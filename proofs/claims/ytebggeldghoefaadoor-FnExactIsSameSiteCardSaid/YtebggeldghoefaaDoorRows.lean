/-
  NARROWER THAN 'FOR EVERY INPUT', by the rows' own cells (each row's printed sentence says how): FnExactIsHost: laid · FnExactIsOrigin: laid · FnExactMayUse: laid · FnExactRegistrable: laid · FnExactIsSameSite: laid.
  DERIVED. THE GIVEN ROWS OF THIS SEAT. 5 by the template 'for every input the law returns true; each argument reads behind the call as it read before'; 0 by the template 'total and deterministic' (their statements: YtebggeldghoefaaDoorTotals.lean).
  GIVEN WITH THE SEED: the statements are not yours to turn. If you find one false, say at which input.
  Laid BY PROGRAM, IN A SANDBOX (cutbox-rows.mjs): the forced cells as the released guide's own fill.sh prints them over the translation bbe86bcbf05479a8… (all of the seat's roots in one cut). By AI agents, Wed Nov 11 2026. No macro, syntax, notation, axiom, sorry.
-/
import Derived.Test.YtebggeldghoefaaDoorChecked
import GoSem.PinnedTables
import GoSem.Claim
import GoSem.ClaimJoined
import GoSem.ClaimMapViews
import Derived.JoinedTies
import Derived.KernelRfl
namespace Go.Proofs.YtebggeldghoefaaDoor
/- THE CELL 'sum', in the pinned program and in every row, IS THE sha256 OF THE DUMP (.gsa) THAT YtebggeldghoefaaDoorProg.lean LOADS. Nothing in Lean hashes anything: it is a label: what it is worth is what the hold of that sum in a sandbox is worth. -/
noncomputable def Tryd.pinned : Pinned := { name := "ytebggeldghoefaadoor", sum := "bbe86bcbf05479a847312ae92e97d0a16200d2914cbc6aa70e7c5649ec8cb3db", checked := Tryd.checked }
namespace Rows
def none {H : Type} : Left H := { results := [], args := [] }

/- WHAT THE LISTED PACKAGE-LEVEL VARIABLES READ AS WHEN THE CALL BEGINS. Each datum BY PROGRAM (the guide's laid-datum.mjs) off the statement by which the dump's own 'gosem.cut.vars' lays the variable. In a bare row this is a premise. The card (YtebggeldghoefaaDoorCards.lean) ties it to the program's text. -/
def laid_unicode_utf8_acceptRanges {H : Type} : DataW H := .agg [.agg [.lit (.int .u8 128), .lit (.int .u8 191)], .agg [.lit (.int .u8 160), .lit (.int .u8 191)], .agg [.lit (.int .u8 128), .lit (.int .u8 159)], .agg [.lit (.int .u8 144), .lit (.int .u8 191)], .agg [.lit (.int .u8 128), .lit (.int .u8 143)], .agg [.lit (.int .u8 0), .lit (.int .u8 0)], .agg [.lit (.int .u8 0), .lit (.int .u8 0)], .agg [.lit (.int .u8 0), .lit (.int .u8 0)], .agg [.lit (.int .u8 0), .lit (.int .u8 0)], .agg [.lit (.int .u8 0), .lit (.int .u8 0)], .agg [.lit (.int .u8 0), .lit (.int .u8 0)], .agg [.lit (.int .u8 0), .lit (.int .u8 0)], .agg [.lit (.int .u8 0), .lit (.int .u8 0)], .agg [.lit (.int .u8 0), .lit (.int .u8 0)], .agg [.lit (.int .u8 0), .lit (.int .u8 0)], .agg [.lit (.int .u8 0), .lit (.int .u8 0)]]
/-- One of Go's own tables, pinned by name: the form's constant. -/
def laid_unicode_utf8_first : DataW Unit := Go.Pinned.utf8First

/-- 'laws.FnExactIsHost': WHATEVER THE INPUT: true; the input reads as it did. -/
def fnExactIsHostSpec : ChangeSpec := { name := "fnExactIsHost", fn := fun _ => fun
  | [d] => { results := [.lit (.bool true)], args := [d] }
  | _ => none }
def fnExactIsHostRow : OpenClaim := { program := "ytebggeldghoefaadoor", sum := "bbe86bcbf05479a847312ae92e97d0a16200d2914cbc6aa70e7c5649ec8cb3db", func := "loop.example/g00581/laws.FnExactIsHost", spec := "fnExactIsHost", inPlace := ["internal/bytealg.CountString", "internal/bytealg.IndexByteString", "internal/bytealg.IndexString"], named := ["unicode/utf8.first", "unicode/utf8.acceptRanges", "internal/bytealg.MaxLen"], apart := false, laid := [("unicode/utf8.acceptRanges", laid_unicode_utf8_acceptRanges), ("unicode/utf8.first", laid_unicode_utf8_first)] }
def FnExactIsHostSaid : Prop := fnExactIsHostRow.holds Tryd.pinned (OpenSpec.ofChange fnExactIsHostSpec)

/-- ITS FALSE NEIGHBOUR: 'it returns false'. Refute it at one input. -/
def fnExactIsHostWrong : ChangeSpec := { name := "fnExactIsHost", fn := fun _ => fun
  | [d] => { results := [.lit (.bool false)], args := [d] }
  | _ => none }
def FnExactIsHostWrongFalsely : Prop := fnExactIsHostRow.holds Tryd.pinned (OpenSpec.ofChange fnExactIsHostWrong)

/-- 'laws.FnExactIsOrigin': WHATEVER THE INPUT: true; the input reads as it did. -/
def fnExactIsOriginSpec : ChangeSpec := { name := "fnExactIsOrigin", fn := fun _ => fun
  | [d] => { results := [.lit (.bool true)], args := [d] }
  | _ => none }
def fnExactIsOriginRow : OpenClaim := { program := "ytebggeldghoefaadoor", sum := "bbe86bcbf05479a847312ae92e97d0a16200d2914cbc6aa70e7c5649ec8cb3db", func := "loop.example/g00581/laws.FnExactIsOrigin", spec := "fnExactIsOrigin", inPlace := ["internal/bytealg.CountString", "internal/bytealg.IndexByteString", "internal/bytealg.IndexString"], named := ["unicode/utf8.first", "unicode/utf8.acceptRanges", "internal/bytealg.MaxLen"], apart := false, laid := [("unicode/utf8.acceptRanges", laid_unicode_utf8_acceptRanges), ("unicode/utf8.first", laid_unicode_utf8_first)] }
def FnExactIsOriginSaid : Prop := fnExactIsOriginRow.holds Tryd.pinned (OpenSpec.ofChange fnExactIsOriginSpec)

/-- ITS FALSE NEIGHBOUR: 'it returns false'. Refute it at one input. -/
def fnExactIsOriginWrong : ChangeSpec := { name := "fnExactIsOrigin", fn := fun _ => fun
  | [d] => { results := [.lit (.bool false)], args := [d] }
  | _ => none }
def FnExactIsOriginWrongFalsely : Prop := fnExactIsOriginRow.holds Tryd.pinned (OpenSpec.ofChange fnExactIsOriginWrong)

/-- 'laws.FnExactMayUse': WHATEVER THE INPUT: true; the input reads as it did. -/
def fnExactMayUseSpec : ChangeSpec := { name := "fnExactMayUse", fn := fun _ => fun
  | [d1, d2] => { results := [.lit (.bool true)], args := [d1, d2] }
  | _ => none }
def fnExactMayUseRow : OpenClaim := { program := "ytebggeldghoefaadoor", sum := "bbe86bcbf05479a847312ae92e97d0a16200d2914cbc6aa70e7c5649ec8cb3db", func := "loop.example/g00581/laws.FnExactMayUse", spec := "fnExactMayUse", inPlace := ["internal/bytealg.CountString", "internal/bytealg.IndexByteString", "internal/bytealg.IndexString"], named := ["unicode/utf8.first", "unicode/utf8.acceptRanges", "internal/bytealg.MaxLen"], apart := false, laid := [("unicode/utf8.acceptRanges", laid_unicode_utf8_acceptRanges), ("unicode/utf8.first", laid_unicode_utf8_first)] }
def FnExactMayUseSaid : Prop := fnExactMayUseRow.holds Tryd.pinned (OpenSpec.ofChange fnExactMayUseSpec)

/-- ITS FALSE NEIGHBOUR: 'it returns false'. Refute it at one input. -/
def fnExactMayUseWrong : ChangeSpec := { name := "fnExactMayUse", fn := fun _ => fun
  | [d1, d2] => { results := [.lit (.bool false)], args := [d1, d2] }
  | _ => none }
def FnExactMayUseWrongFalsely : Prop := fnExactMayUseRow.holds Tryd.pinned (OpenSpec.ofChange fnExactMayUseWrong)

/-- 'laws.FnExactRegistrable': WHATEVER THE INPUT: true; the input reads as it did. -/
def fnExactRegistrableSpec : ChangeSpec := { name := "fnExactRegistrable", fn := fun _ => fun
  | [d] => { results := [.lit (.bool true)], args := [d] }
  | _ => none }
def fnExactRegistrableRow : OpenClaim := { program := "ytebggeldghoefaadoor", sum := "bbe86bcbf05479a847312ae92e97d0a16200d2914cbc6aa70e7c5649ec8cb3db", func := "loop.example/g00581/laws.FnExactRegistrable", spec := "fnExactRegistrable", inPlace := ["internal/bytealg.CountString", "internal/bytealg.IndexByteString", "internal/bytealg.IndexString", "internal/abi.NoEscape", "internal/bytealg.MakeNoZero"], named := ["unicode/utf8.first", "unicode/utf8.acceptRanges", "internal/bytealg.MaxLen"], apart := false, laid := [("unicode/utf8.acceptRanges", laid_unicode_utf8_acceptRanges), ("unicode/utf8.first", laid_unicode_utf8_first)] }
def FnExactRegistrableSaid : Prop := fnExactRegistrableRow.holds Tryd.pinned (OpenSpec.ofChange fnExactRegistrableSpec)

/-- ITS FALSE NEIGHBOUR: 'it returns false'. Refute it at one input. -/
def fnExactRegistrableWrong : ChangeSpec := { name := "fnExactRegistrable", fn := fun _ => fun
  | [d] => { results := [.lit (.bool false)], args := [d] }
  | _ => none }
def FnExactRegistrableWrongFalsely : Prop := fnExactRegistrableRow.holds Tryd.pinned (OpenSpec.ofChange fnExactRegistrableWrong)

/-- 'laws.FnExactIsSameSite': WHATEVER THE INPUT: true; the input reads as it did. -/
def fnExactIsSameSiteSpec : ChangeSpec := { name := "fnExactIsSameSite", fn := fun _ => fun
  | [d1, d2] => { results := [.lit (.bool true)], args := [d1, d2] }
  | _ => none }
def fnExactIsSameSiteRow : OpenClaim := { program := "ytebggeldghoefaadoor", sum := "bbe86bcbf05479a847312ae92e97d0a16200d2914cbc6aa70e7c5649ec8cb3db", func := "loop.example/g00581/laws.FnExactIsSameSite", spec := "fnExactIsSameSite", inPlace := ["internal/bytealg.CountString", "internal/bytealg.IndexByteString", "internal/bytealg.IndexString", "internal/abi.NoEscape", "internal/bytealg.MakeNoZero"], named := ["unicode/utf8.first", "unicode/utf8.acceptRanges", "internal/bytealg.MaxLen"], apart := false, laid := [("unicode/utf8.acceptRanges", laid_unicode_utf8_acceptRanges), ("unicode/utf8.first", laid_unicode_utf8_first)] }
def FnExactIsSameSiteSaid : Prop := fnExactIsSameSiteRow.holds Tryd.pinned (OpenSpec.ofChange fnExactIsSameSiteSpec)

/-- ITS FALSE NEIGHBOUR: 'it returns false'. Refute it at one input. -/
def fnExactIsSameSiteWrong : ChangeSpec := { name := "fnExactIsSameSite", fn := fun _ => fun
  | [d1, d2] => { results := [.lit (.bool false)], args := [d1, d2] }
  | _ => none }
def FnExactIsSameSiteWrongFalsely : Prop := fnExactIsSameSiteRow.holds Tryd.pinned (OpenSpec.ofChange fnExactIsSameSiteWrong)

/- THE SECOND FORM. 'bulk': how many values and letters a reading holds, each counted each time it is reached (what is shared counts as often as it is met; a slice's spare places count too). A statement '..UptoSaid' is the law's where the arguments, and the package variables that the reading takes, are together of bulk at most 1048576: NARROWER than '..Said'. Prove '..Said' where nothing that the law and all that it calls make is longer than what came in: it says more and counts as full. Else prove '..UptoSaid'. A law counts once. -/
mutual
def uptoBulk {H : Type} : DataW H → Nat
  | .lit (.string bytes) => bytes.length + 1
  | .lit _ => 1
  | .nil => 1
  | .ptr d => uptoBulk d + 1
  | .slice elems spare => uptoBulkAll elems + uptoBulkAll spare + 1
  | .agg parts => uptoBulkAll parts + 1
  | .iface _ d => uptoBulk d + 1
  | .map entries => uptoBulkEntries entries + 1
  | .held _ => 1
def uptoBulkAll {H : Type} : List (DataW H) → Nat
  | [] => 0
  | d :: r => uptoBulk d + uptoBulkAll r
def uptoBulkEntries {H : Type} : List (Lit × DataW H) → Nat
  | [] => 0
  | x :: r => uptoBulkEntry x + uptoBulkEntries r
def uptoBulkEntry {H : Type} : Lit × DataW H → Nat
  | (.string bytes, d) => bytes.length + uptoBulk d + 1
  | (_, d) => uptoBulk d + 1
 end
def uptoSmall : (H : Type) → List (DataW H) → Bool := fun _ ds => decide (uptoBulkAll ds ≤ 1048576)
def OpenSpec.upto (s : _root_.Go.ChangeSpec) : _root_.Go.OpenSpec := { _root_.Go.OpenSpec.ofChange s with cond := some uptoSmall }

/-- 'laws.FnExactIsHost', WHERE WHAT IT READS IS OF BULK AT MOST 1048576: true; the input reads as it did. -/
def fnExactIsHostUptoRow : OpenClaim := { program := "ytebggeldghoefaadoor", sum := "bbe86bcbf05479a847312ae92e97d0a16200d2914cbc6aa70e7c5649ec8cb3db", func := "loop.example/g00581/laws.FnExactIsHost", spec := "fnExactIsHost", inPlace := ["internal/bytealg.CountString", "internal/bytealg.IndexByteString", "internal/bytealg.IndexString"], named := ["unicode/utf8.first", "unicode/utf8.acceptRanges", "internal/bytealg.MaxLen"], apart := false, laid := [("unicode/utf8.acceptRanges", laid_unicode_utf8_acceptRanges), ("unicode/utf8.first", laid_unicode_utf8_first)], narrowed := true }
def FnExactIsHostUptoSaid : Prop := fnExactIsHostUptoRow.holds Tryd.pinned (OpenSpec.upto fnExactIsHostSpec)

/-- 'laws.FnExactIsOrigin', WHERE WHAT IT READS IS OF BULK AT MOST 1048576: true; the input reads as it did. -/
def fnExactIsOriginUptoRow : OpenClaim := { program := "ytebggeldghoefaadoor", sum := "bbe86bcbf05479a847312ae92e97d0a16200d2914cbc6aa70e7c5649ec8cb3db", func := "loop.example/g00581/laws.FnExactIsOrigin", spec := "fnExactIsOrigin", inPlace := ["internal/bytealg.CountString", "internal/bytealg.IndexByteString", "internal/bytealg.IndexString"], named := ["unicode/utf8.first", "unicode/utf8.acceptRanges", "internal/bytealg.MaxLen"], apart := false, laid := [("unicode/utf8.acceptRanges", laid_unicode_utf8_acceptRanges), ("unicode/utf8.first", laid_unicode_utf8_first)], narrowed := true }
def FnExactIsOriginUptoSaid : Prop := fnExactIsOriginUptoRow.holds Tryd.pinned (OpenSpec.upto fnExactIsOriginSpec)

/-- 'laws.FnExactMayUse', WHERE WHAT IT READS IS OF BULK AT MOST 1048576: true; the input reads as it did. -/
def fnExactMayUseUptoRow : OpenClaim := { program := "ytebggeldghoefaadoor", sum := "bbe86bcbf05479a847312ae92e97d0a16200d2914cbc6aa70e7c5649ec8cb3db", func := "loop.example/g00581/laws.FnExactMayUse", spec := "fnExactMayUse", inPlace := ["internal/bytealg.CountString", "internal/bytealg.IndexByteString", "internal/bytealg.IndexString"], named := ["unicode/utf8.first", "unicode/utf8.acceptRanges", "internal/bytealg.MaxLen"], apart := false, laid := [("unicode/utf8.acceptRanges", laid_unicode_utf8_acceptRanges), ("unicode/utf8.first", laid_unicode_utf8_first)], narrowed := true }
def FnExactMayUseUptoSaid : Prop := fnExactMayUseUptoRow.holds Tryd.pinned (OpenSpec.upto fnExactMayUseSpec)

/-- 'laws.FnExactRegistrable', WHERE WHAT IT READS IS OF BULK AT MOST 1048576: true; the input reads as it did. -/
def fnExactRegistrableUptoRow : OpenClaim := { program := "ytebggeldghoefaadoor", sum := "bbe86bcbf05479a847312ae92e97d0a16200d2914cbc6aa70e7c5649ec8cb3db", func := "loop.example/g00581/laws.FnExactRegistrable", spec := "fnExactRegistrable", inPlace := ["internal/bytealg.CountString", "internal/bytealg.IndexByteString", "internal/bytealg.IndexString", "internal/abi.NoEscape", "internal/bytealg.MakeNoZero"], named := ["unicode/utf8.first", "unicode/utf8.acceptRanges", "internal/bytealg.MaxLen"], apart := false, laid := [("unicode/utf8.acceptRanges", laid_unicode_utf8_acceptRanges), ("unicode/utf8.first", laid_unicode_utf8_first)], narrowed := true }
def FnExactRegistrableUptoSaid : Prop := fnExactRegistrableUptoRow.holds Tryd.pinned (OpenSpec.upto fnExactRegistrableSpec)

/-- 'laws.FnExactIsSameSite', WHERE WHAT IT READS IS OF BULK AT MOST 1048576: true; the input reads as it did. -/
def fnExactIsSameSiteUptoRow : OpenClaim := { program := "ytebggeldghoefaadoor", sum := "bbe86bcbf05479a847312ae92e97d0a16200d2914cbc6aa70e7c5649ec8cb3db", func := "loop.example/g00581/laws.FnExactIsSameSite", spec := "fnExactIsSameSite", inPlace := ["internal/bytealg.CountString", "internal/bytealg.IndexByteString", "internal/bytealg.IndexString", "internal/abi.NoEscape", "internal/bytealg.MakeNoZero"], named := ["unicode/utf8.first", "unicode/utf8.acceptRanges", "internal/bytealg.MaxLen"], apart := false, laid := [("unicode/utf8.acceptRanges", laid_unicode_utf8_acceptRanges), ("unicode/utf8.first", laid_unicode_utf8_first)], narrowed := true }
def FnExactIsSameSiteUptoSaid : Prop := fnExactIsSameSiteUptoRow.holds Tryd.pinned (OpenSpec.upto fnExactIsSameSiteSpec)

end Rows
end Go.Proofs.YtebggeldghoefaaDoor
