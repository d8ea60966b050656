/- The law FnExactCloneStore, in plain numbers and lists: what its Go functions compute (as the kit's print tells it) answers true. Conditions: what the reading of the arguments gives (each number of its kind, each length a length). -/
import Derived.Test.YtlfgapgpbmidcaaPFnExactCloneStorex1
import Derived.Test.YtlfgapgpbmidcaaMt
namespace Go.Proofs.Ytlfgapgpbmidcaa.SFnExactCloneStore
open Go.RowKit Go.Proofs.Ytlfgapgpbmidcaa.PFnExactCloneStore Go.Proofs.YtlfgapgpbmidcaaW.PrintWords Go.Proofs.YtlfgapgpbmidcaaW.PrintLast Go.Proofs.Ytlfgapgpbmidcaa.Mt
set_option linter.unusedVariables false
set_option linter.unusedSimpArgs false
theorem l_laws_eqKeyStore (a b c d a' b' c' d' : Int) : laws_eqKeyStore.f a b c d a' b' c' d' = some (decide (a = a' ∧ b = b' ∧ c = c' ∧ d = d')) := by
  unfold laws_eqKeyStore.f
  by_cases h0 : a = a' <;> by_cases h1 : b = b' <;> by_cases h2 : c = c' <;> by_cases h3 : d = d' <;> simp [h0, h1, h2, h3]
theorem p_FnExactCloneStore (a b c d : Int) (_ : (Lit.int .i64 a).wf = true) (_ : (Lit.int .i64 b).wf = true) (_ : (Lit.int .i64 c).wf = true) (_ : (Lit.int .i64 d).wf = true) : laws_FnExactCloneStore.f a b c d = some true := by
  unfold laws_FnExactCloneStore.f laws_toKeyStore.f spec_CloneStore.f impl_CloneStore.f
  simp only [Option.bind_some, l_laws_eqKeyStore]
  simp
end Go.Proofs.Ytlfgapgpbmidcaa.SFnExactCloneStore
