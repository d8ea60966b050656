/- The law FnExactIsValidStore, in plain numbers and lists: what its Go functions compute (as the kit's print tells it) answers true. Conditions: what the reading of the arguments gives (each number of its kind, each length a length). -/
import Derived.Test.YtlfgapgpbmidcaaPFnExactIsValidStorex1
import Derived.Test.YtlfgapgpbmidcaaMt
namespace Go.Proofs.Ytlfgapgpbmidcaa.SFnExactIsValidStore
open Go.RowKit Go.Proofs.Ytlfgapgpbmidcaa.PFnExactIsValidStore Go.Proofs.YtlfgapgpbmidcaaW.PrintWords Go.Proofs.YtlfgapgpbmidcaaW.PrintLast Go.Proofs.Ytlfgapgpbmidcaa.Mt
set_option linter.unusedVariables false
set_option linter.unusedSimpArgs false
theorem l_spec_l1In (a0 a1 a2 : Int) : spec_l1In.f a0 a1 a2 = some (decide (a1 ≤ a0 ∧ a0 ≤ a2)) := by
  unfold spec_l1In.f
  by_cases h : a0 ≥ a1
  · rw [if_pos h]; simp [show a1 ≤ a0 from h]
  · rw [if_neg h]; simp [show ¬ a1 ≤ a0 from h]
theorem l_spec_IsValidKey (a : Int) : spec_IsValidKey.f a = some (vkey a) := by
  unfold spec_IsValidKey.f; rw [l_spec_l1In]; rfl
theorem l_spec_IsValidStore (a b c d : Int) : spec_IsValidStore.f a b c d = some (vstore a b c d) := by
  unfold spec_IsValidStore.f vstore
  simp only [l_spec_l1In, l_spec_IsValidKey, Option.bind_some]
  cases decide (1 ≤ a ∧ a ≤ 9) <;> cases decide (0 ≤ b ∧ b ≤ 1000000) <;> cases vkey c <;> simp
theorem l_impl_InRange (a0 a1 a2 : Int) : impl_InRange.f a0 a1 a2 = some (decide (a1 ≤ a0 ∧ a0 ≤ a2)) := by
  unfold impl_InRange.f
  by_cases h : a1 ≤ a0
  · rw [if_pos h]; simp [h]
  · rw [if_neg h]; simp [h]
theorem l_impl_IsValidKey (a : Int) : impl_IsValidKey.f a = some (vkey a) := by
  unfold impl_IsValidKey.f; rw [l_impl_InRange]; rfl
theorem l_impl_IsValidStore (a b c d : Int) : impl_IsValidStore.f a b c d = some (vstore a b c d) := by
  unfold impl_IsValidStore.f vstore
  simp only [l_impl_InRange, l_impl_IsValidKey, Option.bind_some]
  cases decide (1 ≤ a ∧ a ≤ 9) <;> cases decide (0 ≤ b ∧ b ≤ 1000000) <;> cases vkey c <;> simp
theorem p_FnExactIsValidStore (a b c d : Int) (_ : (Lit.int .i64 a).wf = true) (_ : (Lit.int .i64 b).wf = true) (_ : (Lit.int .i64 c).wf = true) (_ : (Lit.int .i64 d).wf = true) : laws_FnExactIsValidStore.f a b c d = some true := by
  unfold laws_FnExactIsValidStore.f laws_toKeyStore.f
  simp only [Option.bind_some, l_spec_IsValidStore, l_impl_IsValidStore]
  simp
end Go.Proofs.Ytlfgapgpbmidcaa.SFnExactIsValidStore
