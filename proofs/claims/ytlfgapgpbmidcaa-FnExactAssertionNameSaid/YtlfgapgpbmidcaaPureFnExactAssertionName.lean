/- The law FnExactAssertionName, in plain numbers and lists: what its Go functions compute (as the kit's print tells it) answers true. Conditions: what the reading of the arguments gives (each number of its kind, each length a length). -/
import Derived.Test.YtlfgapgpbmidcaaPFnExactAssertionNamex1
import Derived.Test.YtlfgapgpbmidcaaMt
namespace Go.Proofs.Ytlfgapgpbmidcaa.SFnExactAssertionName
open Go.RowKit Go.Proofs.Ytlfgapgpbmidcaa.PFnExactAssertionName Go.Proofs.YtlfgapgpbmidcaaW.PrintWords Go.Proofs.YtlfgapgpbmidcaaW.PrintLast Go.Proofs.Ytlfgapgpbmidcaa.Mt
set_option linter.unusedVariables false
set_option linter.unusedSimpArgs false
theorem l_spec_l1In (a0 a1 a2 : Int) : spec_l1In.f a0 a1 a2 = some (decide (a1 ≤ a0 ∧ a0 ≤ a2)) := by
  unfold spec_l1In.f
  by_cases h : a0 ≥ a1
  · rw [if_pos h]; simp [show a1 ≤ a0 from h]
  · rw [if_neg h]; simp [show ¬ a1 ≤ a0 from h]
theorem p_FnExactAssertionName (a : Int) (_ : (Lit.int .i64 a).wf = true) : laws_FnExactAssertionName.f a = some true := by
  unfold laws_FnExactAssertionName.f spec_AssertionName.f
  simp only [Option.bind_some, l_spec_l1In]
  have e : decide (0 ≤ a ∧ a ≤ wrap64 (((([(⟨#[111, 107]⟩ : ByteArray), (⟨#[111, 114, 105, 103, 105, 110]⟩ : ByteArray), (⟨#[112, 114, 101, 115, 101, 110, 99, 101]⟩ : ByteArray), (⟨#[99, 104, 97, 108, 108, 101, 110, 103, 101]⟩ : ByteArray), (⟨#[99, 111, 117, 110, 116, 101, 114]⟩ : ByteArray), (⟨#[115, 105, 103, 110, 97, 116, 117, 114, 101]⟩ : ByteArray)] : List ByteArray).length : Nat) : Int) - 1)) = decide (0 ≤ a ∧ a ≤ 5) := by
    rw [decide_eq_decide]; simp only [List.length_cons, List.length_nil]; unfold wrap64; omega
  rw [e]
  by_cases h5 : 0 ≤ a ∧ a ≤ 5
  · obtain rfl | rfl | rfl | rfl | rfl | rfl : a = 0 ∨ a = 1 ∨ a = 2 ∨ a = 3 ∨ a = 4 ∨ a = 5 := by omega
    all_goals (unfold impl_AssertionName.f; simp [rdOf])
  · rw [if_neg (by simpa using h5)]
    unfold impl_AssertionName.f
    rw [if_neg (by omega), if_neg (by omega), if_neg (by omega), if_neg (by omega), if_neg (by omega), if_neg (by omega)]
    simp
end Go.Proofs.Ytlfgapgpbmidcaa.SFnExactAssertionName
namespace Go.Proofs.Ytlfgapgpbmidcaa.Pure
open Go.RowKit Go.Proofs.Ytlfgapgpbmidcaa.PFnExactAssertionName Go.Proofs.YtlfgapgpbmidcaaW.PrintWords Go.Proofs.YtlfgapgpbmidcaaW.PrintLast
theorem FnExactAssertionName : laws_FnExactAssertionName.Pure := by
  exact SFnExactAssertionName.p_FnExactAssertionName
end Go.Proofs.Ytlfgapgpbmidcaa.Pure
