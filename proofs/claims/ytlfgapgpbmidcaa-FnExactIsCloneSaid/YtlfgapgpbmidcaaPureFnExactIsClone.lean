/- The law FnExactIsClone, in plain numbers and lists: what its Go functions compute (as the kit's print tells it) answers true. Conditions: what the reading of the arguments gives (each number of its kind, each length a length). -/
import Derived.Test.YtlfgapgpbmidcaaPFnExactIsClonex1
import Derived.Test.YtlfgapgpbmidcaaMt
namespace Go.Proofs.Ytlfgapgpbmidcaa.SFnExactIsClone
open Go.RowKit Go.Proofs.Ytlfgapgpbmidcaa.PFnExactIsClone Go.Proofs.YtlfgapgpbmidcaaW.PrintWords Go.Proofs.YtlfgapgpbmidcaaW.PrintLast Go.Proofs.Ytlfgapgpbmidcaa.Mt
set_option linter.unusedVariables false
set_option linter.unusedSimpArgs false
theorem l_laws_szAssertion (s0 s1 : ByteArray) (a b : Int) (p : Bool) (c d left : Int) (h0 : s0.size ≤ 9223372036854775807) (h1 : s1.size ≤ 9223372036854775807) (hl : 0 ≤ left ∧ left ≤ 1048576) :
    (∃ r, laws_szAssertion.f s0 s1 a b p c d left = some r ∧ r < 0) ∨ (laws_szAssertion.f s0 s1 a b p c d left = some (left - s0.size - s1.size) ∧ (s0.size : Int) + s1.size ≤ left) := by
  unfold laws_szAssertion.f
  rw [wrap_in (x := left - (s0.size : Int)) (by omega)]
  by_cases g : left - (s0.size : Int) < 0
  · exact .inl ⟨-1, by rw [if_pos g], by omega⟩
  · rw [if_neg g, wrap_in (by omega)]
    by_cases g2 : left - (s0.size : Int) - (s1.size : Int) < 0
    · exact .inl ⟨-1, by rw [if_pos g2], by omega⟩
    · exact .inr ⟨by rw [if_neg g2], by omega⟩
theorem p_FnExactIsClone (s0 s1 : ByteArray) (a b : Int) (p : Bool) (c d n : Int) (h0 : s0.size ≤ 9223372036854775807) (h1 : s1.size ≤ 9223372036854775807) (_ : (Lit.int .i64 a).wf = true) (_ : (Lit.int .i64 b).wf = true) (_ : True) (_ : (Lit.int .i64 c).wf = true) (_ : (Lit.int .i64 d).wf = true) (_ : (Lit.int .i64 n).wf = true) :
    laws_FnExactIsClone.f s0 s1 a b p c d n = some true := by
  unfold laws_FnExactIsClone.f
  rcases l_laws_szAssertion s0 s1 a b p c d 1048576 h0 h1 (by omega) with ⟨r, e, hr⟩ | ⟨e, hr⟩
  · rw [e]; simp only [Option.bind_some]; rw [if_pos hr]
  · rw [e]; simp only [Option.bind_some]; rw [if_neg (by omega)]
    unfold laws_toAssertion.f spec_IsClone.f impl_IsClone.f
    simp
end Go.Proofs.Ytlfgapgpbmidcaa.SFnExactIsClone
