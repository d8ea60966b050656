/- The row of the law FnExactOpenBox: for every input the call returns true and each argument reads afterwards as it read before. Conditions: none beside the row's own (what the form reads as data). -/
import Derived.Test.YtednmbifgnpkbaaRows
import Derived.Test.YtednmbifgnpkbaaPFnExactOpenBoxx8
import Derived.Test.YtednmbifgnpkbaaPureFnExactOpenBox
import Derived.Test.YtednmbifgnpkbaaOpn
import Derived.WalkKit
import Derived.ProofKit
import Derived.OpenShut
import Derived.ShutString
import Derived.ChangeOld
import Derived.Below
import Derived.SizedLaws
namespace Go.Proofs.Ytednmbifgnpkbaa.fnExactOpenBox
open Go.ChangeShapes Go.WideShapes Go.ChangeAt Go.RowKit Go.Proofs.YtednmbifgnpkbaaW.PrintWords Go.Proofs.Ytednmbifgnpkbaa.Opn
set_option linter.unusedVariables false
theorem own : ownKnob Try.prog.godebug = none := by kernel_rfl
theorem laidOut : laidOutB Try.prog = true := by kernel_rfl
set_option maxRecDepth 100000 in
theorem lifted (os : Os) (started : os.Started) (H : Type) (enc : TypeId × Value → H) :
    ReturnsInHanded {} Try.checked os 9 .any (Rows.fnExactOpenBoxSpec.pre6 enc Try.prog Try.f9 Rows.fnExactOpenBoxRow.domain false) (Rows.fnExactOpenBoxSpec.post enc Try.prog Try.f9 false true false false) := by
  refine returnsInHanded_of_change_sized (C := Try.checked) own started (by kernel_rfl) Try.func9
    (ChangeSpec.witness6 (enc := enc) (C := Try.checked) false ⟨#[], #[.int .i64 0, .agg #[.int .i64 0, .int .i64 0, .slice none 0 0, .int .i64 0]], []⟩ 8 (by kernel_rfl) (by kernel_rfl) (by kernel_rfl) (by kernel_rfl)) ?_
  intro W base args ds gs before hval0 hW hcnd hsz0 _
  have hval : ∀ (j : Nat) t v, Try.f9.params[j]? = some t → args[j]? = some v → Value.okWide Try.prog W .any base t v := hval0
  have hW' := hW
  obtain ⟨p, q, hA0, hV, rfl, hfz, hnd⟩ := hW
  have hA : DataW.TrodAll enc Try.prog W 0 (fun _ => true) true Try.f9.params.toList args.toList ds p := hA0
  rw [Try.params9] at hA hval
  obtain ⟨v0, vs0, d0, ds0, p0, q0, hargs, rfl, rfl, h0, r0⟩ := trodAll_cons hA
  obtain ⟨v1, vs1, d1, ds1, p1, q1, rfl, rfl, rfl, h1, r1⟩ := trodAll_cons r0
  obtain ⟨rfl, rfl, rfl⟩ := trodAll_nil r1
  obtain rfl : args = #[v0, v1] := by cases args; simp_all
  obtain ⟨rfl, rfl⟩ := trodVars_none hV
  clear hA0 hval0 hsz0
  obtain ⟨a0, kk0, w0⟩ := param1 (opens_int Try.underlying3) h0
  obtain ⟨b0, rfl, _, _, _⟩ := open_int Try.underlying3 (hval 0 3 v0 rfl rfl) h0
  obtain rfl := cell_int_inj kk0
  obtain ⟨cs1, rfl, sz1, g1⟩ := param_struct Try.underlying68 (hval 1 68 v1 rfl rfl) h1
  obtain ⟨x1_0, x1_1, x1_2, x1_3, rfl⟩ := arr4 (sz1.trans (show Try.prog.cellsOf 68 = 4 by kernel_rfl))
  obtain ⟨a1_0, k1_0, w1_0⟩ := field1 (x := x1_0) (opens_int Try.underlying3) (by kernel_rfl) rfl (g1 0 _ rfl)
  obtain rfl := int_of k1_0
  obtain ⟨a1_1, k1_1, w1_1⟩ := field1 (x := x1_1) (opens_int Try.underlying3) (by kernel_rfl) rfl (g1 1 _ rfl)
  obtain rfl := int_of k1_1
  obtain ⟨a1_2, k1_2, w1_2⟩ := field1 (x := x1_2) (opens_slice Try.underlying56 (by kernel_rfl) (opens_int Try.underlying5)) (by kernel_rfl) rfl (g1 2 _ rfl)
  obtain ⟨Aa1_2, ca1_2, rfl, hca1_2, hra1_2⟩ := slice_of k1_2
  obtain ⟨a1_3, k1_3, w1_3⟩ := field1 (x := x1_3) (opens_int Try.underlying3) (by kernel_rfl) rfl (g1 3 _ rfl)
  obtain rfl := int_of k1_3
  obtain ⟨k, hp⟩ := SFnExactOpenBox.p_FnExactOpenBox a0 a1_0 a1_1 a1_2 a1_3 w0 w1_0 w1_1 w1_2 w1_3
  refine (PFnExactOpenBox.laws_FnExactOpenBox.calls k a0 a1_0 a1_1 Aa1_2 ca1_2 a1_2 a1_3 true W hra1_2 hca1_2 hp).mono fun e W' ⟨he, bel⟩ => ?_
  subst he
  exact ⟨_, rfl, _, _, _, [], _, [], hW', trodAll_mk1 (shut_bool Try.underlying4 _), (trodAll_cons_mk (Below.trod laidOut (by kernel_rfl) (of_decide_eq_true (by kernel_rfl)) h0 bel (places_lt h0)) (trodAll_cons_mk (Below.trod laidOut (by kernel_rfl) (of_decide_eq_true (by kernel_rfl)) h1 bel (places_lt h1)) trodAll_mk0)), rfl, bel.frame _, fun h => by cases h⟩
theorem over : Rows.fnExactOpenBoxRow.holds Try.pinned (OpenSpec.ofChange Rows.fnExactOpenBoxSpec) :=
  OpenClaim.holds_of_wide 9 Try.f9 rfl rfl rfl rfl rfl rfl rfl ⟨rfl, rfl, rfl, rfl, rfl⟩ rfl rfl rfl rfl rfl (by kernel_rfl) Try.func9 (by kernel_rfl)
    (of_decide_eq_true (by kernel_rfl)) (by unfold Func.isWrapper; first | (rw [if_pos (by decide +kernel)]; kernel_rfl) | (rw [if_neg (by decide +kernel)]; exact ⟨rfl, rfl⟩))
    (fun os started H enc _ => lifted os started H enc)
theorem proved : Rows.FnExactOpenBoxSaid := over
end Go.Proofs.Ytednmbifgnpkbaa.fnExactOpenBox
namespace Go.Proofs.Ytednmbifgnpkbaa
theorem fnExactOpenBox_holds : Rows.FnExactOpenBoxSaid := fnExactOpenBox.proved
#print axioms fnExactOpenBox_holds
end Go.Proofs.Ytednmbifgnpkbaa
