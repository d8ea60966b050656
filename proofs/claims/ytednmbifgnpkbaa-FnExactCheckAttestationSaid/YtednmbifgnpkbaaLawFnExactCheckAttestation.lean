/- The row of the law FnExactCheckAttestation: for every input the call returns true and each argument reads afterwards as it read before. Conditions: none beside the row's own (what the form reads as data). -/
import Derived.Test.YtednmbifgnpkbaaRows
import Derived.Test.YtednmbifgnpkbaaPFnExactCheckAttestationx8
import Derived.Test.YtednmbifgnpkbaaPureFnExactCheckAttestation
import Derived.Test.YtednmbifgnpkbaaOpn
import Derived.WalkKit
import Derived.ProofKit
import Derived.OpenShut
import Derived.ShutString
import Derived.ChangeOld
import Derived.Below
import Derived.SizedLaws
namespace Go.Proofs.Ytednmbifgnpkbaa.fnExactCheckAttestation
open Go.ChangeShapes Go.WideShapes Go.ChangeAt Go.RowKit Go.Proofs.YtednmbifgnpkbaaW.PrintWords Go.Proofs.Ytednmbifgnpkbaa.Opn
set_option linter.unusedVariables false
theorem own : ownKnob Try.prog.godebug = none := by kernel_rfl
theorem laidOut : laidOutB Try.prog = true := by kernel_rfl
set_option maxRecDepth 100000 in
theorem lifted (os : Os) (started : os.Started) (H : Type) (enc : TypeId × Value → H) :
    ReturnsInHanded {} Try.checked os 13 .any (Rows.fnExactCheckAttestationSpec.pre6 enc Try.prog Try.f13 Rows.fnExactCheckAttestationRow.domain false) (Rows.fnExactCheckAttestationSpec.post enc Try.prog Try.f13 false true false false) := by
  refine returnsInHanded_of_change_sized (C := Try.checked) own started (by kernel_rfl) Try.func13
    (ChangeSpec.witness6 (enc := enc) (C := Try.checked) false ⟨#[], #[.agg #[.int .i64 0, .slice none 0 0], .agg #[.int .i64 0, .int .i64 0, .int .i64 0, .int .i64 0]], []⟩ 8 (by kernel_rfl) (by kernel_rfl) (by kernel_rfl) (by kernel_rfl)) ?_
  intro W base args ds gs before hval0 hW hcnd hsz0 _
  have hval : ∀ (j : Nat) t v, Try.f13.params[j]? = some t → args[j]? = some v → Value.okWide Try.prog W .any base t v := hval0
  have hW' := hW
  obtain ⟨p, q, hA0, hV, rfl, hfz, hnd⟩ := hW
  have hA : DataW.TrodAll enc Try.prog W 0 (fun _ => true) true Try.f13.params.toList args.toList ds p := hA0
  rw [Try.params13] at hA hval
  obtain ⟨v0, vs0, d0, ds0, p0, q0, hargs, rfl, rfl, h0, r0⟩ := trodAll_cons hA
  obtain ⟨v1, vs1, d1, ds1, p1, q1, rfl, rfl, rfl, h1, r1⟩ := trodAll_cons r0
  obtain ⟨rfl, rfl, rfl⟩ := trodAll_nil r1
  obtain rfl : args = #[v0, v1] := by cases args; simp_all
  obtain ⟨rfl, rfl⟩ := trodVars_none hV
  clear hA0 hval0 hsz0
  obtain ⟨cs0, rfl, sz0, g0⟩ := param_struct Try.underlying95 (hval 0 95 v0 rfl rfl) h0
  obtain ⟨x0_0, x0_1, rfl⟩ := arr2 (sz0.trans (show Try.prog.cellsOf 95 = 2 by kernel_rfl))
  obtain ⟨a0_0, k0_0, w0_0⟩ := field1 (x := x0_0) (opens_int Try.underlying3) (by kernel_rfl) rfl (g0 0 _ rfl)
  obtain rfl := int_of k0_0
  obtain ⟨a0_1, k0_1, w0_1⟩ := field1 (x := x0_1) (opens_slice Try.underlying42 (by kernel_rfl) (opens_int Try.underlying3)) (by kernel_rfl) rfl (g0 1 _ rfl)
  obtain ⟨Aa0_1, ca0_1, rfl, hca0_1, hra0_1⟩ := slice_of k0_1
  obtain ⟨cs1, rfl, sz1, g1⟩ := param_struct Try.underlying97 (hval 1 97 v1 rfl rfl) h1
  obtain ⟨x1_0, x1_1, x1_2, x1_3, rfl⟩ := arr4 (sz1.trans (show Try.prog.cellsOf 97 = 4 by kernel_rfl))
  obtain ⟨a1_0, k1_0, w1_0⟩ := field1 (x := x1_0) (opens_int Try.underlying3) (by kernel_rfl) rfl (g1 0 _ rfl)
  obtain rfl := int_of k1_0
  obtain ⟨a1_1, k1_1, w1_1⟩ := field1 (x := x1_1) (opens_int Try.underlying3) (by kernel_rfl) rfl (g1 1 _ rfl)
  obtain rfl := int_of k1_1
  obtain ⟨a1_2, k1_2, w1_2⟩ := field1 (x := x1_2) (opens_int Try.underlying3) (by kernel_rfl) rfl (g1 2 _ rfl)
  obtain rfl := int_of k1_2
  obtain ⟨a1_3, k1_3, w1_3⟩ := field1 (x := x1_3) (opens_int Try.underlying3) (by kernel_rfl) rfl (g1 3 _ rfl)
  obtain rfl := int_of k1_3
  obtain ⟨k, hp⟩ := SFnExactCheckAttestation.p_FnExactCheckAttestation a0_0 a0_1 a1_0 a1_1 a1_2 a1_3 w0_0 w0_1 w1_0 w1_1 w1_2 w1_3
  refine (PFnExactCheckAttestation.laws_FnExactCheckAttestation.calls k a0_0 Aa0_1 ca0_1 a0_1 a1_0 a1_1 a1_2 a1_3 true W hra0_1 hca0_1 hp).mono fun e W' ⟨he, bel⟩ => ?_
  subst he
  exact ⟨_, rfl, _, _, _, [], _, [], hW', trodAll_mk1 (shut_bool Try.underlying4 _), (trodAll_cons_mk (Below.trod laidOut (by kernel_rfl) (of_decide_eq_true (by kernel_rfl)) h0 bel (places_lt h0)) (trodAll_cons_mk (Below.trod laidOut (by kernel_rfl) (of_decide_eq_true (by kernel_rfl)) h1 bel (places_lt h1)) trodAll_mk0)), rfl, bel.frame _, fun h => by cases h⟩
theorem over : Rows.fnExactCheckAttestationRow.holds Try.pinned (OpenSpec.ofChange Rows.fnExactCheckAttestationSpec) :=
  OpenClaim.holds_of_wide 13 Try.f13 rfl rfl rfl rfl rfl rfl rfl ⟨rfl, rfl, rfl, rfl, rfl⟩ rfl rfl rfl rfl rfl (by kernel_rfl) Try.func13 (by kernel_rfl)
    (of_decide_eq_true (by kernel_rfl)) (by unfold Func.isWrapper; first | (rw [if_pos (by decide +kernel)]; kernel_rfl) | (rw [if_neg (by decide +kernel)]; exact ⟨rfl, rfl⟩))
    (fun os started H enc _ => lifted os started H enc)
theorem proved : Rows.FnExactCheckAttestationSaid := over
end Go.Proofs.Ytednmbifgnpkbaa.fnExactCheckAttestation
namespace Go.Proofs.Ytednmbifgnpkbaa
theorem fnExactCheckAttestation_holds : Rows.FnExactCheckAttestationSaid := fnExactCheckAttestation.proved
#print axioms fnExactCheckAttestation_holds
end Go.Proofs.Ytednmbifgnpkbaa
