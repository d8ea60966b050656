/- The row of the law FnExactSignAsDevice: for every input the call returns true and each argument reads afterwards as it read before. Conditions: none beside the row's own (what the form reads as data). -/
import Derived.Test.YtimjjicbdnehlaaRows
import Derived.Test.YtimjjicbdnehlaaPFnExactSignAsDevicex2
import Derived.Test.YtimjjicbdnehlaaPureFnExactSignAsDevice
import Derived.Test.YtimjjicbdnehlaaOpn
import Derived.WalkKit
import Derived.ProofKit
import Derived.OpenShut
import Derived.ShutString
import Derived.ChangeOld
import Derived.Below
import Derived.SizedLaws
namespace Go.Proofs.Ytimjjicbdnehlaa.fnExactSignAsDevice
open Go.ChangeShapes Go.WideShapes Go.ChangeAt Go.RowKit Go.Proofs.YtimjjicbdnehlaaW.PrintWords Go.Proofs.Ytimjjicbdnehlaa.Opn
set_option linter.unusedVariables false
theorem own : ownKnob Try.prog.godebug = none := by kernel_rfl
theorem laidOut : laidOutB Try.prog = true := by kernel_rfl
set_option maxRecDepth 100000 in
theorem lifted (os : Os) (started : os.Started) (H : Type) (enc : TypeId × Value → H) :
    ReturnsInHanded {} Try.checked os 5 .any (Rows.fnExactSignAsDeviceSpec.pre6 enc Try.prog Try.f5 Rows.fnExactSignAsDeviceRow.domain false) (Rows.fnExactSignAsDeviceSpec.post enc Try.prog Try.f5 false true false false) := by
  refine returnsInHanded_of_change_sized (C := Try.checked) own started (by kernel_rfl) Try.func5
    (ChangeSpec.witness6 (enc := enc) (C := Try.checked) false ⟨#[], #[.agg #[.int .i64 0, .int .i64 0, .int .i64 0, .int .i64 0], .slice none 0 0], []⟩ 8 (by kernel_rfl) (by kernel_rfl) (by kernel_rfl) (by kernel_rfl)) ?_
  intro W base args ds gs before hval0 hW hcnd hsz0 _
  have hval : ∀ (j : Nat) t v, Try.f5.params[j]? = some t → args[j]? = some v → Value.okWide Try.prog W .any base t v := hval0
  have hW' := hW
  obtain ⟨p, q, hA0, hV, rfl, hfz, hnd⟩ := hW
  have hA : DataW.TrodAll enc Try.prog W 0 (fun _ => true) true Try.f5.params.toList args.toList ds p := hA0
  rw [Try.params5] at hA hval
  obtain ⟨v0, vs0, d0, ds0, p0, q0, hargs, rfl, rfl, h0, r0⟩ := trodAll_cons hA
  obtain ⟨v1, vs1, d1, ds1, p1, q1, rfl, rfl, rfl, h1, r1⟩ := trodAll_cons r0
  obtain ⟨rfl, rfl, rfl⟩ := trodAll_nil r1
  obtain rfl : args = #[v0, v1] := by cases args; simp_all
  obtain ⟨rfl, rfl⟩ := trodVars_none hV
  clear hA0 hval0 hsz0
  obtain ⟨cs0, rfl, sz0, g0⟩ := param_struct Try.underlying25 (hval 0 25 v0 rfl rfl) h0
  obtain ⟨x0_0, x0_1, x0_2, x0_3, rfl⟩ := arr4 (sz0.trans (show Try.prog.cellsOf 25 = 4 by kernel_rfl))
  obtain ⟨a0_0, k0_0, w0_0⟩ := field1 (x := x0_0) (opens_int Try.underlying3) (by kernel_rfl) rfl (g0 0 _ rfl)
  obtain rfl := int_of k0_0
  obtain ⟨a0_1, k0_1, w0_1⟩ := field1 (x := x0_1) (opens_int Try.underlying3) (by kernel_rfl) rfl (g0 1 _ rfl)
  obtain rfl := int_of k0_1
  obtain ⟨a0_2, k0_2, w0_2⟩ := field1 (x := x0_2) (opens_int Try.underlying3) (by kernel_rfl) rfl (g0 2 _ rfl)
  obtain rfl := int_of k0_2
  obtain ⟨a0_3, k0_3, w0_3⟩ := field1 (x := x0_3) (opens_int Try.underlying3) (by kernel_rfl) rfl (g0 3 _ rfl)
  obtain rfl := int_of k0_3
  obtain ⟨a1, kk1, w1⟩ := param1 (opens_slice Try.underlying26 (by kernel_rfl) (opens_int Try.underlying3)) h1
  obtain ⟨A_1, len_1, cap_1, rfl⟩ := okWide_slice Try.underlying26 (hval 1 26 v1 rfl rfl)
  obtain ⟨rfl, hca1, hra1⟩ := slice_par kk1
  obtain ⟨k, hp⟩ := SFnExactSignAsDevice.p_FnExactSignAsDevice a0_0 a0_1 a0_2 a0_3 a1 w0_0 w0_1 w0_2 w0_3 w1
  refine (PFnExactSignAsDevice.laws_FnExactSignAsDevice.calls k a0_0 a0_1 a0_2 a0_3 A_1 cap_1 a1 true W hra1 hca1 hp).mono fun e W' ⟨he, bel⟩ => ?_
  subst he
  exact ⟨_, rfl, _, _, _, [], _, [], hW', trodAll_mk1 (shut_bool Try.underlying4 _), (trodAll_cons_mk (Below.trod laidOut (by kernel_rfl) (of_decide_eq_true (by kernel_rfl)) h0 bel (places_lt h0)) (trodAll_cons_mk (Below.trod laidOut (by kernel_rfl) (of_decide_eq_true (by kernel_rfl)) h1 bel (places_lt h1)) trodAll_mk0)), rfl, bel.frame _, fun h => by cases h⟩
theorem over : Rows.fnExactSignAsDeviceRow.holds Try.pinned (OpenSpec.ofChange Rows.fnExactSignAsDeviceSpec) :=
  OpenClaim.holds_of_wide 5 Try.f5 rfl rfl rfl rfl rfl rfl rfl ⟨rfl, rfl, rfl, rfl, rfl⟩ rfl rfl rfl rfl rfl (by kernel_rfl) Try.func5 (by kernel_rfl)
    (of_decide_eq_true (by kernel_rfl)) (by unfold Func.isWrapper; first | (rw [if_pos (by decide +kernel)]; kernel_rfl) | (rw [if_neg (by decide +kernel)]; exact ⟨rfl, rfl⟩))
    (fun os started H enc _ => lifted os started H enc)
theorem proved : Rows.FnExactSignAsDeviceSaid := over
end Go.Proofs.Ytimjjicbdnehlaa.fnExactSignAsDevice
namespace Go.Proofs.Ytimjjicbdnehlaa
theorem fnExactSignAsDevice_holds : Rows.FnExactSignAsDeviceSaid := fnExactSignAsDevice.proved
#print axioms fnExactSignAsDevice_holds
end Go.Proofs.Ytimjjicbdnehlaa
