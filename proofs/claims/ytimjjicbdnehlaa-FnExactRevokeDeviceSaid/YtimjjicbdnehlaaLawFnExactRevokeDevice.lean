/- The row of the law FnExactRevokeDevice: for every input the call returns true and each argument reads afterwards as it read before. Conditions: none beside the row's own (what the form reads as data). -/
import Derived.Test.YtimjjicbdnehlaaRows
import Derived.Test.YtimjjicbdnehlaaPFnExactRevokeDevicex6
import Derived.Test.YtimjjicbdnehlaaPureFnExactRevokeDevice
import Derived.Test.YtimjjicbdnehlaaOpn
import Derived.WalkKit
import Derived.ProofKit
import Derived.OpenShut
import Derived.ShutString
import Derived.ChangeOld
import Derived.Below
import Derived.SizedLaws
namespace Go.Proofs.Ytimjjicbdnehlaa.fnExactRevokeDevice
open Go.ChangeShapes Go.WideShapes Go.ChangeAt Go.RowKit Go.Proofs.YtimjjicbdnehlaaW.PrintWords Go.Proofs.Ytimjjicbdnehlaa.Opn
set_option linter.unusedVariables false
theorem own : ownKnob Try.prog.godebug = none := by kernel_rfl
theorem laidOut : laidOutB Try.prog = true := by kernel_rfl
set_option maxRecDepth 100000 in
theorem lifted (os : Os) (started : os.Started) (H : Type) (enc : TypeId × Value → H) :
    ReturnsInHanded {} Try.checked os 12 .any (Rows.fnExactRevokeDeviceSpec.pre6 enc Try.prog Try.f12 Rows.fnExactRevokeDeviceRow.domain false) (Rows.fnExactRevokeDeviceSpec.post enc Try.prog Try.f12 false true false false) := by
  refine returnsInHanded_of_change_sized (C := Try.checked) own started (by kernel_rfl) Try.func12
    (ChangeSpec.witness6 (enc := enc) (C := Try.checked) false ⟨#[], #[.agg #[.int .i64 0, .slice none 0 0], .int .i64 0, .int .i64 0], []⟩ 8 (by kernel_rfl) (by kernel_rfl) (by kernel_rfl) (by kernel_rfl)) ?_
  intro W base args ds gs before hval0 hW hcnd hsz0 _
  have hval : ∀ (j : Nat) t v, Try.f12.params[j]? = some t → args[j]? = some v → Value.okWide Try.prog W .any base t v := hval0
  have hW' := hW
  obtain ⟨p, q, hA0, hV, rfl, hfz, hnd⟩ := hW
  have hA : DataW.TrodAll enc Try.prog W 0 (fun _ => true) true Try.f12.params.toList args.toList ds p := hA0
  rw [Try.params12] at hA hval
  obtain ⟨v0, vs0, d0, ds0, p0, q0, hargs, rfl, rfl, h0, r0⟩ := trodAll_cons hA
  obtain ⟨v1, vs1, d1, ds1, p1, q1, rfl, rfl, rfl, h1, r1⟩ := trodAll_cons r0
  obtain ⟨v2, vs2, d2, ds2, p2, q2, rfl, rfl, rfl, h2, r2⟩ := trodAll_cons r1
  obtain ⟨rfl, rfl, rfl⟩ := trodAll_nil r2
  obtain rfl : args = #[v0, v1, v2] := by cases args; simp_all
  obtain ⟨rfl, rfl⟩ := trodVars_none hV
  clear hA0 hval0 hsz0
  obtain ⟨cs0, rfl, sz0, g0⟩ := param_struct Try.underlying72 (hval 0 72 v0 rfl rfl) h0
  obtain ⟨x0_0, x0_1, rfl⟩ := arr2 (sz0.trans (show Try.prog.cellsOf 72 = 2 by kernel_rfl))
  obtain ⟨a0_0, k0_0, w0_0⟩ := field1 (x := x0_0) (opens_int Try.underlying3) (by kernel_rfl) rfl (g0 0 _ rfl)
  obtain rfl := int_of k0_0
  obtain ⟨a0_1, k0_1, w0_1⟩ := field1 (x := x0_1) (opens_slice Try.underlying26 (by kernel_rfl) (opens_int Try.underlying3)) (by kernel_rfl) rfl (g0 1 _ rfl)
  obtain ⟨Aa0_1, ca0_1, rfl, hca0_1, hra0_1⟩ := slice_of k0_1
  obtain ⟨a1, kk1, w1⟩ := param1 (opens_int Try.underlying3) h1
  obtain ⟨b1, rfl, _, _, _⟩ := open_int Try.underlying3 (hval 1 3 v1 rfl rfl) h1
  obtain rfl := cell_int_inj kk1
  obtain ⟨a2, kk2, w2⟩ := param1 (opens_int Try.underlying3) h2
  obtain ⟨b2, rfl, _, _, _⟩ := open_int Try.underlying3 (hval 2 3 v2 rfl rfl) h2
  obtain rfl := cell_int_inj kk2
  obtain ⟨k, hp⟩ := SFnExactRevokeDevice.p_FnExactRevokeDevice a0_0 a0_1 a1 a2 w0_0 w0_1 w1 w2
  refine (PFnExactRevokeDevice.laws_FnExactRevokeDevice.calls k a0_0 Aa0_1 ca0_1 a0_1 a1 a2 true W hra0_1 hca0_1 hp).mono fun e W' ⟨he, bel⟩ => ?_
  subst he
  exact ⟨_, rfl, _, _, _, [], _, [], hW', trodAll_mk1 (shut_bool Try.underlying4 _), (trodAll_cons_mk (Below.trod laidOut (by kernel_rfl) (of_decide_eq_true (by kernel_rfl)) h0 bel (places_lt h0)) (trodAll_cons_mk (Below.trod laidOut (by kernel_rfl) (of_decide_eq_true (by kernel_rfl)) h1 bel (places_lt h1)) (trodAll_cons_mk (Below.trod laidOut (by kernel_rfl) (of_decide_eq_true (by kernel_rfl)) h2 bel (places_lt h2)) trodAll_mk0))), rfl, bel.frame _, fun h => by cases h⟩
theorem over : Rows.fnExactRevokeDeviceRow.holds Try.pinned (OpenSpec.ofChange Rows.fnExactRevokeDeviceSpec) :=
  OpenClaim.holds_of_wide 12 Try.f12 rfl rfl rfl rfl rfl rfl rfl ⟨rfl, rfl, rfl, rfl, rfl⟩ rfl rfl rfl rfl rfl (by kernel_rfl) Try.func12 (by kernel_rfl)
    (of_decide_eq_true (by kernel_rfl)) (by unfold Func.isWrapper; first | (rw [if_pos (by decide +kernel)]; kernel_rfl) | (rw [if_neg (by decide +kernel)]; exact ⟨rfl, rfl⟩))
    (fun os started H enc _ => lifted os started H enc)
theorem proved : Rows.FnExactRevokeDeviceSaid := over
end Go.Proofs.Ytimjjicbdnehlaa.fnExactRevokeDevice
namespace Go.Proofs.Ytimjjicbdnehlaa
theorem fnExactRevokeDevice_holds : Rows.FnExactRevokeDeviceSaid := fnExactRevokeDevice.proved
#print axioms fnExactRevokeDevice_holds
end Go.Proofs.Ytimjjicbdnehlaa
