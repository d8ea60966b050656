/- The row of the law FnExactAssertionMessage: for every input the call returns true and each argument reads afterwards as it read before. Conditions: none beside the row's own (what the form reads as data). -/
import Derived.Test.YtimjjicbdnehlaaRows
import Derived.Test.YtimjjicbdnehlaaPFnExactAssertionMessagex3
import Derived.Test.YtimjjicbdnehlaaPureFnExactAssertionMessage
import Derived.Test.YtimjjicbdnehlaaOpn
import Derived.WalkKit
import Derived.ProofKit
import Derived.OpenShut
import Derived.ShutString
import Derived.ChangeOld
import Derived.Below
import Derived.SizedLaws
namespace Go.Proofs.Ytimjjicbdnehlaa.fnExactAssertionMessage
open Go.ChangeShapes Go.WideShapes Go.ChangeAt Go.RowKit Go.Proofs.YtimjjicbdnehlaaW.PrintWords Go.Proofs.Ytimjjicbdnehlaa.Opn
set_option linter.unusedVariables false
theorem own : ownKnob Try.prog.godebug = none := by kernel_rfl
theorem laidOut : laidOutB Try.prog = true := by kernel_rfl
set_option maxRecDepth 100000 in
theorem lifted (os : Os) (started : os.Started) (H : Type) (enc : TypeId × Value → H) :
    ReturnsInHanded {} Try.checked os 11 .any (Rows.fnExactAssertionMessageSpec.pre6 enc Try.prog Try.f11 Rows.fnExactAssertionMessageRow.domain false) (Rows.fnExactAssertionMessageSpec.post enc Try.prog Try.f11 false true false false) := by
  refine returnsInHanded_of_change_sized (C := Try.checked) own started (by kernel_rfl) Try.func11
    (ChangeSpec.witness6 (enc := enc) (C := Try.checked) false ⟨#[], #[.agg #[.string ByteArray.empty, .string ByteArray.empty, .int .i64 0, .int .i64 0, .bool false, .int .i64 0, .int .i64 0]], []⟩ 8 (by kernel_rfl) (by kernel_rfl) (by kernel_rfl) (by kernel_rfl)) ?_
  intro W base args ds gs before hval0 hW hcnd hsz0 _
  have hval : ∀ (j : Nat) t v, Try.f11.params[j]? = some t → args[j]? = some v → Value.okWide Try.prog W .any base t v := hval0
  have hW' := hW
  obtain ⟨p, q, hA0, hV, rfl, hfz, hnd⟩ := hW
  have hA : DataW.TrodAll enc Try.prog W 0 (fun _ => true) true Try.f11.params.toList args.toList ds p := hA0
  rw [Try.params11] at hA hval
  obtain ⟨v0, vs0, d0, ds0, p0, q0, hargs, rfl, rfl, h0, r0⟩ := trodAll_cons hA
  obtain ⟨rfl, rfl, rfl⟩ := trodAll_nil r0
  obtain rfl : args = #[v0] := by cases args; simp_all
  obtain ⟨rfl, rfl⟩ := trodVars_none hV
  clear hA0 hval0 hsz0
  obtain ⟨cs0, rfl, sz0, g0⟩ := param_struct Try.underlying64 (hval 0 64 v0 rfl rfl) h0
  obtain ⟨x0_0, x0_1, x0_2, x0_3, x0_4, x0_5, x0_6, rfl⟩ := arr7 (sz0.trans (show Try.prog.cellsOf 64 = 7 by kernel_rfl))
  obtain ⟨a0_0, k0_0, w0_0⟩ := field1 (x := x0_0) (opens_string Try.underlying9) (by kernel_rfl) rfl (g0 0 _ rfl)
  obtain rfl := str_of k0_0
  obtain ⟨a0_1, k0_1, w0_1⟩ := field1 (x := x0_1) (opens_string Try.underlying9) (by kernel_rfl) rfl (g0 1 _ rfl)
  obtain rfl := str_of k0_1
  obtain ⟨a0_2, k0_2, w0_2⟩ := field1 (x := x0_2) (opens_int Try.underlying3) (by kernel_rfl) rfl (g0 2 _ rfl)
  obtain rfl := int_of k0_2
  obtain ⟨a0_3, k0_3, w0_3⟩ := field1 (x := x0_3) (opens_int Try.underlying3) (by kernel_rfl) rfl (g0 3 _ rfl)
  obtain rfl := int_of k0_3
  obtain ⟨a0_4, k0_4, w0_4⟩ := field1 (x := x0_4) (opens_bool Try.underlying4) (by kernel_rfl) rfl (g0 4 _ rfl)
  obtain rfl := bool_of k0_4
  obtain ⟨a0_5, k0_5, w0_5⟩ := field1 (x := x0_5) (opens_int Try.underlying3) (by kernel_rfl) rfl (g0 5 _ rfl)
  obtain rfl := int_of k0_5
  obtain ⟨a0_6, k0_6, w0_6⟩ := field1 (x := x0_6) (opens_int Try.underlying3) (by kernel_rfl) rfl (g0 6 _ rfl)
  obtain rfl := int_of k0_6
  obtain ⟨k, hp⟩ := SFnExactAssertionMessage.p_FnExactAssertionMessage a0_0 a0_1 a0_2 a0_3 a0_4 a0_5 a0_6 w0_0 w0_1 w0_2 w0_3 w0_4 w0_5 w0_6
  refine (PFnExactAssertionMessage.laws_FnExactAssertionMessage.calls k a0_0 a0_1 a0_2 a0_3 a0_4 a0_5 a0_6 true W  hp).mono fun e W' ⟨he, bel⟩ => ?_
  subst he
  exact ⟨_, rfl, _, _, _, [], _, [], hW', trodAll_mk1 (shut_bool Try.underlying4 _), (trodAll_cons_mk (Below.trod laidOut (by kernel_rfl) (of_decide_eq_true (by kernel_rfl)) h0 bel (places_lt h0)) trodAll_mk0), rfl, bel.frame _, fun h => by cases h⟩
theorem over : Rows.fnExactAssertionMessageRow.holds Try.pinned (OpenSpec.ofChange Rows.fnExactAssertionMessageSpec) :=
  OpenClaim.holds_of_wide 11 Try.f11 rfl rfl rfl rfl rfl rfl rfl ⟨rfl, rfl, rfl, rfl, rfl⟩ rfl rfl rfl rfl rfl (by kernel_rfl) Try.func11 (by kernel_rfl)
    (of_decide_eq_true (by kernel_rfl)) (by unfold Func.isWrapper; first | (rw [if_pos (by decide +kernel)]; kernel_rfl) | (rw [if_neg (by decide +kernel)]; exact ⟨rfl, rfl⟩))
    (fun os started H enc _ => lifted os started H enc)
theorem proved : Rows.FnExactAssertionMessageSaid := over
end Go.Proofs.Ytimjjicbdnehlaa.fnExactAssertionMessage
namespace Go.Proofs.Ytimjjicbdnehlaa
theorem fnExactAssertionMessage_holds : Rows.FnExactAssertionMessageSaid := fnExactAssertionMessage.proved
#print axioms fnExactAssertionMessage_holds
end Go.Proofs.Ytimjjicbdnehlaa
