/- The row of the law FnExactExpireChallenges: for every input the call returns true and each argument reads afterwards as it read before. Conditions: none beside the row's own (what the form reads as data). -/
import Derived.Test.YtednmbifgnpkbaaRows
import Derived.Test.YtednmbifgnpkbaaZPFnExactExpireChallengesx7
import Derived.Test.YtednmbifgnpkbaaZPureFnExactExpireChallenges
import Derived.Test.YtednmbifgnpkbaaZOpn
import Derived.WalkKit
import Derived.ProofKit
import Derived.OpenShut
import Derived.ShutString
import Derived.ChangeOld
import Derived.Below
import Derived.SizedLaws
namespace Go.Proofs.Ytednmbifgnpkbaa.fnExactExpireChallenges
open Go.ChangeShapes Go.WideShapes Go.ChangeAt Go.RowKit Go.Proofs.YtednmbifgnpkbaaW.PrintWords Go.Proofs.Ytednmbifgnpkbaa.Opn
set_option linter.unusedVariables false
theorem own : ownKnob Try.prog.godebug = none := by kernel_rfl
theorem laidOut : laidOutB Try.prog = true := by kernel_rfl
instance : Inhabited PFnExactExpireChallenges.S141 := ⟨PFnExactExpireChallenges.z141⟩
set_option maxRecDepth 100000 in
theorem lifted (os : Os) (started : os.Started) (H : Type) (enc : TypeId × Value → H) :
    ReturnsInHanded {} Try.checked os 3 .any (Rows.fnExactExpireChallengesSpec.pre6 enc Try.prog Try.f3 Rows.fnExactExpireChallengesRow.domain false) (Rows.fnExactExpireChallengesSpec.post enc Try.prog Try.f3 false true false false) := by
  refine returnsInHanded_of_change_sized (C := Try.checked) own started (by kernel_rfl) Try.func3
    (ChangeSpec.witness6 (enc := enc) (C := Try.checked) false ⟨#[], #[.agg #[.int .i64 0, .int .i64 0, .slice none 0 0], .int .i64 0], []⟩ 8 (by kernel_rfl) (by kernel_rfl) (by kernel_rfl) (by kernel_rfl)) ?_
  intro W base args ds gs before hval0 hW hcnd hsz0 _
  have hval : ∀ (j : Nat) t v, Try.f3.params[j]? = some t → args[j]? = some v → Value.okWide Try.prog W .any base t v := hval0
  have hW' := hW
  obtain ⟨p, q, hA0, hV, rfl, hfz, hnd⟩ := hW
  have hA : DataW.TrodAll enc Try.prog W 0 (fun _ => true) true Try.f3.params.toList args.toList ds p := hA0
  rw [Try.params3] at hA hval
  obtain ⟨v0, vs0, d0, ds0, p0, q0, hargs, rfl, rfl, h0, r0⟩ := trodAll_cons hA
  obtain ⟨v1, vs1, d1, ds1, p1, q1, rfl, rfl, rfl, h1, r1⟩ := trodAll_cons r0
  obtain ⟨rfl, rfl, rfl⟩ := trodAll_nil r1
  obtain rfl : args = #[v0, v1] := by cases args; simp_all
  obtain ⟨rfl, rfl⟩ := trodVars_none hV
  clear hA0 hval0 hsz0
  obtain ⟨cs0, rfl, sz0, g0⟩ := param_struct Try.underlying24 (hval 0 24 v0 rfl rfl) h0
  obtain ⟨x0_0, x0_1, x0_2, rfl⟩ := arr3 (sz0.trans (show Try.prog.cellsOf 24 = 3 by kernel_rfl))
  obtain ⟨a0_0, k0_0, w0_0⟩ := field1 (x := x0_0) (opens_int Try.underlying3) (by kernel_rfl) rfl (g0 0 _ rfl)
  obtain rfl := int_of k0_0
  obtain ⟨a0_1, k0_1, w0_1⟩ := field1 (x := x0_1) (opens_int Try.underlying3) (by kernel_rfl) rfl (g0 1 _ rfl)
  obtain rfl := int_of k0_1
  obtain ⟨a0_2, k0_2, w0_2⟩ := field1 (x := x0_2) (opens_slice (d := PFnExactExpireChallenges.k141) Try.underlying22 (by kernel_rfl) (opens_iso (fun a => (⟨a.1, a.2.1, a.2.2⟩ : PFnExactExpireChallenges.S141)) (fun _ => rfl) (opens_struct3 Try.underlying141 (by kernel_rfl) (opens_int Try.underlying3) (opens_int Try.underlying3) (opens_int Try.underlying3)))) (by kernel_rfl) rfl (g0 2 _ rfl)
  obtain ⟨Aa0_2, ca0_2, rfl, hca0_2, hra0_2⟩ := slice_of k0_2
  obtain ⟨a1, kk1, w1⟩ := param1 (opens_int Try.underlying3) h1
  obtain ⟨b1, rfl, _, _, _⟩ := open_int Try.underlying3 (hval 1 3 v1 rfl rfl) h1
  obtain rfl := cell_int_inj kk1
  obtain ⟨k, hp⟩ := SFnExactExpireChallenges.p_FnExactExpireChallenges a0_0 a0_1 a0_2 a1 w0_0 w0_1 w0_2 w1
  refine (PFnExactExpireChallenges.laws_FnExactExpireChallenges.calls k a0_0 a0_1 Aa0_2 ca0_2 a0_2 a1 true rfl W hra0_2 hca0_2 hp).mono fun e W' ⟨he, bel⟩ => ?_
  subst he
  exact ⟨_, rfl, _, _, _, [], _, [], hW', trodAll_mk1 (shut_bool Try.underlying4 _), (trodAll_cons_mk (Below.trod laidOut (by kernel_rfl) (of_decide_eq_true (by kernel_rfl)) h0 bel (places_lt h0)) (trodAll_cons_mk (Below.trod laidOut (by kernel_rfl) (of_decide_eq_true (by kernel_rfl)) h1 bel (places_lt h1)) trodAll_mk0)), rfl, bel.frame _, fun h => by cases h⟩
theorem over : Rows.fnExactExpireChallengesRow.holds Try.pinned (OpenSpec.ofChange Rows.fnExactExpireChallengesSpec) :=
  OpenClaim.holds_of_wide 3 Try.f3 rfl rfl rfl rfl rfl rfl rfl ⟨rfl, rfl, rfl, rfl, rfl⟩ rfl rfl rfl rfl rfl (by kernel_rfl) Try.func3 (by kernel_rfl)
    (of_decide_eq_true (by kernel_rfl)) (by unfold Func.isWrapper; first | (rw [if_pos (by decide +kernel)]; kernel_rfl) | (rw [if_neg (by decide +kernel)]; exact ⟨rfl, rfl⟩))
    (fun os started H enc _ => lifted os started H enc)
theorem proved : Rows.FnExactExpireChallengesSaid := over
end Go.Proofs.Ytednmbifgnpkbaa.fnExactExpireChallenges
namespace Go.Proofs.Ytednmbifgnpkbaa
theorem fnExactExpireChallenges_holds : Rows.FnExactExpireChallengesSaid := fnExactExpireChallenges.proved
#print axioms fnExactExpireChallenges_holds
end Go.Proofs.Ytednmbifgnpkbaa
