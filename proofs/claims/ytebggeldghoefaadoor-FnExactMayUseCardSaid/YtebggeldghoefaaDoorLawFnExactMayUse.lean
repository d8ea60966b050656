/- The row of the law FnExactMayUse: for every input the call returns true and each argument reads afterwards as it read before. Conditions: none beside the row's own (what the form reads as data). -/
import Derived.Test.YtebggeldghoefaaDoorRows
import Derived.Test.YtebggeldghoefaaDoorPFnExactMayUsex3
import Derived.Test.YtebggeldghoefaaDoorPureFnExactMayUse
import Derived.Test.YtebggeldghoefaaDoorOpn
import Derived.WalkKit
import Derived.Lay
import Derived.LaidMore
import Derived.SevenTiedAt
import Derived.Test.YtebggeldghoefaaDoorTie
import Derived.Test.YtebggeldghoefaaDoorCards
import Derived.ProofKit
import Derived.OpenShut
import Derived.ShutString
import Derived.ChangeOld
import Derived.Below
import Derived.SizedLaws
namespace Go.Proofs.YtebggeldghoefaaDoor.fnExactMayUse
open Go.ChangeShapes Go.WideShapes Go.ChangeAt Go.RowKit Go.Proofs.YtebggeldghoefaaDoorW.PrintWords Go.Proofs.YtebggeldghoefaaDoor.Opn
set_option linter.unusedVariables false
theorem own : ownKnob Tryd.prog.godebug = none := by kernel_rfl
theorem laidOut : laidOutB Tryd.prog = true := by kernel_rfl
set_option maxRecDepth 100000 in
theorem lifted (os : Os) (started : os.Started) (H : Type) (enc : TypeId × Value → H) :
    ReturnsInHanded {} Tryd.checked os 5 .any (fun w args => (Rows.fnExactMayUseSpec.pre enc Tryd.prog Tryd.f5 Rows.fnExactMayUseRow.domain false w args ∧ laidMetH Tryd.prog Rows.fnExactMayUseRow.laid w) ∧ sizedMet enc Tryd.prog Tryd.f5 (OpenSpec.ofChange Rows.fnExactMayUseSpec) false w args) (Rows.fnExactMayUseSpec.post enc Tryd.prog Tryd.f5 false true false false) := by
  refine returnsInHanded_of_change_and (C := Tryd.checked) (X := fun w _ => laidMetH Tryd.prog Rows.fnExactMayUseRow.laid w) (fun _ _ _ hh h => h.of_heap hh) own started (by kernel_rfl) Tryd.func5
    (ChangeSpec.witness_shaped (enc := enc) (C := Tryd.checked) (os := os) (X := fun w _ => laidMetH Tryd.prog Rows.fnExactMayUseRow.laid w) false (World.laidAll Tryd.prog os Rows.fnExactMayUseRow.laid) #[.agg #[.bool false, .string ByteArray.empty, .int .i64 0], .string ByteArray.empty] 8 (World.laidAll_os _ _ _)
      (World.shaped_of_ZipB (by kernel_rfl) (by kernel_rfl)) (by kernel_rfl) (by kernel_rfl) (by kernel_rfl)
      (by rw [MakeChecks.laidMetH_plain _ _ _ (by kernel_rfl)]; exact laidMet_laidAll _ (by kernel_rfl) (by kernel_rfl))) ?_
  intro W base args ds gs before hval0 hW hcnd hsz0 hlaid _
  have hval : ∀ (j : Nat) t v, Tryd.f5.params[j]? = some t → args[j]? = some v → Value.okWide Tryd.prog W .any base t v := hval0
  have hW' := hW
  obtain ⟨p, q, hA0, hV, rfl, hfz, hnd⟩ := hW
  have hA : DataW.TrodAll enc Tryd.prog W 0 (fun _ => true) true Tryd.f5.params.toList args.toList ds p := hA0
  rw [Tryd.params5] at hA hval
  obtain ⟨v0, vs0, d0, ds0, p0, q0, hargs, rfl, rfl, h0, r0⟩ := trodAll_cons hA
  obtain ⟨v1, vs1, d1, ds1, p1, q1, rfl, rfl, rfl, h1, r1⟩ := trodAll_cons r0
  obtain ⟨rfl, rfl, rfl⟩ := trodAll_nil r1
  obtain rfl : args = #[v0, v1] := by cases args; simp_all
  obtain ⟨rfl, rfl⟩ := trodVars_none hV
  clear hA0 hval0 hsz0
  obtain ⟨cs0, rfl, sz0, g0⟩ := param_struct Tryd.underlying24 (hval 0 24 v0 rfl rfl) h0
  obtain ⟨x0_0, x0_1, x0_2, rfl⟩ := arr3 (sz0.trans (show Tryd.prog.cellsOf 24 = 3 by kernel_rfl))
  obtain ⟨a0_0, k0_0, w0_0⟩ := field1 (x := x0_0) (opens_bool Tryd.underlying4) (by kernel_rfl) rfl (g0 0 _ rfl)
  obtain rfl := bool_of k0_0
  obtain ⟨a0_1, k0_1, w0_1⟩ := field1 (x := x0_1) (opens_string Tryd.underlying9) (by kernel_rfl) rfl (g0 1 _ rfl)
  obtain rfl := str_of k0_1
  obtain ⟨a0_2, k0_2, w0_2⟩ := field1 (x := x0_2) (opens_int Tryd.underlying3) (by kernel_rfl) rfl (g0 2 _ rfl)
  obtain rfl := int_of k0_2
  obtain ⟨a1, kk1, w1⟩ := param1 (opens_string Tryd.underlying9) h1
  obtain ⟨b1, rfl, _, _, _⟩ := Go.ChangeMaps.open_string Tryd.underlying9 (hval 1 9 v1 rfl rfl) h1
  obtain rfl := cell_str_inj kk1
  obtain ⟨k, hp⟩ := SFnExactMayUse.p_FnExactMayUse a0_0 a0_1 a0_2 a1 w0_0 w0_1 w0_2 w1
  refine (PFnExactMayUse.laws_FnExactMayUse.calls k a0_0 a0_1 a0_2 a1 true W  hp).mono fun e W' ⟨he, bel⟩ => ?_
  subst he
  exact ⟨_, rfl, _, _, _, [], _, [], hW', trodAll_mk1 (shut_bool Tryd.underlying4 _), (trodAll_cons_mk (Below.trod laidOut (by kernel_rfl) (of_decide_eq_true (by kernel_rfl)) h0 bel (places_lt h0)) (trodAll_cons_mk (Below.trod laidOut (by kernel_rfl) (of_decide_eq_true (by kernel_rfl)) h1 bel (places_lt h1)) trodAll_mk0)), rfl, bel.frame _, fun h => by cases h⟩
theorem over : Rows.fnExactMayUseRow.holds Tryd.pinned (OpenSpec.ofChange Rows.fnExactMayUseSpec) :=
  OpenClaim.holds_of_wide 5 Tryd.f5 rfl rfl rfl rfl rfl rfl rfl ⟨rfl, rfl, rfl, rfl, rfl⟩ rfl rfl rfl rfl rfl (by kernel_rfl) Tryd.func5 (by kernel_rfl)
    (of_decide_eq_true (by kernel_rfl)) (by unfold Func.isWrapper; first | (rw [if_pos (by decide +kernel)]; kernel_rfl) | (rw [if_neg (by decide +kernel)]; exact ⟨rfl, rfl⟩))
    (fun os started H enc _ => lifted os started H enc)
theorem proved : Rows.FnExactMayUseSaid := over
theorem card_holds : Rows.FnExactMayUseCardSaid :=
  Claim7.holds_tied_plain_at .later [] [.data, .pinned] true (true, "fa6b03716866c957b9e5810a36f2933921a27bfc12ac56370948081d3610b8c2") false over (fun _ h => by cases h) (by kernel_rfl) (fun _ h => by cases h) fnExactMayUse_row_tie rfl ⟨rfl, rfl⟩ (by kernel_rfl) rfl
    (fun f fn hf hfn => by
      obtain rfl : f = 5 := Option.some.inj ((show Tryd.prog.funcNamed "loop.example/g00581/laws.FnExactMayUse" = some 5 by kernel_rfl).symm.trans hf) |>.symm
      obtain rfl : fn = Tryd.f5 := (Option.some.inj (Tryd.func5.symm.trans hfn)).symm
      exact ⟨by kernel_rfl, fun j t ht => by
        rw [Tryd.params5] at ht
        have hm : t ∈ [24, 9] := by simpa using Array.mem_of_getElem? ht
        have hall : ([24, 9].all fun u => !Tryd.prog.wantsStandIn u) = true := by kernel_rfl
        exact (show Tryd.prog.wantsStandIn t = false by simpa using List.all_eq_true.1 hall t hm)⟩)
    (by kernel_rfl)
end Go.Proofs.YtebggeldghoefaaDoor.fnExactMayUse
namespace Go.Proofs.YtebggeldghoefaaDoor
/-- The tied card, under a short name, for the claim. -/
theorem fnExactMayUse_holds : Rows.FnExactMayUseCardSaid := fnExactMayUse.card_holds
#print axioms fnExactMayUse_holds
end Go.Proofs.YtebggeldghoefaaDoor
