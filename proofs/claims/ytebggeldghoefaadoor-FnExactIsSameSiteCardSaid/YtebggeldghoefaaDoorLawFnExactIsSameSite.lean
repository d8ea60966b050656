/- The row of the law FnExactIsSameSite: for every input the call returns true and each argument reads afterwards as it read before. Conditions: none beside the row's own (what the form reads as data). -/
import Derived.Test.YtebggeldghoefaaDoorRows
import Derived.Test.YtebggeldghoefaaDoorPFnExactIsSameSitex6
import Derived.Test.YtebggeldghoefaaDoorPureFnExactIsSameSite
import Derived.Test.YtebggeldghoefaaDoorOpn
import Derived.WalkKit
import Derived.Lay
import Derived.LaidMore
import Derived.SevenTiedAt
import Derived.Test.YtebggeldghoefaaDoorTie
import Derived.Test.YtebggeldghoefaaDoorCards
import Derived.ProofKit
import Derived.OpenShut
import Derived.ShutString
import Derived.ChangeOld
import Derived.Below
import Derived.SizedLaws
namespace Go.Proofs.YtebggeldghoefaaDoor.fnExactIsSameSite
open Go.ChangeShapes Go.WideShapes Go.ChangeAt Go.RowKit Go.Proofs.YtebggeldghoefaaDoorW.PrintWords Go.Proofs.YtebggeldghoefaaDoor.Opn
set_option linter.unusedVariables false
theorem own : ownKnob Tryd.prog.godebug = none := by kernel_rfl
theorem laidOut : laidOutB Tryd.prog = true := by kernel_rfl
set_option maxRecDepth 100000 in
theorem lifted (os : Os) (started : os.Started) (H : Type) (enc : TypeId × Value → H) :
    ReturnsInHanded {} Tryd.checked os 7 .any (fun w args => (Rows.fnExactIsSameSiteSpec.pre enc Tryd.prog Tryd.f7 Rows.fnExactIsSameSiteRow.domain false w args ∧ laidMetH Tryd.prog Rows.fnExactIsSameSiteRow.laid w) ∧ sizedMet enc Tryd.prog Tryd.f7 (OpenSpec.ofChange Rows.fnExactIsSameSiteSpec) false w args) (Rows.fnExactIsSameSiteSpec.post enc Tryd.prog Tryd.f7 false true false false) := by
  refine returnsInHanded_of_change_and (C := Tryd.checked) (X := fun w _ => laidMetH Tryd.prog Rows.fnExactIsSameSiteRow.laid w) (fun _ _ _ hh h => h.of_heap hh) own started (by kernel_rfl) Tryd.func7
    (ChangeSpec.witness_shaped (enc := enc) (C := Tryd.checked) (os := os) (X := fun w _ => laidMetH Tryd.prog Rows.fnExactIsSameSiteRow.laid w) false (World.laidAll Tryd.prog os Rows.fnExactIsSameSiteRow.laid) #[.agg #[.bool false, .string ByteArray.empty, .int .i64 0], .agg #[.bool false, .string ByteArray.empty, .int .i64 0]] 8 (World.laidAll_os _ _ _)
      (World.shaped_of_ZipB (by kernel_rfl) (by kernel_rfl)) (by kernel_rfl) (by kernel_rfl) (by kernel_rfl)
      (by rw [MakeChecks.laidMetH_plain _ _ _ (by kernel_rfl)]; exact laidMet_laidAll _ (by kernel_rfl) (by kernel_rfl))) ?_
  intro W base args ds gs before hval0 hW hcnd hsz0 hlaid _
  have hval : ∀ (j : Nat) t v, Tryd.f7.params[j]? = some t → args[j]? = some v → Value.okWide Tryd.prog W .any base t v := hval0
  have hW' := hW
  obtain ⟨p, q, hA0, hV, rfl, hfz, hnd⟩ := hW
  have hA : DataW.TrodAll enc Tryd.prog W 0 (fun _ => true) true Tryd.f7.params.toList args.toList ds p := hA0
  rw [Tryd.params7] at hA hval
  obtain ⟨v0, vs0, d0, ds0, p0, q0, hargs, rfl, rfl, h0, r0⟩ := trodAll_cons hA
  obtain ⟨v1, vs1, d1, ds1, p1, q1, rfl, rfl, rfl, h1, r1⟩ := trodAll_cons r0
  obtain ⟨rfl, rfl, rfl⟩ := trodAll_nil r1
  obtain rfl : args = #[v0, v1] := by cases args; simp_all
  obtain ⟨rfl, rfl⟩ := trodVars_none hV
  clear hA0 hval0 hsz0
  obtain ⟨cs0, rfl, sz0, g0⟩ := param_struct Tryd.underlying24 (hval 0 24 v0 rfl rfl) h0
  obtain ⟨x0_0, x0_1, x0_2, rfl⟩ := arr3 (sz0.trans (show Tryd.prog.cellsOf 24 = 3 by kernel_rfl))
  obtain ⟨a0_0, k0_0, w0_0⟩ := field1 (x := x0_0) (opens_bool Tryd.underlying4) (by kernel_rfl) rfl (g0 0 _ rfl)
  obtain rfl := bool_of k0_0
  obtain ⟨a0_1, k0_1, w0_1⟩ := field1 (x := x0_1) (opens_string Tryd.underlying9) (by kernel_rfl) rfl (g0 1 _ rfl)
  obtain rfl := str_of k0_1
  obtain ⟨a0_2, k0_2, w0_2⟩ := field1 (x := x0_2) (opens_int Tryd.underlying3) (by kernel_rfl) rfl (g0 2 _ rfl)
  obtain rfl := int_of k0_2
  obtain ⟨cs1, rfl, sz1, g1⟩ := param_struct Tryd.underlying24 (hval 1 24 v1 rfl rfl) h1
  obtain ⟨x1_0, x1_1, x1_2, rfl⟩ := arr3 (sz1.trans (show Tryd.prog.cellsOf 24 = 3 by kernel_rfl))
  obtain ⟨a1_0, k1_0, w1_0⟩ := field1 (x := x1_0) (opens_bool Tryd.underlying4) (by kernel_rfl) rfl (g1 0 _ rfl)
  obtain rfl := bool_of k1_0
  obtain ⟨a1_1, k1_1, w1_1⟩ := field1 (x := x1_1) (opens_string Tryd.underlying9) (by kernel_rfl) rfl (g1 1 _ rfl)
  obtain rfl := str_of k1_1
  obtain ⟨a1_2, k1_2, w1_2⟩ := field1 (x := x1_2) (opens_int Tryd.underlying3) (by kernel_rfl) rfl (g1 2 _ rfl)
  obtain rfl := int_of k1_2
  obtain ⟨k, hp⟩ := SFnExactIsSameSite.p_FnExactIsSameSite a0_0 a0_1 a0_2 a1_0 a1_1 a1_2 w0_0 w0_1 w0_2 w1_0 w1_1 w1_2
  refine (PFnExactIsSameSite.laws_FnExactIsSameSite.calls k a0_0 a0_1 a0_2 a1_0 a1_1 a1_2 true W  hp).mono fun e W' ⟨he, bel⟩ => ?_
  subst he
  exact ⟨_, rfl, _, _, _, [], _, [], hW', trodAll_mk1 (shut_bool Tryd.underlying4 _), (trodAll_cons_mk (Below.trod laidOut (by kernel_rfl) (of_decide_eq_true (by kernel_rfl)) h0 bel (places_lt h0)) (trodAll_cons_mk (Below.trod laidOut (by kernel_rfl) (of_decide_eq_true (by kernel_rfl)) h1 bel (places_lt h1)) trodAll_mk0)), rfl, bel.frame _, fun h => by cases h⟩
theorem over : Rows.fnExactIsSameSiteRow.holds Tryd.pinned (OpenSpec.ofChange Rows.fnExactIsSameSiteSpec) :=
  OpenClaim.holds_of_wide 7 Tryd.f7 rfl rfl rfl rfl rfl rfl rfl ⟨rfl, rfl, rfl, rfl, rfl⟩ rfl rfl rfl rfl rfl (by kernel_rfl) Tryd.func7 (by kernel_rfl)
    (of_decide_eq_true (by kernel_rfl)) (by unfold Func.isWrapper; first | (rw [if_pos (by decide +kernel)]; kernel_rfl) | (rw [if_neg (by decide +kernel)]; exact ⟨rfl, rfl⟩))
    (fun os started H enc _ => lifted os started H enc)
theorem proved : Rows.FnExactIsSameSiteSaid := over
theorem card_holds : Rows.FnExactIsSameSiteCardSaid :=
  Claim7.holds_tied_plain_at .later [] [.data, .pinned] true (true, "fa6b03716866c957b9e5810a36f2933921a27bfc12ac56370948081d3610b8c2") false over (fun _ h => by cases h) (by kernel_rfl) (fun _ h => by cases h) fnExactIsSameSite_row_tie rfl ⟨rfl, rfl⟩ (by kernel_rfl) rfl
    (fun f fn hf hfn => by
      obtain rfl : f = 7 := Option.some.inj ((show Tryd.prog.funcNamed "loop.example/g00581/laws.FnExactIsSameSite" = some 7 by kernel_rfl).symm.trans hf) |>.symm
      obtain rfl : fn = Tryd.f7 := (Option.some.inj (Tryd.func7.symm.trans hfn)).symm
      exact ⟨by kernel_rfl, fun j t ht => by
        rw [Tryd.params7] at ht
        have hm : t ∈ [24] := by simpa using Array.mem_of_getElem? ht
        have hall : ([24].all fun u => !Tryd.prog.wantsStandIn u) = true := by kernel_rfl
        exact (show Tryd.prog.wantsStandIn t = false by simpa using List.all_eq_true.1 hall t hm)⟩)
    (by kernel_rfl)
end Go.Proofs.YtebggeldghoefaaDoor.fnExactIsSameSite
namespace Go.Proofs.YtebggeldghoefaaDoor
/-- The tied card, under a short name, for the claim. -/
theorem fnExactIsSameSite_holds : Rows.FnExactIsSameSiteCardSaid := fnExactIsSameSite.card_holds
#print axioms fnExactIsSameSite_holds
end Go.Proofs.YtebggeldghoefaaDoor
