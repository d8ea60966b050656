/- The row of the law FnExactRelayAssertion: for every input the call returns true and each argument reads afterwards as it read before. Conditions: none beside the row's own (what the form reads as data). -/
import Derived.Test.YtogcoedmagoogaaDoorRows
import Derived.Test.YtogcoedmagoogaaDoorZPFnExactRelayAssertionx14
import Derived.Test.YtogcoedmagoogaaDoorZPureFnExactRelayAssertion
import Derived.Test.YtogcoedmagoogaaDoorZOpn
import Derived.WalkKit
import Derived.Lay
import Derived.LaidMore
import Derived.SevenTiedAt
import Derived.LaidSub
import Derived.Lib.LaidTab
import Derived.Test.YtogcoedmagoogaaDoorTie
import Derived.Test.YtogcoedmagoogaaDoorCards
import Derived.ProofKit
import Derived.OpenShut
import Derived.ShutString
import Derived.ChangeOld
import Derived.Below
import Derived.SizedLaws
namespace Go.Proofs.YtogcoedmagoogaaDoor.fnExactRelayAssertion
open Go.ChangeShapes Go.WideShapes Go.ChangeAt Go.RowKit Go.Proofs.YtogcoedmagoogaaDoorW.PrintWords Go.Proofs.YtogcoedmagoogaaDoor.Opn
set_option linter.unusedVariables false
theorem own : ownKnob Tryd.prog.godebug = none := by kernel_rfl
theorem laidOut : laidOutB Tryd.prog = true := by kernel_rfl
set_option maxRecDepth 100000 in
theorem lifted (os : Os) (started : os.Started) (H : Type) (enc : TypeId × Value → H) :
    ReturnsInHanded {} Tryd.checked os 5 .any (fun w args => (Rows.fnExactRelayAssertionSpec.pre enc Tryd.prog Tryd.f5 Rows.fnExactRelayAssertionRow.domain false w args ∧ laidMetH Tryd.prog Rows.fnExactRelayAssertionRow.laid w) ∧ sizedMet enc Tryd.prog Tryd.f5 (OpenSpec.ofChange Rows.fnExactRelayAssertionSpec) false w args) (Rows.fnExactRelayAssertionSpec.post enc Tryd.prog Tryd.f5 false true false false) := by
  refine returnsInHanded_of_change_and (C := Tryd.checked) (X := fun w _ => laidMetH Tryd.prog Rows.fnExactRelayAssertionRow.laid w) (fun _ _ _ hh h => h.of_heap hh) own started (by kernel_rfl) Tryd.func5
    (ChangeSpec.witness_shaped (enc := enc) (C := Tryd.checked) (os := os) (X := fun w _ => laidMetH Tryd.prog Rows.fnExactRelayAssertionRow.laid w) false (World.laidAll Tryd.prog os Rows.fnExactRelayAssertionRow.laid) #[.agg #[.int .i64 0, .int .i64 0, .int .i64 0, .int .i64 0], .agg #[.bool false, .string ByteArray.empty, .int .i64 0], .string ByteArray.empty, .int .i64 0, .int .i64 0] 8 (World.laidAll_os _ _ _)
      (World.shaped_of_ZipB (by kernel_rfl) (by kernel_rfl)) (by kernel_rfl) (by kernel_rfl) (by kernel_rfl)
      (by rw [MakeChecks.laidMetH_plain _ _ _ (by kernel_rfl)]; exact laidMet_laidAll _ (by kernel_rfl) (by kernel_rfl))) ?_
  intro W base args ds gs before hval0 hW hcnd hsz0 hlaid _
  have hval : ∀ (j : Nat) t v, Tryd.f5.params[j]? = some t → args[j]? = some v → Value.okWide Tryd.prog W .any base t v := hval0
  have hW' := hW
  obtain ⟨p, q, hA0, hV, rfl, hfz, hnd⟩ := hW
  have hA : DataW.TrodAll enc Tryd.prog W 0 (fun _ => true) true Tryd.f5.params.toList args.toList ds p := hA0
  rw [Tryd.params5] at hA hval
  obtain ⟨v0, vs0, d0, ds0, p0, q0, hargs, rfl, rfl, h0, r0⟩ := trodAll_cons hA
  obtain ⟨v1, vs1, d1, ds1, p1, q1, rfl, rfl, rfl, h1, r1⟩ := trodAll_cons r0
  obtain ⟨v2, vs2, d2, ds2, p2, q2, rfl, rfl, rfl, h2, r2⟩ := trodAll_cons r1
  obtain ⟨v3, vs3, d3, ds3, p3, q3, rfl, rfl, rfl, h3, r3⟩ := trodAll_cons r2
  obtain ⟨v4, vs4, d4, ds4, p4, q4, rfl, rfl, rfl, h4, r4⟩ := trodAll_cons r3
  obtain ⟨rfl, rfl, rfl⟩ := trodAll_nil r4
  obtain rfl : args = #[v0, v1, v2, v3, v4] := by cases args; simp_all
  obtain ⟨rfl, rfl⟩ := trodVars_none hV
  clear hA0 hval0 hsz0
  obtain ⟨cs0, rfl, sz0, g0⟩ := param_struct Tryd.underlying30 (hval 0 30 v0 rfl rfl) h0
  obtain ⟨x0_0, x0_1, x0_2, x0_3, rfl⟩ := arr4 (sz0.trans (show Tryd.prog.cellsOf 30 = 4 by kernel_rfl))
  obtain ⟨a0_0, k0_0, w0_0⟩ := field1 (x := x0_0) (opens_int Tryd.underlying3) (by kernel_rfl) rfl (g0 0 _ rfl)
  obtain rfl := int_of k0_0
  obtain ⟨a0_1, k0_1, w0_1⟩ := field1 (x := x0_1) (opens_int Tryd.underlying3) (by kernel_rfl) rfl (g0 1 _ rfl)
  obtain rfl := int_of k0_1
  obtain ⟨a0_2, k0_2, w0_2⟩ := field1 (x := x0_2) (opens_int Tryd.underlying3) (by kernel_rfl) rfl (g0 2 _ rfl)
  obtain rfl := int_of k0_2
  obtain ⟨a0_3, k0_3, w0_3⟩ := field1 (x := x0_3) (opens_int Tryd.underlying3) (by kernel_rfl) rfl (g0 3 _ rfl)
  obtain rfl := int_of k0_3
  obtain ⟨cs1, rfl, sz1, g1⟩ := param_struct Tryd.underlying23 (hval 1 23 v1 rfl rfl) h1
  obtain ⟨x1_0, x1_1, x1_2, rfl⟩ := arr3 (sz1.trans (show Tryd.prog.cellsOf 23 = 3 by kernel_rfl))
  obtain ⟨a1_0, k1_0, w1_0⟩ := field1 (x := x1_0) (opens_bool Tryd.underlying4) (by kernel_rfl) rfl (g1 0 _ rfl)
  obtain rfl := bool_of k1_0
  obtain ⟨a1_1, k1_1, w1_1⟩ := field1 (x := x1_1) (opens_string Tryd.underlying9) (by kernel_rfl) rfl (g1 1 _ rfl)
  obtain rfl := str_of k1_1
  obtain ⟨a1_2, k1_2, w1_2⟩ := field1 (x := x1_2) (opens_int Tryd.underlying3) (by kernel_rfl) rfl (g1 2 _ rfl)
  obtain rfl := int_of k1_2
  obtain ⟨a2, kk2, w2⟩ := param1 (opens_string Tryd.underlying9) h2
  obtain ⟨b2, rfl, _, _, _⟩ := Go.ChangeMaps.open_string Tryd.underlying9 (hval 2 9 v2 rfl rfl) h2
  obtain rfl := cell_str_inj kk2
  obtain ⟨a3, kk3, w3⟩ := param1 (opens_int Tryd.underlying3) h3
  obtain ⟨b3, rfl, _, _, _⟩ := open_int Tryd.underlying3 (hval 3 3 v3 rfl rfl) h3
  obtain rfl := cell_int_inj kk3
  obtain ⟨a4, kk4, w4⟩ := param1 (opens_int Tryd.underlying3) h4
  obtain ⟨b4, rfl, _, _, _⟩ := open_int Tryd.underlying3 (hval 4 3 v4 rfl rfl) h4
  obtain rfl := cell_int_inj kk4
  obtain ⟨k, hp⟩ := SFnExactRelayAssertion.p_FnExactRelayAssertion a0_0 a0_1 a0_2 a0_3 a1_0 a1_1 a1_2 a2 a3 a4 w0_0 w0_1 w0_2 w0_3 w1_0 w1_1 w1_2 w2 w3 w4
  have htab : Man.Tab W := by
    have h2 : laidMet Tryd.prog Rows.fnExactRelayAssertionRow.laid W := by
      have h1 := hlaid
      rw [MakeChecks.laidMetH_plain _ _ _ (by kernel_rfl)] at h1
      exact h1
    have h3 := h2.filter (fun x => x.1 == "internal/strconv.uint64pow10")
    have e3 : (Rows.fnExactRelayAssertionRow.laid.filter fun x => x.1 == "internal/strconv.uint64pow10") = [("internal/strconv.uint64pow10", Lib.tabData .u64 Lib.pow10Tab)] := by kernel_rfl
    rw [e3] at h3
    exact Lib.tabIs_of_head (g := 3) (t := 112) (e := 96) (n := 20) (by kernel_rfl) (by kernel_rfl) Tryd.underlying112 Tryd.underlying96 (by kernel_rfl) (by kernel_rfl) h3
  refine (PFnExactRelayAssertion.laws_FnExactRelayAssertion.calls (ht_ := htab) k a0_0 a0_1 a0_2 a0_3 a1_0 a1_1 a1_2 a2 a3 a4 true rfl W  hp).mono fun e W' ⟨he, bel⟩ => ?_
  subst he
  exact ⟨_, rfl, _, _, _, [], _, [], hW', trodAll_mk1 (shut_bool Tryd.underlying4 _), (trodAll_cons_mk (Below.trod laidOut (by kernel_rfl) (of_decide_eq_true (by kernel_rfl)) h0 bel (places_lt h0)) (trodAll_cons_mk (Below.trod laidOut (by kernel_rfl) (of_decide_eq_true (by kernel_rfl)) h1 bel (places_lt h1)) (trodAll_cons_mk (Below.trod laidOut (by kernel_rfl) (of_decide_eq_true (by kernel_rfl)) h2 bel (places_lt h2)) (trodAll_cons_mk (Below.trod laidOut (by kernel_rfl) (of_decide_eq_true (by kernel_rfl)) h3 bel (places_lt h3)) (trodAll_cons_mk (Below.trod laidOut (by kernel_rfl) (of_decide_eq_true (by kernel_rfl)) h4 bel (places_lt h4)) trodAll_mk0))))), rfl, bel.frame _, fun h => by cases h⟩
theorem over : Rows.fnExactRelayAssertionRow.holds Tryd.pinned (OpenSpec.ofChange Rows.fnExactRelayAssertionSpec) :=
  OpenClaim.holds_of_wide 5 Tryd.f5 rfl rfl rfl rfl rfl rfl rfl ⟨rfl, rfl, rfl, rfl, rfl⟩ rfl rfl rfl rfl rfl (by kernel_rfl) Tryd.func5 (by kernel_rfl)
    (of_decide_eq_true (by kernel_rfl)) (by unfold Func.isWrapper; first | (rw [if_pos (by decide +kernel)]; kernel_rfl) | (rw [if_neg (by decide +kernel)]; exact ⟨rfl, rfl⟩))
    (fun os started H enc _ => lifted os started H enc)
theorem proved : Rows.FnExactRelayAssertionSaid := over
theorem card_holds : Rows.FnExactRelayAssertionCardSaid :=
  Claim7.holds_tied_plain_at .later [] [.data, .data, .data, .data, .pinned] true (true, "c8dc0300b280b7e6fc7c50bc1365c153f8d2fa0a4ec66f0f0eaf940dba1a227c") true over (fun _ h => by cases h) (by kernel_rfl) (fun _ h => by cases h) fnExactRelayAssertion_row_tie rfl ⟨rfl, rfl⟩ (by kernel_rfl) rfl
    (fun f fn hf hfn => by
      obtain rfl : f = 5 := Option.some.inj ((show Tryd.prog.funcNamed "loop.example/g00581/laws.FnExactRelayAssertion" = some 5 by kernel_rfl).symm.trans hf) |>.symm
      obtain rfl : fn = Tryd.f5 := (Option.some.inj (Tryd.func5.symm.trans hfn)).symm
      exact ⟨by kernel_rfl, fun j t ht => by
        rw [Tryd.params5] at ht
        have hm : t ∈ [30, 23, 9, 3] := by simpa using Array.mem_of_getElem? ht
        have hall : ([30, 23, 9, 3].all fun u => !Tryd.prog.wantsStandIn u) = true := by kernel_rfl
        exact (show Tryd.prog.wantsStandIn t = false by simpa using List.all_eq_true.1 hall t hm)⟩)
    (by kernel_rfl)
end Go.Proofs.YtogcoedmagoogaaDoor.fnExactRelayAssertion
namespace Go.Proofs.YtogcoedmagoogaaDoor
/-- The tied card, under a short name, for the claim. -/
theorem fnExactRelayAssertion_holds : Rows.FnExactRelayAssertionCardSaid := fnExactRelayAssertion.card_holds
#print axioms fnExactRelayAssertion_holds
end Go.Proofs.YtogcoedmagoogaaDoor
