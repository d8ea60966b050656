/- The row of the law FnExactCheckAssertion: for every input the call returns true and each argument reads afterwards as it read before. Conditions: none beside the row's own (what the form reads as data). -/
import Derived.Test.YtogcoedmagoogaaGreatDoorRows
import Derived.Test.YtogcoedmagoogaaGreatDoorZPFnExactCheckAssertionx13
import Derived.Test.YtogcoedmagoogaaGreatDoorZPureFnExactCheckAssertion
import Derived.Test.YtogcoedmagoogaaGreatDoorZOpn
import Derived.WalkKit
import Derived.Lay
import Derived.LaidMore
import Derived.SevenTiedAt
import Derived.LaidSub
import Derived.Lib.LaidTab
import Derived.Stop.LaidErr
import Derived.Test.YtogcoedmagoogaaGreatDoorTie
import Derived.Test.YtogcoedmagoogaaGreatDoorCards
import Derived.ProofKit
import Derived.OpenShut
import Derived.ShutString
import Derived.ChangeOld
import Derived.Below
import Derived.SizedLaws
namespace Go.Proofs.YtogcoedmagoogaaGreatDoor.fnExactCheckAssertion
open Go.ChangeShapes Go.WideShapes Go.ChangeAt Go.RowKit Go.Proofs.YtogcoedmagoogaaGreatDoorW.PrintWords Go.Proofs.YtogcoedmagoogaaGreatDoor.Opn
set_option linter.unusedVariables false
theorem own : ownKnob Tryz.prog.godebug = none := by kernel_rfl
theorem laidOut : laidOutB Tryz.prog = true := by kernel_rfl
set_option maxRecDepth 100000 in
theorem lifted (os : Os) (started : os.Started) (H : Type) (enc : TypeId × Value → H) :
    ReturnsInHanded {} Tryz.checked os 4 .any (fun w args => (Rows.fnExactCheckAssertionSpec.pre enc Tryz.prog Tryz.f4 Rows.fnExactCheckAssertionRow.domain false w args ∧ laidMetH Tryz.prog Rows.fnExactCheckAssertionRow.laid w) ∧ sizedMet enc Tryz.prog Tryz.f4 (OpenSpec.ofChange Rows.fnExactCheckAssertionSpec) false w args) (Rows.fnExactCheckAssertionSpec.post enc Tryz.prog Tryz.f4 false true false false) := by
  refine returnsInHanded_of_change_and (C := Tryz.checked) (X := fun w _ => laidMetH Tryz.prog Rows.fnExactCheckAssertionRow.laid w) (fun _ _ _ hh h => h.of_heap hh) own started (by kernel_rfl) Tryz.func4
    (ChangeSpec.witness_shaped (enc := enc) (C := Tryz.checked) (os := os) (X := fun w _ => laidMetH Tryz.prog Rows.fnExactCheckAssertionRow.laid w) false (World.laidAll Tryz.prog os Rows.fnExactCheckAssertionRow.laid) #[.int .i64 0, .agg #[.string ByteArray.empty, .string ByteArray.empty, .int .i64 0, .int .i64 0, .bool false, .int .i64 0, .int .i64 0], .string ByteArray.empty, .int .i64 0, .int .i64 0] 8 (World.laidAll_os _ _ _)
      (World.shaped_of_ZipB (by kernel_rfl) (by kernel_rfl)) (by kernel_rfl) (by kernel_rfl) (by kernel_rfl)
      (by rw [MakeChecks.laidMetH_plain _ _ _ (by kernel_rfl)]; exact laidMet_laidAll _ (by kernel_rfl) (by kernel_rfl))) ?_
  intro W base args ds gs before hval0 hW hcnd hsz0 hlaid _
  have hval : ∀ (j : Nat) t v, Tryz.f4.params[j]? = some t → args[j]? = some v → Value.okWide Tryz.prog W .any base t v := hval0
  have hW' := hW
  obtain ⟨p, q, hA0, hV, rfl, hfz, hnd⟩ := hW
  have hA : DataW.TrodAll enc Tryz.prog W 0 (fun _ => true) true Tryz.f4.params.toList args.toList ds p := hA0
  rw [Tryz.params4] at hA hval
  obtain ⟨v0, vs0, d0, ds0, p0, q0, hargs, rfl, rfl, h0, r0⟩ := trodAll_cons hA
  obtain ⟨v1, vs1, d1, ds1, p1, q1, rfl, rfl, rfl, h1, r1⟩ := trodAll_cons r0
  obtain ⟨v2, vs2, d2, ds2, p2, q2, rfl, rfl, rfl, h2, r2⟩ := trodAll_cons r1
  obtain ⟨v3, vs3, d3, ds3, p3, q3, rfl, rfl, rfl, h3, r3⟩ := trodAll_cons r2
  obtain ⟨v4, vs4, d4, ds4, p4, q4, rfl, rfl, rfl, h4, r4⟩ := trodAll_cons r3
  obtain ⟨rfl, rfl, rfl⟩ := trodAll_nil r4
  obtain rfl : args = #[v0, v1, v2, v3, v4] := by cases args; simp_all
  obtain ⟨rfl, rfl⟩ := trodVars_none hV
  clear hA0 hval0 hsz0
  obtain ⟨a0, kk0, w0⟩ := param1 (opens_int Tryz.underlying3) h0
  obtain ⟨b0, rfl, _, _, _⟩ := open_int Tryz.underlying3 (hval 0 3 v0 rfl rfl) h0
  obtain rfl := cell_int_inj kk0
  obtain ⟨cs1, rfl, sz1, g1⟩ := param_struct Tryz.underlying37 (hval 1 37 v1 rfl rfl) h1
  obtain ⟨x1_0, x1_1, x1_2, x1_3, x1_4, x1_5, x1_6, rfl⟩ := arr7 (sz1.trans (show Tryz.prog.cellsOf 37 = 7 by kernel_rfl))
  obtain ⟨a1_0, k1_0, w1_0⟩ := field1 (x := x1_0) (opens_string Tryz.underlying9) (by kernel_rfl) rfl (g1 0 _ rfl)
  obtain rfl := str_of k1_0
  obtain ⟨a1_1, k1_1, w1_1⟩ := field1 (x := x1_1) (opens_string Tryz.underlying9) (by kernel_rfl) rfl (g1 1 _ rfl)
  obtain rfl := str_of k1_1
  obtain ⟨a1_2, k1_2, w1_2⟩ := field1 (x := x1_2) (opens_int Tryz.underlying3) (by kernel_rfl) rfl (g1 2 _ rfl)
  obtain rfl := int_of k1_2
  obtain ⟨a1_3, k1_3, w1_3⟩ := field1 (x := x1_3) (opens_int Tryz.underlying3) (by kernel_rfl) rfl (g1 3 _ rfl)
  obtain rfl := int_of k1_3
  obtain ⟨a1_4, k1_4, w1_4⟩ := field1 (x := x1_4) (opens_bool Tryz.underlying4) (by kernel_rfl) rfl (g1 4 _ rfl)
  obtain rfl := bool_of k1_4
  obtain ⟨a1_5, k1_5, w1_5⟩ := field1 (x := x1_5) (opens_int Tryz.underlying3) (by kernel_rfl) rfl (g1 5 _ rfl)
  obtain rfl := int_of k1_5
  obtain ⟨a1_6, k1_6, w1_6⟩ := field1 (x := x1_6) (opens_int Tryz.underlying3) (by kernel_rfl) rfl (g1 6 _ rfl)
  obtain rfl := int_of k1_6
  obtain ⟨a2, kk2, w2⟩ := param1 (opens_string Tryz.underlying9) h2
  obtain ⟨b2, rfl, _, _, _⟩ := Go.ChangeMaps.open_string Tryz.underlying9 (hval 2 9 v2 rfl rfl) h2
  obtain rfl := cell_str_inj kk2
  obtain ⟨a3, kk3, w3⟩ := param1 (opens_int Tryz.underlying3) h3
  obtain ⟨b3, rfl, _, _, _⟩ := open_int Tryz.underlying3 (hval 3 3 v3 rfl rfl) h3
  obtain rfl := cell_int_inj kk3
  obtain ⟨a4, kk4, w4⟩ := param1 (opens_int Tryz.underlying3) h4
  obtain ⟨b4, rfl, _, _, _⟩ := open_int Tryz.underlying3 (hval 4 3 v4 rfl rfl) h4
  obtain rfl := cell_int_inj kk4
  obtain ⟨k, hp⟩ := SFnExactCheckAssertion.p_FnExactCheckAssertion a0 a1_0 a1_1 a1_2 a1_3 a1_4 a1_5 a1_6 a2 a3 a4 w0 w1_0 w1_1 w1_2 w1_3 w1_4 w1_5 w1_6 w2 w3 w4
  have star_err : "*" ++ "errors.errorString" = "*errors.errorString" := by decide
  have htab0 : Lib.TabIs Tryz.prog W "internal/strconv.uint64pow10" .u64 Lib.pow10Tab := by
    have h2 : laidMet Tryz.prog Rows.fnExactCheckAssertionRow.laid W := by
      have h1 := hlaid
      rw [MakeChecks.laidMetH_plain _ _ _ (by kernel_rfl)] at h1
      exact h1
    have h3 := h2.filter (fun x => x.1 == "internal/strconv.uint64pow10")
    have e3 : (Rows.fnExactCheckAssertionRow.laid.filter fun x => x.1 == "internal/strconv.uint64pow10") = [("internal/strconv.uint64pow10", Lib.tabData .u64 Lib.pow10Tab)] := by kernel_rfl
    rw [e3] at h3
    exact Lib.tabIs_of_head (g := 3) (t := 149) (e := 134) (n := 20) (by kernel_rfl) (by kernel_rfl) Tryz.underlying149 Tryz.underlying134 (by kernel_rfl) (by kernel_rfl) h3
  have htab1 : Man.Err W "strconv.ErrSyntax" := by
    have h2 : laidMet Tryz.prog Rows.fnExactCheckAssertionRow.laid W := by
      have h1 := hlaid
      rw [MakeChecks.laidMetH_plain _ _ _ (by kernel_rfl)] at h1
      exact h1
    have h3 := h2.filter (fun x => x.1 == "strconv.ErrSyntax")
    have e3 : (Rows.fnExactCheckAssertionRow.laid.filter fun x => x.1 == "strconv.ErrSyntax") = [("strconv.ErrSyntax", .iface "*errors.errorString" (.ptr (.agg [.lit (.string [105, 110, 118, 97, 108, 105, 100, 32, 115, 121, 110, 116, 97, 120])])))] := by kernel_rfl
    rw [e3] at h3
    obtain ⟨a, s, hv, _⟩ := laid_sentinel (g := 1) (ti := 101) (tp := 146) (te := 148) (ts := 9) h3 (by kernel_rfl) (by kernel_rfl) Tryz.underlying101 (fun u h => typeName_ptr_named (nm := "errors.errorString") (by rw [star_err]; kernel_rfl) (by kernel_rfl) (by decide) u (by rw [star_err]; exact h)) Tryz.underlying146 Tryz.underlying148 rfl rfl Tryz.underlying9 (by kernel_rfl) (by kernel_rfl)
    exact ⟨_, _, hv⟩
  have htab2 : Man.Err W "strconv.ErrRange" := by
    have h2 : laidMet Tryz.prog Rows.fnExactCheckAssertionRow.laid W := by
      have h1 := hlaid
      rw [MakeChecks.laidMetH_plain _ _ _ (by kernel_rfl)] at h1
      exact h1
    have h3 := h2.filter (fun x => x.1 == "strconv.ErrRange")
    have e3 : (Rows.fnExactCheckAssertionRow.laid.filter fun x => x.1 == "strconv.ErrRange") = [("strconv.ErrRange", .iface "*errors.errorString" (.ptr (.agg [.lit (.string [118, 97, 108, 117, 101, 32, 111, 117, 116, 32, 111, 102, 32, 114, 97, 110, 103, 101])])))] := by kernel_rfl
    rw [e3] at h3
    obtain ⟨a, s, hv, _⟩ := laid_sentinel (g := 2) (ti := 101) (tp := 146) (te := 148) (ts := 9) h3 (by kernel_rfl) (by kernel_rfl) Tryz.underlying101 (fun u h => typeName_ptr_named (nm := "errors.errorString") (by rw [star_err]; kernel_rfl) (by kernel_rfl) (by decide) u (by rw [star_err]; exact h)) Tryz.underlying146 Tryz.underlying148 rfl rfl Tryz.underlying9 (by kernel_rfl) (by kernel_rfl)
    exact ⟨_, _, hv⟩
  have htab : Man.Tab W := ⟨htab0, htab1, htab2⟩
  refine (PFnExactCheckAssertion.laws_FnExactCheckAssertion.calls (ht_ := htab) k a0 a1_0 a1_1 a1_2 a1_3 a1_4 a1_5 a1_6 a2 a3 a4 true W  hp).mono fun e W' ⟨he, bel⟩ => ?_
  subst he
  exact ⟨_, rfl, _, _, _, [], _, [], hW', trodAll_mk1 (shut_bool Tryz.underlying4 _), (trodAll_cons_mk (Below.trod laidOut (by kernel_rfl) (of_decide_eq_true (by kernel_rfl)) h0 bel (places_lt h0)) (trodAll_cons_mk (Below.trod laidOut (by kernel_rfl) (of_decide_eq_true (by kernel_rfl)) h1 bel (places_lt h1)) (trodAll_cons_mk (Below.trod laidOut (by kernel_rfl) (of_decide_eq_true (by kernel_rfl)) h2 bel (places_lt h2)) (trodAll_cons_mk (Below.trod laidOut (by kernel_rfl) (of_decide_eq_true (by kernel_rfl)) h3 bel (places_lt h3)) (trodAll_cons_mk (Below.trod laidOut (by kernel_rfl) (of_decide_eq_true (by kernel_rfl)) h4 bel (places_lt h4)) trodAll_mk0))))), rfl, bel.frame _, fun h => by cases h⟩
theorem over : Rows.fnExactCheckAssertionRow.holds Tryz.pinned (OpenSpec.ofChange Rows.fnExactCheckAssertionSpec) :=
  OpenClaim.holds_of_wide 4 Tryz.f4 rfl rfl rfl rfl rfl rfl rfl ⟨rfl, rfl, rfl, rfl, rfl⟩ rfl rfl rfl rfl rfl (by kernel_rfl) Tryz.func4 (by kernel_rfl)
    (of_decide_eq_true (by kernel_rfl)) (by unfold Func.isWrapper; first | (rw [if_pos (by decide +kernel)]; kernel_rfl) | (rw [if_neg (by decide +kernel)]; exact ⟨rfl, rfl⟩))
    (fun os started H enc _ => lifted os started H enc)
theorem proved : Rows.FnExactCheckAssertionSaid := over
theorem card_holds : Rows.FnExactCheckAssertionCardSaid :=
  Claim7.holds_tied_plain_at .later [] [.data, .data, .data, .data, .sentinel, .sentinel, .pinned] true (true, "4fe72e79e550c69fada28e644398aa7990b94de0ce96a26e7638290c237d0d65") true over (fun _ h => by cases h) (by kernel_rfl) (fun _ h => by cases h) fnExactCheckAssertion_row_tie rfl ⟨rfl, rfl⟩ (by kernel_rfl) rfl
    (fun f fn hf hfn => by
      obtain rfl : f = 4 := Option.some.inj ((show Tryz.prog.funcNamed "loop.example/g00581/laws.FnExactCheckAssertion" = some 4 by kernel_rfl).symm.trans hf) |>.symm
      obtain rfl : fn = Tryz.f4 := (Option.some.inj (Tryz.func4.symm.trans hfn)).symm
      exact ⟨by kernel_rfl, fun j t ht => by
        rw [Tryz.params4] at ht
        have hm : t ∈ [3, 37, 9, 3, 3] := by first | (simpa using Array.mem_of_getElem? ht) | (have h_ := Array.mem_of_getElem? ht; simp at h_ ⊢; omega)
        have hall : ([3, 37, 9, 3, 3].all fun u => !Tryz.prog.wantsStandIn u) = true := by kernel_rfl
        exact (show Tryz.prog.wantsStandIn t = false by simpa using List.all_eq_true.1 hall t hm)⟩)
    (by kernel_rfl)
end Go.Proofs.YtogcoedmagoogaaGreatDoor.fnExactCheckAssertion
namespace Go.Proofs.YtogcoedmagoogaaGreatDoor
/-- The tied card, under a short name, for the claim. -/
theorem fnExactCheckAssertion_holds : Rows.FnExactCheckAssertionCardSaid := fnExactCheckAssertion.card_holds
#print axioms fnExactCheckAssertion_holds
end Go.Proofs.YtogcoedmagoogaaGreatDoor
