/- Functions and contracts of a law's callees, written by a program of this session (a changed print): each contract says that the machine's call answers what the plain function says. Conditions: the plain function's own answer. -/
import Derived.Test.YtogcoedmagoogaaDoorRows
import Derived.Test.YtogcoedmagoogaaDoorPFnExactParseOriginx6
import Derived.Test.YtogcoedmagoogaaDoorPureFnExactParseOrigin
import Derived.WalkKit
import Derived.Lay
import Derived.LaidMore
import Derived.SevenTiedAt
import Derived.LaidSub
import Derived.Lib.LaidTab
import Derived.Stop.LaidErr
import Derived.Test.YtogcoedmagoogaaDoorTie
import Derived.Test.YtogcoedmagoogaaDoorCards
import Derived.ProofKit
import Derived.OpenShut
import Derived.ShutString
import Derived.ChangeOld
import Derived.Below
import Derived.SizedLaws
namespace Go.Proofs.YtogcoedmagoogaaDoor.fnExactParseOrigin
open Go.ChangeShapes Go.WideShapes Go.ChangeAt Go.RowKit
open Go.ChangeMaps (open_string shut_string)
set_option linter.unusedVariables false
theorem own : ownKnob Tryd.prog.godebug = none := by kernel_rfl
set_option maxRecDepth 100000 in
theorem lifted (os : Os) (started : os.Started) (H : Type) (enc : TypeId × Value → H) :
    ReturnsInHanded {} Tryd.checked os 6 .any (fun w args => (Rows.fnExactParseOriginSpec.pre enc Tryd.prog Tryd.f6 Rows.fnExactParseOriginRow.domain false w args ∧ laidMetH Tryd.prog Rows.fnExactParseOriginRow.laid w) ∧ sizedMet enc Tryd.prog Tryd.f6 (OpenSpec.ofChange Rows.fnExactParseOriginSpec) false w args) (Rows.fnExactParseOriginSpec.post enc Tryd.prog Tryd.f6 false true false false) := by
  refine returnsInHanded_of_change_and (C := Tryd.checked) (X := fun w _ => laidMetH Tryd.prog Rows.fnExactParseOriginRow.laid w) (fun _ _ _ hh h => h.of_heap hh) own started (by kernel_rfl) Tryd.func6
    (ChangeSpec.witness_shaped (enc := enc) (C := Tryd.checked) (os := os) (X := fun w _ => laidMetH Tryd.prog Rows.fnExactParseOriginRow.laid w) false (World.laidAll Tryd.prog os Rows.fnExactParseOriginRow.laid) #[.string ByteArray.empty] 8 (World.laidAll_os _ _ _)
      (World.shaped_of_ZipB (by kernel_rfl) (by kernel_rfl)) (by kernel_rfl) (by kernel_rfl) (by kernel_rfl)
      (by rw [MakeChecks.laidMetH_plain _ _ _ (by kernel_rfl)]; exact laidMet_laidAll _ (by kernel_rfl) (by kernel_rfl))) ?_
  intro W base args ds gs before hval0 hW hcnd hsz0 hlaid _
  have hsz : (DataW.weightsEach Tryd.prog (Tryd.f6.params.toList ++ Rows.fnExactParseOriginSpec.plain.varTypes Tryd.prog) (ds ++ gs)).all (· ≤ reachBytes) = true := hsz0
  have hval : ∀ (j : Nat) t v, Tryd.f6.params[j]? = some t → args[j]? = some v → Value.okWide Tryd.prog W .any base t v := hval0
  have hW' := hW
  obtain ⟨p, q, hA0, hV, rfl, hfz, hnd⟩ := hW
  have hA : DataW.TrodAll enc Tryd.prog W 0 (fun _ => true) true Tryd.f6.params.toList args.toList ds p := hA0
  rw [Tryd.params6] at hA hval hsz
  obtain ⟨v0, vs0, d0, ds0, p0, q0, hargs, rfl, rfl, h0, r0⟩ := trodAll_cons hA
  obtain ⟨rfl, rfl, rfl⟩ := trodAll_nil r0
  obtain rfl : args = #[v0] := by cases args; simp_all
  obtain ⟨rfl, rfl⟩ := trodVars_none hV
  obtain ⟨a0, rfl, rfl, rfl, y0⟩ := open_string Tryd.underlying9 (hval 0 9 v0 rfl rfl) h0
  have w0 : a0.size ≤ 140737488351232 := by
    have z := sized_string hsz (j := 0) (t := 9) rfl rfl
    rw [Array.length_toList] at z
    exact z
  clear hA0 hval0 hsz0 hsz
  have star_err : "*" ++ "errors.errorString" = "*errors.errorString" := by decide
  have htab0 : Lib.TabIs Tryd.prog W "internal/strconv.uint64pow10" .u64 Lib.pow10Tab := by
    have h2 : laidMet Tryd.prog Rows.fnExactParseOriginRow.laid W := by
      have h1 := hlaid
      rw [MakeChecks.laidMetH_plain _ _ _ (by kernel_rfl)] at h1
      exact h1
    have h3 := h2.filter (fun x => x.1 == "internal/strconv.uint64pow10")
    have e3 : (Rows.fnExactParseOriginRow.laid.filter fun x => x.1 == "internal/strconv.uint64pow10") = [("internal/strconv.uint64pow10", Lib.tabData .u64 Lib.pow10Tab)] := by kernel_rfl
    rw [e3] at h3
    exact Lib.tabIs_of_head (g := 3) (t := 112) (e := 96) (n := 20) (by kernel_rfl) (by kernel_rfl) Tryd.underlying112 Tryd.underlying96 (by kernel_rfl) (by kernel_rfl) h3
  have htab1 : Man.Err W "strconv.ErrSyntax" := by
    have h2 : laidMet Tryd.prog Rows.fnExactParseOriginRow.laid W := by
      have h1 := hlaid
      rw [MakeChecks.laidMetH_plain _ _ _ (by kernel_rfl)] at h1
      exact h1
    have h3 := h2.filter (fun x => x.1 == "strconv.ErrSyntax")
    have e3 : (Rows.fnExactParseOriginRow.laid.filter fun x => x.1 == "strconv.ErrSyntax") = [("strconv.ErrSyntax", .iface "*errors.errorString" (.ptr (.agg [.lit (.string [105, 110, 118, 97, 108, 105, 100, 32, 115, 121, 110, 116, 97, 120])])))] := by kernel_rfl
    rw [e3] at h3
    obtain ⟨a, s, hv, _⟩ := laid_sentinel (g := 1) (ti := 72) (tp := 117) (te := 119) (ts := 9) h3 (by kernel_rfl) (by kernel_rfl) Tryd.underlying72 (fun u h => typeName_ptr_named (nm := "errors.errorString") (by rw [star_err]; kernel_rfl) (by kernel_rfl) (by decide) u (by rw [star_err]; exact h)) Tryd.underlying117 Tryd.underlying119 rfl rfl Tryd.underlying9 (by kernel_rfl) (by kernel_rfl)
    exact ⟨_, _, hv⟩
  have htab2 : Man.Err W "strconv.ErrRange" := by
    have h2 : laidMet Tryd.prog Rows.fnExactParseOriginRow.laid W := by
      have h1 := hlaid
      rw [MakeChecks.laidMetH_plain _ _ _ (by kernel_rfl)] at h1
      exact h1
    have h3 := h2.filter (fun x => x.1 == "strconv.ErrRange")
    have e3 : (Rows.fnExactParseOriginRow.laid.filter fun x => x.1 == "strconv.ErrRange") = [("strconv.ErrRange", .iface "*errors.errorString" (.ptr (.agg [.lit (.string [118, 97, 108, 117, 101, 32, 111, 117, 116, 32, 111, 102, 32, 114, 97, 110, 103, 101])])))] := by kernel_rfl
    rw [e3] at h3
    obtain ⟨a, s, hv, _⟩ := laid_sentinel (g := 2) (ti := 72) (tp := 117) (te := 119) (ts := 9) h3 (by kernel_rfl) (by kernel_rfl) Tryd.underlying72 (fun u h => typeName_ptr_named (nm := "errors.errorString") (by rw [star_err]; kernel_rfl) (by kernel_rfl) (by decide) u (by rw [star_err]; exact h)) Tryd.underlying117 Tryd.underlying119 rfl rfl Tryd.underlying9 (by kernel_rfl) (by kernel_rfl)
    exact ⟨_, _, hv⟩
  have htab : Man.Tab W := ⟨htab0, htab1, htab2⟩
  refine (PFnExactParseOrigin.laws_FnExactParseOrigin.walk (ht_ := htab) Pure.FnExactParseOrigin a0 W w0).mono fun e W' ⟨he, bel⟩ => ?_
  subst he
  exact ⟨_, rfl, _, _, _, [], _, [], hW', trodAll_mk1 (shut_bool Tryd.underlying4 _), (trodAll_cons_mk (shut_string Tryd.underlying9 y0) trodAll_mk0), rfl, bel.frame _, fun h => by cases h⟩
theorem over : Rows.fnExactParseOriginRow.holds Tryd.pinned (OpenSpec.ofChange Rows.fnExactParseOriginSpec) :=
  OpenClaim.holds_of_wide 6 Tryd.f6 rfl rfl rfl rfl rfl rfl rfl ⟨rfl, rfl, rfl, rfl, rfl⟩ rfl rfl rfl rfl rfl (by kernel_rfl) Tryd.func6 (by kernel_rfl)
    (of_decide_eq_true (by kernel_rfl)) (by unfold Func.isWrapper; first | (rw [if_pos (by decide +kernel)]; kernel_rfl) | (rw [if_neg (by decide +kernel)]; exact ⟨rfl, rfl⟩))
    (fun os started H enc _ => lifted os started H enc)
theorem proved : Rows.FnExactParseOriginSaid := over
theorem card_holds : Rows.FnExactParseOriginCardSaid :=
  Claim7.holds_tied_plain_at .later [] [.data, .data, .data, .data, .sentinel, .sentinel, .pinned] true (true, "c8dc0300b280b7e6fc7c50bc1365c153f8d2fa0a4ec66f0f0eaf940dba1a227c") true over (fun _ h => by cases h) (by kernel_rfl) (fun _ h => by cases h) fnExactParseOrigin_row_tie rfl ⟨rfl, rfl⟩ (by kernel_rfl) rfl
    (fun f fn hf hfn => by
      obtain rfl : f = 6 := Option.some.inj ((show Tryd.prog.funcNamed "loop.example/g00581/laws.FnExactParseOrigin" = some 6 by kernel_rfl).symm.trans hf) |>.symm
      obtain rfl : fn = Tryd.f6 := (Option.some.inj (Tryd.func6.symm.trans hfn)).symm
      exact ⟨by kernel_rfl, fun j t ht => by
        rw [Tryd.params6] at ht
        have hm : t ∈ [9] := by simpa using Array.mem_of_getElem? ht
        have hall : ([9].all fun u => !Tryd.prog.wantsStandIn u) = true := by kernel_rfl
        exact (show Tryd.prog.wantsStandIn t = false by simpa using List.all_eq_true.1 hall t hm)⟩)
    (by kernel_rfl)
end Go.Proofs.YtogcoedmagoogaaDoor.fnExactParseOrigin
namespace Go.Proofs.YtogcoedmagoogaaDoor
/-- The tied card, under a short name, for the claim. -/
theorem fnExactParseOrigin_holds : Rows.FnExactParseOriginCardSaid := fnExactParseOrigin.card_holds
#print axioms fnExactParseOrigin_holds
end Go.Proofs.YtogcoedmagoogaaDoor
