/- Functions and contracts of a law's callees, written by a program of this session (a changed print): each contract says that the machine's call answers what the plain function says. Conditions: the plain function's own answer. -/
import Derived.Test.YtogcoedmagoogaaGreatDoorRows
import Derived.Test.YtogcoedmagoogaaGreatDoorZPFnAssertionsx10
import Derived.Test.YtogcoedmagoogaaGreatDoorZPureFnAssertions
import Derived.WalkKit
import Derived.Lay
import Derived.LaidMore
import Derived.SevenTiedAt
import Derived.LaidSub
import Derived.Lib.LaidTab
import Derived.Stop.LaidErr
import Derived.Test.YtogcoedmagoogaaGreatDoorTie
import Derived.Test.YtogcoedmagoogaaGreatDoorCards
import Derived.ProofKit
import Derived.OpenShut
import Derived.ShutString
import Derived.ChangeOld
import Derived.Below
import Derived.SizedLaws
import Derived.Test.YtogcoedmagoogaaGreatDoorZWSized
namespace Go.Proofs.YtogcoedmagoogaaGreatDoor.fnAssertions
open Go.ChangeShapes Go.WideShapes Go.ChangeAt Go.RowKit
open Go.ChangeMaps (open_string shut_string)
set_option linter.unusedVariables false
theorem own : ownKnob Tryz.prog.godebug = none := by kernel_rfl
theorem laidOut : laidOutB Tryz.prog = true := by kernel_rfl
def IsRow (k : IntKind) (w : World) (a : Option Addr) (len cap : Nat) (zs : List Int) : Prop :=
  (a = none ∧ len = 0 ∧ cap = 0 ∧ zs = []) ∨
  ∃ x, a = some x ∧ len ≤ cap ∧ cap ≤ maxLen ∧ zs.length = cap ∧ (∀ i, i < zs.length → w.cell? (x.add i) = some (.int k (zs.getD i 0))) ∧ ∀ n ∈ zs, (Lit.int k n).wf = true
set_option maxRecDepth 100000 in
theorem lifted (os : Os) (started : os.Started) (H : Type) (enc : TypeId × Value → H) :
    ReturnsInHanded {} Tryz.checked os 3 .any (fun w args => (Rows.fnAssertionsSpec.pre enc Tryz.prog Tryz.f3 Rows.fnAssertionsRow.domain false w args ∧ laidMetH Tryz.prog Rows.fnAssertionsRow.laid w) ∧ sizedMet enc Tryz.prog Tryz.f3 (OpenSpec.ofChange Rows.fnAssertionsSpec) false w args) (Rows.fnAssertionsSpec.post enc Tryz.prog Tryz.f3 false true false false) := by
  refine returnsInHanded_of_change_and (C := Tryz.checked) (X := fun w _ => laidMetH Tryz.prog Rows.fnAssertionsRow.laid w) (fun _ _ _ hh h => h.of_heap hh) own started (by kernel_rfl) Tryz.func3
    (ChangeSpec.witness_shaped (enc := enc) (C := Tryz.checked) (os := os) (X := fun w _ => laidMetH Tryz.prog Rows.fnAssertionsRow.laid w) false (World.laidAll Tryz.prog os Rows.fnAssertionsRow.laid) #[.slice none 0 0] 8 (World.laidAll_os _ _ _)
      (World.shaped_of_ZipB (by kernel_rfl) (by kernel_rfl)) (by kernel_rfl) (by kernel_rfl) (by kernel_rfl)
      (by rw [MakeChecks.laidMetH_plain _ _ _ (by kernel_rfl)]; exact laidMet_laidAll _ (by kernel_rfl) (by kernel_rfl))) ?_
  intro W base args ds gs before hval0 hW hcnd hsz0 hlaid _
  have hsz : (DataW.weightsEach Tryz.prog (Tryz.f3.params.toList ++ Rows.fnAssertionsSpec.plain.varTypes Tryz.prog) (ds ++ gs)).all (· ≤ reachBytes) = true := hsz0
  have hval : ∀ (j : Nat) t v, Tryz.f3.params[j]? = some t → args[j]? = some v → Value.okWide Tryz.prog W .any base t v := hval0
  have hW' := hW
  obtain ⟨p, q, hA0, hV, rfl, hfz, hnd⟩ := hW
  have hA : DataW.TrodAll enc Tryz.prog W 0 (fun _ => true) true Tryz.f3.params.toList args.toList ds p := hA0
  rw [Tryz.params3] at hA hval hsz
  obtain ⟨v0, vs0, d0, ds0, p0, q0, hargs, rfl, rfl, h0, r0⟩ := trodAll_cons hA
  obtain ⟨rfl, rfl, rfl⟩ := trodAll_nil r0
  obtain rfl : args = #[v0] := by cases args; simp_all
  obtain ⟨rfl, rfl⟩ := trodVars_none hV
  obtain ⟨a0, len0, cap0, rfl⟩ := okWide_slice Tryz.underlying22 (hval 0 22 v0 rfl rfl)
  have k0 := h0
  have lt0 : ∀ x ∈ p0, x.block < W.heap.size := by obtain ⟨m, hm⟩ := k0; exact DataW.trod_lt m _ _ _ hm
  obtain ⟨z0, w0⟩ : ∃ zs, IsRow .u8 W a0 len0 cap0 zs := by
    obtain ⟨fuel, hf⟩ := h0
    rcases open_ints Tryz.underlying22 Tryz.underlying5 (by kernel_rfl) hf with ⟨hcs, _⟩ | ⟨x, l, c, zs, hcs, _, hl, hm, hz, _, hcell, hwz⟩
    · simp [Value.cells] at hcs
      obtain ⟨rfl, rfl, rfl⟩ := hcs
      exact ⟨[], .inl ⟨rfl, rfl, rfl, rfl⟩⟩
    · simp [Value.cells] at hcs
      obtain ⟨rfl, rfl, rfl⟩ := hcs
      exact ⟨zs, .inr ⟨_, rfl, hl, hm, by simpa using hz, hcell, hwz⟩⟩
  have y0 : len0 * 1 ≤ 140737488351232 := Go.Proofs.YtogcoedmagoogaaGreatDoorW.PrintWords.sized_ints hsz (j := 0) (t := 22) rfl rfl Tryz.underlying22 Tryz.underlying5 (by kernel_rfl) (by kernel_rfl) h0
  clear hA0 hval0 hsz0 hsz
  have star_err : "*" ++ "errors.errorString" = "*errors.errorString" := by decide
  have htab0 : Lib.TabIs Tryz.prog W "internal/strconv.uint64pow10" .u64 Lib.pow10Tab := by
    have h2 : laidMet Tryz.prog Rows.fnAssertionsRow.laid W := by
      have h1 := hlaid
      rw [MakeChecks.laidMetH_plain _ _ _ (by kernel_rfl)] at h1
      exact h1
    have h3 := h2.filter (fun x => x.1 == "internal/strconv.uint64pow10")
    have e3 : (Rows.fnAssertionsRow.laid.filter fun x => x.1 == "internal/strconv.uint64pow10") = [("internal/strconv.uint64pow10", Lib.tabData .u64 Lib.pow10Tab)] := by kernel_rfl
    rw [e3] at h3
    exact Lib.tabIs_of_head (g := 3) (t := 149) (e := 134) (n := 20) (by kernel_rfl) (by kernel_rfl) Tryz.underlying149 Tryz.underlying134 (by kernel_rfl) (by kernel_rfl) h3
  have htab1 : Man.Err W "strconv.ErrSyntax" := by
    have h2 : laidMet Tryz.prog Rows.fnAssertionsRow.laid W := by
      have h1 := hlaid
      rw [MakeChecks.laidMetH_plain _ _ _ (by kernel_rfl)] at h1
      exact h1
    have h3 := h2.filter (fun x => x.1 == "strconv.ErrSyntax")
    have e3 : (Rows.fnAssertionsRow.laid.filter fun x => x.1 == "strconv.ErrSyntax") = [("strconv.ErrSyntax", .iface "*errors.errorString" (.ptr (.agg [.lit (.string [105, 110, 118, 97, 108, 105, 100, 32, 115, 121, 110, 116, 97, 120])])))] := by kernel_rfl
    rw [e3] at h3
    obtain ⟨a, s, hv, _⟩ := laid_sentinel (g := 1) (ti := 101) (tp := 146) (te := 148) (ts := 9) h3 (by kernel_rfl) (by kernel_rfl) Tryz.underlying101 (fun u h => typeName_ptr_named (nm := "errors.errorString") (by rw [star_err]; kernel_rfl) (by kernel_rfl) (by decide) u (by rw [star_err]; exact h)) Tryz.underlying146 Tryz.underlying148 rfl rfl Tryz.underlying9 (by kernel_rfl) (by kernel_rfl)
    exact ⟨_, _, hv⟩
  have htab2 : Man.Err W "strconv.ErrRange" := by
    have h2 : laidMet Tryz.prog Rows.fnAssertionsRow.laid W := by
      have h1 := hlaid
      rw [MakeChecks.laidMetH_plain _ _ _ (by kernel_rfl)] at h1
      exact h1
    have h3 := h2.filter (fun x => x.1 == "strconv.ErrRange")
    have e3 : (Rows.fnAssertionsRow.laid.filter fun x => x.1 == "strconv.ErrRange") = [("strconv.ErrRange", .iface "*errors.errorString" (.ptr (.agg [.lit (.string [118, 97, 108, 117, 101, 32, 111, 117, 116, 32, 111, 102, 32, 114, 97, 110, 103, 101])])))] := by kernel_rfl
    rw [e3] at h3
    obtain ⟨a, s, hv, _⟩ := laid_sentinel (g := 2) (ti := 101) (tp := 146) (te := 148) (ts := 9) h3 (by kernel_rfl) (by kernel_rfl) Tryz.underlying101 (fun u h => typeName_ptr_named (nm := "errors.errorString") (by rw [star_err]; kernel_rfl) (by kernel_rfl) (by decide) u (by rw [star_err]; exact h)) Tryz.underlying146 Tryz.underlying148 rfl rfl Tryz.underlying9 (by kernel_rfl) (by kernel_rfl)
    exact ⟨_, _, hv⟩
  have htab : Man.Tab W := ⟨htab0, htab1, htab2⟩
  refine (PFnAssertions.laws_FnAssertions.walk (ht_ := htab) Pure.FnAssertions a0 len0 cap0 z0 W w0 y0).mono fun e W' ⟨he, bel⟩ => ?_
  subst he
  exact ⟨_, rfl, _, _, _, [], _, [], hW', trodAll_mk1 (shut_bool Tryz.underlying4 _), (trodAll_cons_mk (Below.trod laidOut (by kernel_rfl) (of_decide_eq_true (by kernel_rfl)) k0 bel lt0) trodAll_mk0), rfl, bel.frame _, fun h => by cases h⟩
theorem over : Rows.fnAssertionsRow.holds Tryz.pinned (OpenSpec.ofChange Rows.fnAssertionsSpec) :=
  OpenClaim.holds_of_wide 3 Tryz.f3 rfl rfl rfl rfl rfl rfl rfl ⟨rfl, rfl, rfl, rfl, rfl⟩ rfl rfl rfl rfl rfl (by kernel_rfl) Tryz.func3 (by kernel_rfl)
    (of_decide_eq_true (by kernel_rfl)) (by unfold Func.isWrapper; first | (rw [if_pos (by decide +kernel)]; kernel_rfl) | (rw [if_neg (by decide +kernel)]; exact ⟨rfl, rfl⟩))
    (fun os started H enc _ => lifted os started H enc)
theorem proved : Rows.FnAssertionsSaid := over
theorem card_holds : Rows.FnAssertionsCardSaid :=
  Claim7.holds_tied_plain_at .later [] [.data, .data, .data, .data, .sentinel, .sentinel, .pinned] true (true, "4fe72e79e550c69fada28e644398aa7990b94de0ce96a26e7638290c237d0d65") true over (fun _ h => by cases h) (by kernel_rfl) (fun _ h => by cases h) fnAssertions_row_tie rfl ⟨rfl, rfl⟩ (by kernel_rfl) rfl
    (fun f fn hf hfn => by
      obtain rfl : f = 3 := Option.some.inj ((show Tryz.prog.funcNamed "loop.example/g00581/laws.FnAssertions" = some 3 by kernel_rfl).symm.trans hf) |>.symm
      obtain rfl : fn = Tryz.f3 := (Option.some.inj (Tryz.func3.symm.trans hfn)).symm
      exact ⟨by kernel_rfl, fun j t ht => by
        rw [Tryz.params3] at ht
        have hm : t ∈ [22] := by first | (simpa using Array.mem_of_getElem? ht) | (have h_ := Array.mem_of_getElem? ht; simp at h_ ⊢; omega)
        have hall : ([22].all fun u => !Tryz.prog.wantsStandIn u) = true := by kernel_rfl
        exact (show Tryz.prog.wantsStandIn t = false by simpa using List.all_eq_true.1 hall t hm)⟩)
    (by kernel_rfl)
end Go.Proofs.YtogcoedmagoogaaGreatDoor.fnAssertions
namespace Go.Proofs.YtogcoedmagoogaaGreatDoor
/-- The tied card, under a short name, for the claim. -/
theorem fnAssertions_holds : Rows.FnAssertionsCardSaid := fnAssertions.card_holds
#print axioms fnAssertions_holds
end Go.Proofs.YtogcoedmagoogaaGreatDoor
