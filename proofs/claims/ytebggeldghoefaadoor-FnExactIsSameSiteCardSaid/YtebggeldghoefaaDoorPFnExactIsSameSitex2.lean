/- Functions and contracts of a law's callees, written by a program of this session (a changed print): each contract says that the machine's call answers what the plain function says. Conditions: the plain function's own answer. -/
import Derived.Test.YtebggeldghoefaaDoorPFnExactIsSameSitex0
import Derived.Test.YtebggeldghoefaaDoorPFnExactIsSameSitex1
namespace Go.Proofs.YtebggeldghoefaaDoor.PFnExactIsSameSite
open Go.RowKit Go.Proofs.YtebggeldghoefaaDoorW.PrintWords Go.Proofs.YtebggeldghoefaaDoorW.PrintLast Go.Proofs.YtebggeldghoefaaDoorW.PrintMore
attribute [local go_sem] max2_int min2_int max_two min_two max_three min_three max_four min_four   -- for this text's walks alone
set_option linter.unusedVariables false
set_option linter.unusedSimpArgs false

/-! ### spec_IsOrigin: function 11 -/
def spec_IsOrigin.f (k : Nat) (a0_0 : Bool) (a0_1 : ByteArray) (a0_2 : Int) : Option (Bool) := (spec_IsHost.f k a0_1).bind fun t121 => (if t121 = true then ((spec_l1In.f a0_2 1 65535).bind fun t122 => (some t122)) else (some false))
theorem spec_IsOrigin.mono : ∀ a0 a1 a2 k, LeO (spec_IsOrigin.f k a0 a1 a2) (spec_IsOrigin.f (k + 1) a0 a1 a2) := by
  intro a0 a1 a2 k
  unfold spec_IsOrigin.f
  repeat' first
      | (with_reducible exact spec_IsHost.mono _ _)
      | (with_reducible exact LeO.refl _)
      | (with_reducible exact LeO.none _)
      | (with_reducible refine LeO.ite ?_ ?_)
      | (with_reducible refine LeO.bind ?_ (fun _ => ?_))
      | exact spec_IsHost.mono _ _
      | exact LeO.none _
      | refine LeO.ite ?_ ?_
      | refine LeO.bind ?_ (fun _ => ?_)
set_option maxHeartbeats 8000000 in
set_option maxRecDepth 100000 in
theorem spec_IsOrigin.calls (k : Nat) (a0_0 : Bool) (a0_1 : ByteArray) (a0_2 : Int) (r : Bool) (w : World) (h : spec_IsOrigin.f k a0_0 a0_1 a0_2 = some r) :
    Calls Tryd.prog 11 #[.agg #[.bool a0_0, .string a0_1, .int .i64 a0_2]] w fun e w' => e = .returned (.bool r) ∧ Below w.heap.size w w' := by
  have hu27 := Tryd.underlying27
  have HB := Aside0.mk (Below.refl w.heap.size w)
  have H : ((spec_IsHost.f k a0_1).bind fun t121 => (if t121 = true then ((spec_l1In.f a0_2 1 65535).bind fun t122 => (some t122)) else (some false))) = some r := h
  clear h
  replace H := Option.bind_eq_some_iff.mp H
  obtain ⟨t121, A20, H⟩ := H
  replace H : (if t121 = true then ((spec_l1In.f a0_2 1 65535).bind fun t122 => (some t122)) else (some false)) = some r := H
  have A2 := Aside0.mk A20
  clear A20
  by_cases c3 : t121 = true
  · subst c3
    have H1 : ((spec_l1In.f a0_2 1 65535).bind fun t122 => (some t122)) = some r := by rw [if_pos rfl] at H; exact H
    clear H
    have H := H1
    clear H1
    replace H := Option.bind_eq_some_iff.mp H
    obtain ⟨t122, A40, H⟩ := H
    replace H : (some t122) = some r := H
    have A4 := Aside0.mk A40
    clear A40
    obtain rfl := Option.some.inj H
    go_enter Tryd.func11, Tryd.ntmps11
    go_wp2_with (first | ((with_reducible refine gate_dst (N := 1) rfl ?_); refine box_event ?hg (N := 1) ?hd (cs := #[.bool a0_0, .string a0_1, .int .i64 a0_2]) (t := 27) ?hr ?_; (case hd => rfl); (case hg => rfl); (case hr => first | (go_simp; done) | (go_simp; rfl)); intro gb120 hg w5 hbox hb; have n0_ := Aside0.mk (below_step (by repeat (first | (with_reducible first | exact HB.out | apply below_alloc | apply pw_below_drewN | apply below_drew1) | exact HB.out)) hb); have n1_ := Aside0.mk (hbox); have n2_ := Aside0.mk ((by rw [hg]; exact (below_size (by repeat (first | (with_reducible first | exact HB.out | apply below_alloc | apply pw_below_drewN | apply below_drew1) | exact HB.out))) : w.heap.size ≤ gb120)); have n3_ := Aside0.mk ((by rw [hg]; exact (below_size (by repeat (first | (with_reducible first | exact HB.out | apply below_alloc | apply pw_below_drewN | apply below_drew1) | exact HB.out))) : w.heap.size ≤ gb120)); clear HB; have HB := n0_; have BK120 := n1_; have GW120 := n2_; have GE120 := n3_; clear n0_ n1_ n2_ n3_; clear hb hbox hg; have hcz6_0 : w5.cell? ⟨gb120, 0, none⟩ = some (.bool a0_0) := (blk_cell BK120.out 0).trans rfl; have hcz6_1 : w5.cell? ⟨gb120, 1, none⟩ = some (.string a0_1) := (blk_cell BK120.out 1).trans rfl; have hcz6_2 : w5.cell? ⟨gb120, 2, none⟩ = some (.int .i64 a0_2) := (blk_cell BK120.out 2).trans rfl; have hfz6_0 := blk_frozen BK120.out 0; have hfz6_1 := blk_frozen BK120.out 1; have hfz6_2 := blk_frozen BK120.out 2) | ((with_reducible refine gate_callee (f := 8) rfl ?_); refine goesL_ (some 5) rfl rfl Tryd.func8 (by kernel_rfl) rfl #[.string a0_1] rfl (by (try simp only [List.map_toArray, List.map_cons, List.map_nil]); first | done | rfl | (simp only [List.length_drop, List.length_take]; rfl)) ?_; (with_reducible refine (spec_IsHost.calls k a0_1 true _ A2.out).mono ?_); rintro e w7 ⟨rfl, hb⟩; refine ⟨_, rfl, ?_⟩; have n0_ := Aside0.mk (blk_below (g := gb120) (o := .cells #[.bool a0_0, .string a0_1, .int .i64 a0_2] 27 (0, 0)) (by (with_reducible repeat (first | refine blk_drewN ?_ _ | refine blk_drew ?_ | refine blk_alloc ?_ _)); exact BK120.out) hb); have n1_ := Aside0.mk (below_step (by repeat (first | (with_reducible first | exact HB.out | apply below_alloc | apply pw_below_drewN | apply below_drew1 | refine below_set ?_ GE120.out) | exact HB.out)) hb); clear BK120; clear HB; have BK120 := n0_; have HB := n1_; clear n0_ n1_; (try clear hb); (try clear hb2); (try clear hk); (try clear hi); have hcz8_0 : w7.cell? ⟨gb120, 0, none⟩ = some (.bool a0_0) := (blk_cell BK120.out 0).trans rfl; have hcz8_1 : w7.cell? ⟨gb120, 1, none⟩ = some (.string a0_1) := (blk_cell BK120.out 1).trans rfl; have hcz8_2 : w7.cell? ⟨gb120, 2, none⟩ = some (.int .i64 a0_2) := (blk_cell BK120.out 2).trans rfl; have hfz8_0 := blk_frozen BK120.out 0; have hfz8_1 := blk_frozen BK120.out 1; have hfz8_2 := blk_frozen BK120.out 2) | (go_at_call 23; (with_reducible refine (spec_l1In.calls a0_2 1 65535 t122 _ A4.out).mono ?_); rintro e w' ⟨rfl, ⟨nd, rfl⟩⟩))
    go_ret
    exact ⟨by first | rfl | (simp [errW_none, errW_some] <;> rfl) | (simp [*, errW_none, errW_some] <;> rfl), by repeat (first | (with_reducible first | exact HB.out | apply below_alloc | apply pw_below_drewN | apply below_drew1 | refine below_set ?_ GE120.out) | exact HB.out)⟩
  · replace c3 := Bool.eq_false_iff.mpr c3
    subst c3
    have H1 : (some false) = some r := by rw [if_neg (show ¬ (false = true) by decide)] at H; exact H
    clear H
    have H := H1
    clear H1
    obtain rfl := Option.some.inj H
    go_enter Tryd.func11, Tryd.ntmps11
    go_wp2_with (first | ((with_reducible refine gate_dst (N := 1) rfl ?_); refine box_event ?hg (N := 1) ?hd (cs := #[.bool a0_0, .string a0_1, .int .i64 a0_2]) (t := 27) ?hr ?_; (case hd => rfl); (case hg => rfl); (case hr => first | (go_simp; done) | (go_simp; rfl)); intro gb120 hg w9 hbox hb; have n0_ := Aside0.mk (below_step (by repeat (first | (with_reducible first | exact HB.out | apply below_alloc | apply pw_below_drewN | apply below_drew1) | exact HB.out)) hb); have n1_ := Aside0.mk (hbox); have n2_ := Aside0.mk ((by rw [hg]; exact (below_size (by repeat (first | (with_reducible first | exact HB.out | apply below_alloc | apply pw_below_drewN | apply below_drew1) | exact HB.out))) : w.heap.size ≤ gb120)); have n3_ := Aside0.mk ((by rw [hg]; exact (below_size (by repeat (first | (with_reducible first | exact HB.out | apply below_alloc | apply pw_below_drewN | apply below_drew1) | exact HB.out))) : w.heap.size ≤ gb120)); clear HB; have HB := n0_; have BK120 := n1_; have GW120 := n2_; have GE120 := n3_; clear n0_ n1_ n2_ n3_; clear hb hbox hg; have hcz10_0 : w9.cell? ⟨gb120, 0, none⟩ = some (.bool a0_0) := (blk_cell BK120.out 0).trans rfl; have hcz10_1 : w9.cell? ⟨gb120, 1, none⟩ = some (.string a0_1) := (blk_cell BK120.out 1).trans rfl; have hcz10_2 : w9.cell? ⟨gb120, 2, none⟩ = some (.int .i64 a0_2) := (blk_cell BK120.out 2).trans rfl; have hfz10_0 := blk_frozen BK120.out 0; have hfz10_1 := blk_frozen BK120.out 1; have hfz10_2 := blk_frozen BK120.out 2) | ((with_reducible refine gate_callee (f := 8) rfl ?_); refine goesL_ (some 5) rfl rfl Tryd.func8 (by kernel_rfl) rfl #[.string a0_1] rfl (by (try simp only [List.map_toArray, List.map_cons, List.map_nil]); first | done | rfl | (simp only [List.length_drop, List.length_take]; rfl)) ?_; (with_reducible refine (spec_IsHost.calls k a0_1 false _ A2.out).mono ?_); rintro e w11 ⟨rfl, hb⟩; refine ⟨_, rfl, ?_⟩; have n0_ := Aside0.mk (blk_below (g := gb120) (o := .cells #[.bool a0_0, .string a0_1, .int .i64 a0_2] 27 (0, 0)) (by (with_reducible repeat (first | refine blk_drewN ?_ _ | refine blk_drew ?_ | refine blk_alloc ?_ _)); exact BK120.out) hb); have n1_ := Aside0.mk (below_step (by repeat (first | (with_reducible first | exact HB.out | apply below_alloc | apply pw_below_drewN | apply below_drew1 | refine below_set ?_ GE120.out) | exact HB.out)) hb); clear BK120; clear HB; have BK120 := n0_; have HB := n1_; clear n0_ n1_; (try clear hb); (try clear hb2); (try clear hk); (try clear hi)))
    go_ret
    exact ⟨by first | rfl | (simp [errW_none, errW_some] <;> rfl) | (simp [*, errW_none, errW_some] <;> rfl), by repeat (first | (with_reducible first | exact HB.out | apply below_alloc | apply pw_below_drewN | apply below_drew1 | refine below_set ?_ GE120.out) | exact HB.out)⟩

/-! ### spec_Registrable: function 16 -/
def spec_Registrable.f (k : Nat) (a0 : ByteArray) : Option (ByteArray) := (spec_IsHost.f k a0).bind fun t123 => (if t123 = true then ((spec_l9Labels.f k a0).bind fun t124 => (if (t124.length : Int) < 2 then (some a0) else (if 0 ≤ (wrap64 ((t124.length : Int) - 2)) then (if (wrap64 ((t124.length : Int) - 2)) < (t124.length : Int) then (if (rdOf ByteArray.empty t124 (wrap64 ((t124.length : Int) - 2))).size + 1 ≤ 9223372036854775807 then (if 0 ≤ (wrap64 ((t124.length : Int) - 1)) then (if (wrap64 ((t124.length : Int) - 1)) < (t124.length : Int) then (if ((rdOf ByteArray.empty t124 (wrap64 ((t124.length : Int) - 2))) ++ (⟨#[46]⟩ : ByteArray)).size + (rdOf ByteArray.empty t124 (wrap64 ((t124.length : Int) - 1))).size ≤ 9223372036854775807 then (some (((rdOf ByteArray.empty t124 (wrap64 ((t124.length : Int) - 2))) ++ (⟨#[46]⟩ : ByteArray)) ++ (rdOf ByteArray.empty t124 (wrap64 ((t124.length : Int) - 1))))) else (none)) else (none)) else (none)) else (none)) else (none)) else (none)))) else (some (⟨#[]⟩ : ByteArray)))
theorem spec_Registrable.mono : ∀ a0 k, LeO (spec_Registrable.f k a0) (spec_Registrable.f (k + 1) a0) := by
  intro a0 k
  unfold spec_Registrable.f
  repeat' first
      | (with_reducible exact spec_IsHost.mono _ _)
      | (with_reducible exact spec_l9Labels.mono _ _)
      | (with_reducible exact LeO.refl _)
      | (with_reducible exact LeO.none _)
      | (with_reducible refine LeO.ite ?_ ?_)
      | (with_reducible refine LeO.bind ?_ (fun _ => ?_))
      | exact spec_IsHost.mono _ _
      | exact spec_l9Labels.mono _ _
      | exact LeO.none _
      | refine LeO.ite ?_ ?_
      | refine LeO.bind ?_ (fun _ => ?_)
set_option maxHeartbeats 8000000 in
set_option maxRecDepth 100000 in
theorem spec_Registrable.calls (k : Nat) (a0 : ByteArray) (r : ByteArray) (w : World) (h : spec_Registrable.f k a0 = some r) :
    Calls Tryd.prog 16 #[.string a0] w fun e w' => e = .returned (.string r) ∧ Below w.heap.size w w' := by
  have HB := Aside0.mk (Below.refl w.heap.size w)
  have H : ((spec_IsHost.f k a0).bind fun t123 => (if t123 = true then ((spec_l9Labels.f k a0).bind fun t124 => (if (t124.length : Int) < 2 then (some a0) else (if 0 ≤ (wrap64 ((t124.length : Int) - 2)) then (if (wrap64 ((t124.length : Int) - 2)) < (t124.length : Int) then (if (rdOf ByteArray.empty t124 (wrap64 ((t124.length : Int) - 2))).size + 1 ≤ 9223372036854775807 then (if 0 ≤ (wrap64 ((t124.length : Int) - 1)) then (if (wrap64 ((t124.length : Int) - 1)) < (t124.length : Int) then (if ((rdOf ByteArray.empty t124 (wrap64 ((t124.length : Int) - 2))) ++ (⟨#[46]⟩ : ByteArray)).size + (rdOf ByteArray.empty t124 (wrap64 ((t124.length : Int) - 1))).size ≤ 9223372036854775807 then (some (((rdOf ByteArray.empty t124 (wrap64 ((t124.length : Int) - 2))) ++ (⟨#[46]⟩ : ByteArray)) ++ (rdOf ByteArray.empty t124 (wrap64 ((t124.length : Int) - 1))))) else (none)) else (none)) else (none)) else (none)) else (none)) else (none)))) else (some (⟨#[]⟩ : ByteArray)))) = some r := h
  clear h
  replace H := Option.bind_eq_some_iff.mp H
  obtain ⟨t123, A20, H⟩ := H
  replace H : (if t123 = true then ((spec_l9Labels.f k a0).bind fun t124 => (if (t124.length : Int) < 2 then (some a0) else (if 0 ≤ (wrap64 ((t124.length : Int) - 2)) then (if (wrap64 ((t124.length : Int) - 2)) < (t124.length : Int) then (if (rdOf ByteArray.empty t124 (wrap64 ((t124.length : Int) - 2))).size + 1 ≤ 9223372036854775807 then (if 0 ≤ (wrap64 ((t124.length : Int) - 1)) then (if (wrap64 ((t124.length : Int) - 1)) < (t124.length : Int) then (if ((rdOf ByteArray.empty t124 (wrap64 ((t124.length : Int) - 2))) ++ (⟨#[46]⟩ : ByteArray)).size + (rdOf ByteArray.empty t124 (wrap64 ((t124.length : Int) - 1))).size ≤ 9223372036854775807 then (some (((rdOf ByteArray.empty t124 (wrap64 ((t124.length : Int) - 2))) ++ (⟨#[46]⟩ : ByteArray)) ++ (rdOf ByteArray.empty t124 (wrap64 ((t124.length : Int) - 1))))) else (none)) else (none)) else (none)) else (none)) else (none)) else (none)))) else (some (⟨#[]⟩ : ByteArray))) = some r := H
  have A2 := Aside0.mk A20
  clear A20
  by_cases c3 : t123 = true
  · subst c3
    have H1 : ((spec_l9Labels.f k a0).bind fun t124 => (if (t124.length : Int) < 2 then (some a0) else (if 0 ≤ (wrap64 ((t124.length : Int) - 2)) then (if (wrap64 ((t124.length : Int) - 2)) < (t124.length : Int) then (if (rdOf ByteArray.empty t124 (wrap64 ((t124.length : Int) - 2))).size + 1 ≤ 9223372036854775807 then (if 0 ≤ (wrap64 ((t124.length : Int) - 1)) then (if (wrap64 ((t124.length : Int) - 1)) < (t124.length : Int) then (if ((rdOf ByteArray.empty t124 (wrap64 ((t124.length : Int) - 2))) ++ (⟨#[46]⟩ : ByteArray)).size + (rdOf ByteArray.empty t124 (wrap64 ((t124.length : Int) - 1))).size ≤ 9223372036854775807 then (some (((rdOf ByteArray.empty t124 (wrap64 ((t124.length : Int) - 2))) ++ (⟨#[46]⟩ : ByteArray)) ++ (rdOf ByteArray.empty t124 (wrap64 ((t124.length : Int) - 1))))) else (none)) else (none)) else (none)) else (none)) else (none)) else (none)))) = some r := by rw [if_pos rfl] at H; exact H
    clear H
    have H := H1
    clear H1
    replace H := Option.bind_eq_some_iff.mp H
    obtain ⟨t124, A40, H⟩ := H
    replace H : (if (t124.length : Int) < 2 then (some a0) else (if 0 ≤ (wrap64 ((t124.length : Int) - 2)) then (if (wrap64 ((t124.length : Int) - 2)) < (t124.length : Int) then (if (rdOf ByteArray.empty t124 (wrap64 ((t124.length : Int) - 2))).size + 1 ≤ 9223372036854775807 then (if 0 ≤ (wrap64 ((t124.length : Int) - 1)) then (if (wrap64 ((t124.length : Int) - 1)) < (t124.length : Int) then (if ((rdOf ByteArray.empty t124 (wrap64 ((t124.length : Int) - 2))) ++ (⟨#[46]⟩ : ByteArray)).size + (rdOf ByteArray.empty t124 (wrap64 ((t124.length : Int) - 1))).size ≤ 9223372036854775807 then (some (((rdOf ByteArray.empty t124 (wrap64 ((t124.length : Int) - 2))) ++ (⟨#[46]⟩ : ByteArray)) ++ (rdOf ByteArray.empty t124 (wrap64 ((t124.length : Int) - 1))))) else (none)) else (none)) else (none)) else (none)) else (none)) else (none))) = some r := H
    have A4 := Aside0.mk A40
    clear A40
    by_cases c5 : (t124.length : Int) < 2
    · rw [if_pos c5] at H
      have c5b0 : decide ((t124.length : Int) < 2) = true := decide_eq_true c5
      have c5b1 : decide (t124.length < 2) = true := decide_eq_true (by omega)
      clear c5
      obtain rfl := Option.some.inj H
      go_enter Tryd.func16, Tryd.ntmps16
      go_wp2_with (first | (go_at_call 8; (with_reducible refine (spec_IsHost.calls k a0 true _ A2.out).mono ?_); rintro e w6 ⟨rfl, hb⟩; have n0_ := Aside0.mk (below_step (by repeat (first | (with_reducible first | exact HB.out | apply below_alloc | apply pw_below_drewN | apply below_drew1) | exact HB.out)) hb); clear HB; have HB := n0_; clear n0_; (try clear hb); (try clear hb2); (try clear hk); (try clear hi)) | (go_at_call 20; (with_reducible refine (spec_l9Labels.calls k a0 t124 _ A4.out).mono ?_); rintro e w7 ⟨v125, rfl, ho0, hb⟩; have n0_ := Aside0.mk (Kd.R_lower ho0 (below_size (by repeat (first | (with_reducible first | exact HB.out | apply below_alloc | apply pw_below_drewN | apply below_drew1) | exact HB.out)))); have n1_ := Aside0.mk (below_step (by repeat (first | (with_reducible first | exact HB.out | apply below_alloc | apply pw_below_drewN | apply below_drew1) | exact HB.out)) hb); clear HB; have HO126 := n0_; have HB := n1_; clear n0_ n1_; (try clear hb); (try clear hb2); (try clear hk); (try clear hi); (try clear ho0); obtain ⟨Ao8, co8, eo8⟩ := Kd.R_slice HO126.out; subst eo8))
      repeat (go_quiet (first | (go_at_call 8; (with_reducible refine (spec_IsHost.calls k a0 true _ A2.out).mono ?_); rintro e w6 ⟨rfl, hb⟩; have n0_ := Aside0.mk (below_step (by repeat (first | (with_reducible first | exact HB.out | apply below_alloc | apply pw_below_drewN | apply below_drew1) | exact HB.out)) hb); clear HB; have HB := n0_; clear n0_; (try clear hb); (try clear hb2); (try clear hk); (try clear hi)) | (go_at_call 20; (with_reducible refine (spec_l9Labels.calls k a0 t124 _ A4.out).mono ?_); rintro e w7 ⟨v125, rfl, ho0, hb⟩; have n0_ := Aside0.mk (Kd.R_lower ho0 (below_size (by repeat (first | (with_reducible first | exact HB.out | apply below_alloc | apply pw_below_drewN | apply below_drew1) | exact HB.out)))); have n1_ := Aside0.mk (below_step (by repeat (first | (with_reducible first | exact HB.out | apply below_alloc | apply pw_below_drewN | apply below_drew1) | exact HB.out)) hb); clear HB; have HO126 := n0_; have HB := n1_; clear n0_ n1_; (try clear hb); (try clear hb2); (try clear hk); (try clear hi); (try clear ho0); obtain ⟨Ao8, co8, eo8⟩ := Kd.R_slice HO126.out; subst eo8)); try go_wp2_with (first | (go_at_call 8; (with_reducible refine (spec_IsHost.calls k a0 true _ A2.out).mono ?_); rintro e w6 ⟨rfl, hb⟩; have n0_ := Aside0.mk (below_step (by repeat (first | (with_reducible first | exact HB.out | apply below_alloc | apply pw_below_drewN | apply below_drew1) | exact HB.out)) hb); clear HB; have HB := n0_; clear n0_; (try clear hb); (try clear hb2); (try clear hk); (try clear hi)) | (go_at_call 20; (with_reducible refine (spec_l9Labels.calls k a0 t124 _ A4.out).mono ?_); rintro e w7 ⟨v125, rfl, ho0, hb⟩; have n0_ := Aside0.mk (Kd.R_lower ho0 (below_size (by repeat (first | (with_reducible first | exact HB.out | apply below_alloc | apply pw_below_drewN | apply below_drew1) | exact HB.out)))); have n1_ := Aside0.mk (below_step (by repeat (first | (with_reducible first | exact HB.out | apply below_alloc | apply pw_below_drewN | apply below_drew1) | exact HB.out)) hb); clear HB; have HO126 := n0_; have HB := n1_; clear n0_ n1_; (try clear hb); (try clear hb2); (try clear hk); (try clear hi); (try clear ho0); obtain ⟨Ao8, co8, eo8⟩ := Kd.R_slice HO126.out; subst eo8)))
      go_ret
      exact ⟨by first | rfl | (simp [errW_none, errW_some] <;> rfl) | (simp [*, errW_none, errW_some] <;> rfl), by repeat (first | (with_reducible first | exact HB.out | apply below_alloc | apply pw_below_drewN | apply below_drew1) | exact HB.out)⟩
    · rw [if_neg c5] at H
      have c5b0 : decide ((t124.length : Int) < 2) = false := decide_eq_false c5
      have c5b1 : decide (t124.length < 2) = false := decide_eq_false (by omega)
      clear c5
      obtain ⟨ji9, hji9⟩ : ∃ j_ : Int, (wrap64 ((t124.length : Int) - 2)) = j_ := ⟨_, rfl⟩
      replace H : (if 0 ≤ (ji9) then (if (ji9) < (t124.length : Int) then (if (rdOf ByteArray.empty t124 (ji9)).size + 1 ≤ 9223372036854775807 then (if 0 ≤ (wrap64 ((t124.length : Int) - 1)) then (if (wrap64 ((t124.length : Int) - 1)) < (t124.length : Int) then (if ((rdOf ByteArray.empty t124 (ji9)) ++ (⟨#[46]⟩ : ByteArray)).size + (rdOf ByteArray.empty t124 (wrap64 ((t124.length : Int) - 1))).size ≤ 9223372036854775807 then (some (((rdOf ByteArray.empty t124 (ji9)) ++ (⟨#[46]⟩ : ByteArray)) ++ (rdOf ByteArray.empty t124 (wrap64 ((t124.length : Int) - 1))))) else (none)) else (none)) else (none)) else (none)) else (none)) else (none)) = some r := by first | (rw [hji9] at H; exact H) | (simp only [hji9] at H ⊢; exact H)
      (try rw [hji9] at A2)
      (try rw [hji9] at A4)
      have hji9w : (IntKind.i64.wrap ((t124.length : Int) - 2)) = ji9 := (i64_w _).trans hji9
      by_cases c10 : 0 ≤ (ji9)
      · rw [if_pos c10] at H
        have c10b0 : decide (0 ≤ (ji9)) = true := decide_eq_true c10
        clear c10
        by_cases c11 : (ji9) < (t124.length : Int)
        · rw [if_pos c11] at H
          have c11b0 : decide ((ji9) < (t124.length : Int)) = true := decide_eq_true c11
          clear c11
          by_cases c12 : (rdOf ByteArray.empty t124 (ji9)).size + 1 ≤ 9223372036854775807
          · rw [if_pos c12] at H
            have c12b0 := eq_true c12
            have c12b1 : decide ((rdOf ByteArray.empty t124 (ji9)).size + 1 ≤ 9223372036854775807) = true := decide_eq_true c12
            try have c12b2 : (9223372036854775807 < (rdOf ByteArray.empty t124 (ji9)).size + 1) = False := eq_false (Nat.not_lt.2 c12)
            obtain ⟨ji13, hji13⟩ : ∃ j_ : Int, (wrap64 ((t124.length : Int) - 1)) = j_ := ⟨_, rfl⟩
            replace H : (if 0 ≤ (ji13) then (if (ji13) < (t124.length : Int) then (if ((rdOf ByteArray.empty t124 (ji9)) ++ (⟨#[46]⟩ : ByteArray)).size + (rdOf ByteArray.empty t124 (ji13)).size ≤ 9223372036854775807 then (some (((rdOf ByteArray.empty t124 (ji9)) ++ (⟨#[46]⟩ : ByteArray)) ++ (rdOf ByteArray.empty t124 (ji13)))) else (none)) else (none)) else (none)) = some r := by first | (rw [hji13] at H; exact H) | (simp only [hji13] at H ⊢; exact H)
            (try rw [hji13] at A2)
            (try rw [hji13] at A4)
            have hji13w : (IntKind.i64.wrap ((t124.length : Int) - 1)) = ji13 := (i64_w _).trans hji13
            by_cases c14 : 0 ≤ (ji13)
            · rw [if_pos c14] at H
              have c14b0 : decide (0 ≤ (ji13)) = true := decide_eq_true c14
              clear c14
              by_cases c15 : (ji13) < (t124.length : Int)
              · rw [if_pos c15] at H
                have c15b0 : decide ((ji13) < (t124.length : Int)) = true := decide_eq_true c15
                clear c15
                by_cases c16 : ((rdOf ByteArray.empty t124 (ji9)) ++ (⟨#[46]⟩ : ByteArray)).size + (rdOf ByteArray.empty t124 (ji13)).size ≤ 9223372036854775807
                · rw [if_pos c16] at H
                  have c16b0 := eq_true c16
                  have c16b1 : decide (((rdOf ByteArray.empty t124 (ji9)) ++ (⟨#[46]⟩ : ByteArray)).size + (rdOf ByteArray.empty t124 (ji13)).size ≤ 9223372036854775807) = true := decide_eq_true c16
                  try have c16b2 : (9223372036854775807 < ((rdOf ByteArray.empty t124 (ji9)) ++ (⟨#[46]⟩ : ByteArray)).size + (rdOf ByteArray.empty t124 (ji13)).size) = False := eq_false (Nat.not_lt.2 c16)
                  obtain rfl := Option.some.inj H
                  go_enter Tryd.func16, Tryd.ntmps16
                  go_wp2_with (first | (go_at_call 8; (with_reducible refine (spec_IsHost.calls k a0 true _ A2.out).mono ?_); rintro e w17 ⟨rfl, hb⟩; have n0_ := Aside0.mk (below_step (by repeat (first | (with_reducible first | exact HB.out | apply below_alloc | apply pw_below_drewN | apply below_drew1) | exact HB.out)) hb); clear HB; have HB := n0_; clear n0_; (try clear hb); (try clear hb2); (try clear hk); (try clear hi)) | (go_at_call 20; (with_reducible refine (spec_l9Labels.calls k a0 t124 _ A4.out).mono ?_); rintro e w18 ⟨v125, rfl, ho0, hb⟩; have n0_ := Aside0.mk (Kd.R_lower ho0 (below_size (by repeat (first | (with_reducible first | exact HB.out | apply below_alloc | apply pw_below_drewN | apply below_drew1) | exact HB.out)))); have n1_ := Aside0.mk (below_step (by repeat (first | (with_reducible first | exact HB.out | apply below_alloc | apply pw_below_drewN | apply below_drew1) | exact HB.out)) hb); clear HB; have HO126 := n0_; have HB := n1_; clear n0_ n1_; (try clear hb); (try clear hb2); (try clear hk); (try clear hi); (try clear ho0); obtain ⟨Ao19, co19, eo19⟩ := Kd.R_slice HO126.out; subst eo19; have p127 : 0 ≤ ((ji9) : Int) := of_decide_eq_true (by first | (with_reducible assumption) | assumption); have q127 : (ji9) < (t124.length : Int) := of_decide_eq_true (by first | (with_reducible assumption) | assumption); obtain ⟨ad127, e127, hx127_0⟩ := Kd.at_string (Kd.R_reads' HO126.out).2.2 (ji9) p127 q127; cases e127; replace p127 := eq_true p127; replace q127 := eq_true q127; have p128 : 0 ≤ ((ji13) : Int) := of_decide_eq_true (by first | (with_reducible assumption) | assumption); have q128 : (ji13) < (t124.length : Int) := of_decide_eq_true (by first | (with_reducible assumption) | assumption); obtain ⟨ad128, e128, hx128_0⟩ := Kd.at_string (Kd.R_reads' HO126.out).2.2 (ji13) p128 q128; obtain rfl : ad127 = ad128 := (by injection e128); replace p128 := eq_true p128; replace q128 := eq_true q128))
                  repeat (go_quiet (first | (go_at_call 8; (with_reducible refine (spec_IsHost.calls k a0 true _ A2.out).mono ?_); rintro e w17 ⟨rfl, hb⟩; have n0_ := Aside0.mk (below_step (by repeat (first | (with_reducible first | exact HB.out | apply below_alloc | apply pw_below_drewN | apply below_drew1) | exact HB.out)) hb); clear HB; have HB := n0_; clear n0_; (try clear hb); (try clear hb2); (try clear hk); (try clear hi)) | (go_at_call 20; (with_reducible refine (spec_l9Labels.calls k a0 t124 _ A4.out).mono ?_); rintro e w18 ⟨v125, rfl, ho0, hb⟩; have n0_ := Aside0.mk (Kd.R_lower ho0 (below_size (by repeat (first | (with_reducible first | exact HB.out | apply below_alloc | apply pw_below_drewN | apply below_drew1) | exact HB.out)))); have n1_ := Aside0.mk (below_step (by repeat (first | (with_reducible first | exact HB.out | apply below_alloc | apply pw_below_drewN | apply below_drew1) | exact HB.out)) hb); clear HB; have HO126 := n0_; have HB := n1_; clear n0_ n1_; (try clear hb); (try clear hb2); (try clear hk); (try clear hi); (try clear ho0); obtain ⟨Ao19, co19, eo19⟩ := Kd.R_slice HO126.out; subst eo19; have p127 : 0 ≤ ((ji9) : Int) := of_decide_eq_true (by first | (with_reducible assumption) | assumption); have q127 : (ji9) < (t124.length : Int) := of_decide_eq_true (by first | (with_reducible assumption) | assumption); obtain ⟨ad127, e127, hx127_0⟩ := Kd.at_string (Kd.R_reads' HO126.out).2.2 (ji9) p127 q127; cases e127; replace p127 := eq_true p127; replace q127 := eq_true q127; have p128 : 0 ≤ ((ji13) : Int) := of_decide_eq_true (by first | (with_reducible assumption) | assumption); have q128 : (ji13) < (t124.length : Int) := of_decide_eq_true (by first | (with_reducible assumption) | assumption); obtain ⟨ad128, e128, hx128_0⟩ := Kd.at_string (Kd.R_reads' HO126.out).2.2 (ji13) p128 q128; obtain rfl : ad127 = ad128 := (by injection e128); replace p128 := eq_true p128; replace q128 := eq_true q128)); try go_wp2_with (first | (go_at_call 8; (with_reducible refine (spec_IsHost.calls k a0 true _ A2.out).mono ?_); rintro e w17 ⟨rfl, hb⟩; have n0_ := Aside0.mk (below_step (by repeat (first | (with_reducible first | exact HB.out | apply below_alloc | apply pw_below_drewN | apply below_drew1) | exact HB.out)) hb); clear HB; have HB := n0_; clear n0_; (try clear hb); (try clear hb2); (try clear hk); (try clear hi)) | (go_at_call 20; (with_reducible refine (spec_l9Labels.calls k a0 t124 _ A4.out).mono ?_); rintro e w18 ⟨v125, rfl, ho0, hb⟩; have n0_ := Aside0.mk (Kd.R_lower ho0 (below_size (by repeat (first | (with_reducible first | exact HB.out | apply below_alloc | apply pw_below_drewN | apply below_drew1) | exact HB.out)))); have n1_ := Aside0.mk (below_step (by repeat (first | (with_reducible first | exact HB.out | apply below_alloc | apply pw_below_drewN | apply below_drew1) | exact HB.out)) hb); clear HB; have HO126 := n0_; have HB := n1_; clear n0_ n1_; (try clear hb); (try clear hb2); (try clear hk); (try clear hi); (try clear ho0); obtain ⟨Ao19, co19, eo19⟩ := Kd.R_slice HO126.out; subst eo19; have p127 : 0 ≤ ((ji9) : Int) := of_decide_eq_true (by first | (with_reducible assumption) | assumption); have q127 : (ji9) < (t124.length : Int) := of_decide_eq_true (by first | (with_reducible assumption) | assumption); obtain ⟨ad127, e127, hx127_0⟩ := Kd.at_string (Kd.R_reads' HO126.out).2.2 (ji9) p127 q127; cases e127; replace p127 := eq_true p127; replace q127 := eq_true q127; have p128 : 0 ≤ ((ji13) : Int) := of_decide_eq_true (by first | (with_reducible assumption) | assumption); have q128 : (ji13) < (t124.length : Int) := of_decide_eq_true (by first | (with_reducible assumption) | assumption); obtain ⟨ad128, e128, hx128_0⟩ := Kd.at_string (Kd.R_reads' HO126.out).2.2 (ji13) p128 q128; obtain rfl : ad127 = ad128 := (by injection e128); replace p128 := eq_true p128; replace q128 := eq_true q128)))
                  go_ret
                  exact ⟨by first | rfl | (simp [errW_none, errW_some] <;> rfl) | (simp only [← hji9, ← hji13]; first | rfl | (simp [errW_none, errW_some] <;> rfl)) | (simp [*, errW_none, errW_some] <;> rfl), by repeat (first | (with_reducible first | exact HB.out | apply below_alloc | apply pw_below_drewN | apply below_drew1) | exact HB.out)⟩
                · rw [if_neg c16] at H
                  exact absurd H (by simp)
              · rw [if_neg c15] at H
                exact absurd H (by simp)
            · rw [if_neg c14] at H
              exact absurd H (by simp)
          · rw [if_neg c12] at H
            exact absurd H (by simp)
        · rw [if_neg c11] at H
          exact absurd H (by simp)
      · rw [if_neg c10] at H
        exact absurd H (by simp)
  · replace c3 := Bool.eq_false_iff.mpr c3
    subst c3
    have H1 : (some (⟨#[]⟩ : ByteArray)) = some r := by rw [if_neg (show ¬ (false = true) by decide)] at H; exact H
    clear H
    have H := H1
    clear H1
    obtain rfl := Option.some.inj H
    go_enter Tryd.func16, Tryd.ntmps16
    go_wp2_with (first | (go_at_call 8; (with_reducible refine (spec_IsHost.calls k a0 false _ A2.out).mono ?_); rintro e w20 ⟨rfl, hb⟩; have n0_ := Aside0.mk (below_step (by repeat (first | (with_reducible first | exact HB.out | apply below_alloc | apply pw_below_drewN | apply below_drew1) | exact HB.out)) hb); clear HB; have HB := n0_; clear n0_; (try clear hb); (try clear hb2); (try clear hk); (try clear hi)))
    repeat (go_quiet (first | (go_at_call 8; (with_reducible refine (spec_IsHost.calls k a0 false _ A2.out).mono ?_); rintro e w20 ⟨rfl, hb⟩; have n0_ := Aside0.mk (below_step (by repeat (first | (with_reducible first | exact HB.out | apply below_alloc | apply pw_below_drewN | apply below_drew1) | exact HB.out)) hb); clear HB; have HB := n0_; clear n0_; (try clear hb); (try clear hb2); (try clear hk); (try clear hi))); try go_wp2_with (first | (go_at_call 8; (with_reducible refine (spec_IsHost.calls k a0 false _ A2.out).mono ?_); rintro e w20 ⟨rfl, hb⟩; have n0_ := Aside0.mk (below_step (by repeat (first | (with_reducible first | exact HB.out | apply below_alloc | apply pw_below_drewN | apply below_drew1) | exact HB.out)) hb); clear HB; have HB := n0_; clear n0_; (try clear hb); (try clear hb2); (try clear hk); (try clear hi))))
    go_ret
    exact ⟨by first | rfl | (simp [errW_none, errW_some] <;> rfl) | (simp [*, errW_none, errW_some] <;> rfl), by repeat (first | (with_reducible first | exact HB.out | apply below_alloc | apply pw_below_drewN | apply below_drew1) | exact HB.out)⟩

end Go.Proofs.YtebggeldghoefaaDoor.PFnExactIsSameSite
