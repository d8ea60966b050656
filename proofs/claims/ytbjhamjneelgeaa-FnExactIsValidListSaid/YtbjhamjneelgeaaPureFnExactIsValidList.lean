/- The law FnExactIsValidList, in plain numbers and lists: what its Go functions compute (as the kit's print tells it) answers true. Conditions: what the reading of the arguments gives (each number of its kind, each length a length). -/
import Derived.Test.YtbjhamjneelgeaaPFnExactIsValidListx2
import Derived.Test.YtbjhamjneelgeaaMt
namespace Go.Proofs.Ytbjhamjneelgeaa.SFnExactIsValidList
open Go.RowKit Go.Proofs.Ytbjhamjneelgeaa.PFnExactIsValidList Go.Proofs.YtbjhamjneelgeaaW.PrintWords Go.Proofs.YtbjhamjneelgeaaW.PrintLast Go.Proofs.Ytbjhamjneelgeaa.Mt
set_option linter.unusedVariables false
set_option linter.unusedSimpArgs false
theorem l_laws_szIntS (l : List Int) (left : Int) (hl : 0 ≤ left ∧ left ≤ 1048576) (hn : l.length ≤ 9223372036854775807) : laws_szIntS.f l left = some (szd left l.length) := szd_eq hl hn
theorem l_laws_szVendorList (m : Int) (l : List Int) (left : Int) (hl : 0 ≤ left ∧ left ≤ 1048576) (hn : l.length ≤ 9223372036854775807) : laws_szVendorList.f m l left = some (szd left l.length) := by
  unfold laws_szVendorList.f
  rw [l_laws_szIntS l left hl hn]; simp only [Option.bind_some]
  by_cases h : szd left l.length < 0
  · rw [if_pos h]; have := szd_bd (n := l.length) hl; congr; omega
  · rw [if_neg h]
theorem e_laws_toIntS (l : List Int) (hl : l.length ≤ 1048576) : Ev (fun k => laws_toIntS.f k l) l := by
  have h := copy_loop (F := fun k o i => laws_toIntS.l0 k l o i) (l := l) (conv := id) (fun o ho => ev1 fun k => by rw [laws_toIntS.l0, if_neg (by omega)])
    (fun o i hi ho r hr => Ev.step (fun k => by rw [laws_toIntS.l0, if_pos (by omega), if_pos (by omega), if_pos (by omega), rd_in hi, wrap_in (by omega)]; rfl) hr) (List.replicate l.length 0) (by simp)
  rw [List.map_id] at h
  refine Ev.congr (fun k => ?_) h
  unfold laws_toIntS.f
  rw [if_pos (by omega), if_pos (by omega)]; rfl
theorem e_laws_toVendorList (m : Int) (l : List Int) (hl : l.length ≤ 1048576) : Ev (fun k => laws_toVendorList.f k m l) (m, l) := by
  unfold laws_toVendorList.f
  exact Ev.bind (e_laws_toIntS l hl) (Ev.now _)
theorem e_laws_eqIntS (l : List Int) (hl : l.length ≤ 1048576) : Ev (fun k => laws_eqIntS.f k l l) true := by
  have h := skip_loop (F := fun k i => laws_eqIntS.l0 k l l i) (n := l.length) (r := true) (ev1 fun k => by rw [laws_eqIntS.l0, if_neg (by omega)])
    (fun i hi r hr => Ev.step (fun k => by rw [laws_eqIntS.l0, if_pos (by omega), if_pos (by omega), if_pos (by omega), if_pos rfl, wrap_in (by omega)]; rfl) hr)
  refine Ev.congr (fun k => ?_) h
  unfold laws_eqIntS.f; rw [if_pos rfl]
theorem e_laws_eqVendorList (m : Int) (l : List Int) (hl : l.length ≤ 1048576) : Ev (fun k => laws_eqVendorList.f k m l m l) true := by
  refine Ev.congr (fun k => by unfold laws_eqVendorList.f; rw [if_pos rfl]) ?_
  exact Ev.bind (e_laws_eqIntS l hl) (Ev.now _)
theorem l_spec_l1In (a0 a1 a2 : Int) : spec_l1In.f a0 a1 a2 = some (decide (a1 ≤ a0 ∧ a0 ≤ a2)) := by
  unfold spec_l1In.f
  by_cases h : a0 ≥ a1
  · rw [if_pos h]; simp [show a1 ≤ a0 from h]
  · rw [if_neg h]; simp [show ¬ a1 ≤ a0 from h]
theorem l_spec_IsValidKey (a : Int) : spec_IsValidKey.f a = some (vkey a) := by
  unfold spec_IsValidKey.f; rw [l_spec_l1In]; rfl
theorem srch_and (p : Nat → Bool) (b : Bool) : ∀ d i, srch p (fun _ => false) b d i = (b && srch p (fun _ => false) true d i)
  | 0, i => by simp [srch]
  | d + 1, i => by unfold srch; cases p i <;> simp [srch_and p b d (i + 1)]
theorem e_spec_IsValidList (m : Int) (l : List Int) (hl : l.length ≤ 1048576) : Ev (fun k => spec_IsValidList.f k m l) (vkey m && ascB l) := by
  unfold ascB; rw [← srch_and]
  exact find_from (F := fun k i => spec_IsValidList.l0 k i m l) (n := max l.length 1) (s := 1) (ev1 fun k => by rw [spec_IsValidList.l0, if_neg (by omega), l_spec_IsValidKey]; rfl)
    (fun i hs hi hp => ev1 fun k => by rw [spec_IsValidList.l0, if_pos (by omega), if_pos (by rw [wrap_in (by omega)]; omega), if_pos (by rw [wrap_in (by omega)]; omega), if_pos (by omega), if_pos (of_decide_eq_true hp)])
    (fun i hs hi hp r hr => Ev.step (fun k => by rw [spec_IsValidList.l0, if_pos (by omega), if_pos (by rw [wrap_in (by omega)]; omega), if_pos (by rw [wrap_in (by omega)]; omega), if_pos (by omega), if_neg (of_decide_eq_false hp), wrap_in (x := (i : Int) + 1) (by omega)]; rfl) hr) (max l.length 1 - 1) 1 (by omega) (by omega)
theorem l_impl_InRange (a0 a1 a2 : Int) : impl_InRange.f a0 a1 a2 = some (decide (a1 ≤ a0 ∧ a0 ≤ a2)) := by
  unfold impl_InRange.f
  by_cases h : a1 ≤ a0
  · rw [if_pos h]; simp [h]
  · rw [if_neg h]; simp [h]
theorem l_impl_IsValidKey (a : Int) : impl_IsValidKey.f a = some (vkey a) := by
  unfold impl_IsValidKey.f; rw [l_impl_InRange]; rfl
theorem e_impl_ascends (l : List Int) (hl : l.length ≤ 1048576) : Ev (fun k => impl_ascends.f k l) (ascB l) :=
  find_from (F := fun k i => impl_ascends.l0 k l i) (n := max l.length 1) (s := 1) (ev1 fun k => by rw [impl_ascends.l0, if_neg (by omega)])
    (fun i hs hi hp => ev1 fun k => by rw [impl_ascends.l0, if_pos (by omega), if_pos (by rw [wrap_in (by omega)]; omega), if_pos (by rw [wrap_in (by omega)]; omega), if_pos (by omega), if_pos (of_decide_eq_true hp)])
    (fun i hs hi hp r hr => Ev.step (fun k => by rw [impl_ascends.l0, if_pos (by omega), if_pos (by rw [wrap_in (by omega)]; omega), if_pos (by rw [wrap_in (by omega)]; omega), if_pos (by omega), if_neg (of_decide_eq_false hp), wrap_in (x := (i : Int) + 1) (by omega)]; rfl) hr) (max l.length 1 - 1) 1 (by omega) (by omega)
theorem e_impl_IsValidList (m : Int) (l : List Int) (hl : l.length ≤ 1048576) : Ev (fun k => impl_IsValidList.f k m l) (vkey m && ascB l) := by
  unfold impl_IsValidList.f; simp only [l_impl_IsValidKey, Option.bind_some]
  cases vkey m with
  | false => exact ev_of fun _ => by simp
  | true => simp only [if_true]; exact Ev.bind (e_impl_ascends l hl) (ev_now (by simp))
theorem p_FnExactIsValidList (m : Int) (l : List Int) (_ : (Lit.int .i64 m).wf = true) (h : l.length ≤ 9223372036854775807 ∧ ∀ x ∈ l, (Lit.int .i64 x).wf = true) : ∃ k, laws_FnExactIsValidList.f k m l = some true := by
  apply Ev.rounds
  unfold laws_FnExactIsValidList.f
  rw [l_laws_szVendorList m l _ (by omega) h.1]; simp only [Option.bind_some]
  by_cases g : szd 1048576 l.length < 0
  · simp only [if_pos g]; exact Ev.now _
  · simp only [if_neg g]; have hl := (szd_len g).1
    refine Ev.bind (e_laws_toVendorList m l (by omega)) (Ev.bind (e_spec_IsValidList _ _ (by first | omega | (simp; omega))) (Ev.bind (e_laws_toVendorList m l (by omega)) (Ev.bind (e_impl_IsValidList _ _ (by first | omega | (simp; omega))) ?_)))
    simp only [bne_self_eq_false, Bool.false_eq_true, if_false]
    exact Ev.bind (e_laws_toVendorList m l (by omega)) (Ev.bind (e_laws_eqVendorList _ _ (by first | omega | (simp; omega))) (Ev.now _))
end Go.Proofs.Ytbjhamjneelgeaa.SFnExactIsValidList
