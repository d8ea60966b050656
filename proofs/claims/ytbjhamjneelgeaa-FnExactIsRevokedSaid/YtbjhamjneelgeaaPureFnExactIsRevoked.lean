/- The law FnExactIsRevoked, in plain numbers and lists: what its Go functions compute (as the kit's print tells it) answers true. Conditions: what the reading of the arguments gives (each number of its kind, each length a length). -/
import Derived.Test.YtbjhamjneelgeaaPFnExactIsRevokedx2
import Derived.Test.YtbjhamjneelgeaaMt
namespace Go.Proofs.Ytbjhamjneelgeaa.SFnExactIsRevoked
open Go.RowKit Go.Proofs.Ytbjhamjneelgeaa.PFnExactIsRevoked Go.Proofs.YtbjhamjneelgeaaW.PrintWords Go.Proofs.YtbjhamjneelgeaaW.PrintLast Go.Proofs.Ytbjhamjneelgeaa.Mt
set_option linter.unusedVariables false
set_option linter.unusedSimpArgs false
theorem l_laws_szIntS (l : List Int) (left : Int) (hl : 0 ≤ left ∧ left ≤ 1048576) (hn : l.length ≤ 9223372036854775807) : laws_szIntS.f l left = some (szd left l.length) := szd_eq hl hn
theorem l_laws_szVendorList (m : Int) (l : List Int) (left : Int) (hl : 0 ≤ left ∧ left ≤ 1048576) (hn : l.length ≤ 9223372036854775807) : laws_szVendorList.f m l left = some (szd left l.length) := by
  unfold laws_szVendorList.f
  rw [l_laws_szIntS l left hl hn]; simp only [Option.bind_some]
  by_cases h : szd left l.length < 0
  · rw [if_pos h]; have := szd_bd (n := l.length) hl; congr; omega
  · rw [if_neg h]
theorem e_spec_IsRevoked (m : Int) (l : List Int) (v s : Int) (hl : l.length ≤ 1048576) : Ev (fun k => spec_IsRevoked.f k m l v s) (srch (fun i => decide (rd l i = wrap64 ((wrap64 (v * 10000000)) + s))) (fun _ => true) false l.length 0) :=
  find_loop (F := fun k i => spec_IsRevoked.l0 k v s i m l) (n := l.length) (ev1 fun k => by rw [spec_IsRevoked.l0, if_neg (by omega)])
    (fun i hi hp => ev1 fun k => by rw [spec_IsRevoked.l0, if_pos (by omega), if_pos (by omega), if_pos (of_decide_eq_true hp)])
    (fun i hi hp r hr => Ev.step (fun k => by rw [spec_IsRevoked.l0, if_pos (by omega), if_pos (by omega), if_neg (of_decide_eq_false hp), wrap_in (by omega)]; rfl) hr) l.length 0 (by omega)
theorem e_laws_toIntS (l : List Int) (hl : l.length ≤ 1048576) : Ev (fun k => laws_toIntS.f k l) l := by
  have h := copy_loop (F := fun k o i => laws_toIntS.l0 k l o i) (l := l) (conv := id) (fun o ho => ev1 fun k => by rw [laws_toIntS.l0, if_neg (by omega)])
    (fun o i hi ho r hr => Ev.step (fun k => by rw [laws_toIntS.l0, if_pos (by omega), if_pos (by omega), if_pos (by omega), rd_in hi, wrap_in (by omega)]; rfl) hr) (List.replicate l.length 0) (by simp)
  rw [List.map_id] at h
  refine Ev.congr (fun k => ?_) h
  unfold laws_toIntS.f
  rw [if_pos (by omega), if_pos (by omega)]; rfl
theorem e_laws_toVendorList (m : Int) (l : List Int) (hl : l.length ≤ 1048576) : Ev (fun k => laws_toVendorList.f k m l) (m, l) := by
  unfold laws_toVendorList.f
  exact Ev.bind (e_laws_toIntS l hl) (Ev.now _)
theorem e_impl_IsRevoked (m : Int) (l : List Int) (v s : Int) (hl : l.length ≤ 1048576) : Ev (fun k => impl_IsRevoked.f k m l v s) (srch (fun i => decide (rd l i = wrap64 ((wrap64 (v * 10000000)) + s))) (fun _ => true) false l.length 0) :=
  find_loop (F := fun k i => impl_IsRevoked.l0 k v s l (l.length : Int) i) (n := l.length) (ev1 fun k => by rw [impl_IsRevoked.l0, if_neg (by omega)])
    (fun i hi hp => ev1 fun k => by rw [impl_IsRevoked.l0, if_pos (by omega), if_pos (by omega), if_pos (by omega), if_pos (of_decide_eq_true hp)])
    (fun i hi hp r hr => Ev.step (fun k => by rw [impl_IsRevoked.l0, if_pos (by omega), if_pos (by omega), if_pos (by omega), if_neg (of_decide_eq_false hp), wrap_in (by omega)]; rfl) hr) l.length 0 (by omega)
theorem e_laws_eqIntS (l : List Int) (hl : l.length ≤ 1048576) : Ev (fun k => laws_eqIntS.f k l l) true := by
  have h := skip_loop (F := fun k i => laws_eqIntS.l0 k l l i) (n := l.length) (r := true) (ev1 fun k => by rw [laws_eqIntS.l0, if_neg (by omega)])
    (fun i hi r hr => Ev.step (fun k => by rw [laws_eqIntS.l0, if_pos (by omega), if_pos (by omega), if_pos (by omega), if_pos rfl, wrap_in (by omega)]; rfl) hr)
  refine Ev.congr (fun k => ?_) h
  unfold laws_eqIntS.f; rw [if_pos rfl]
theorem e_laws_eqVendorList (m : Int) (l : List Int) (hl : l.length ≤ 1048576) : Ev (fun k => laws_eqVendorList.f k m l m l) true := by
  refine Ev.congr (fun k => by unfold laws_eqVendorList.f; rw [if_pos rfl]) ?_
  exact Ev.bind (e_laws_eqIntS l hl) (Ev.now _)
theorem p_FnExactIsRevoked (m : Int) (l : List Int) (v s : Int) (_ : (Lit.int .i64 m).wf = true) (h : l.length ≤ 9223372036854775807 ∧ ∀ x ∈ l, (Lit.int .i64 x).wf = true) (_ : (Lit.int .i64 v).wf = true) (_ : (Lit.int .i64 s).wf = true) : ∃ k, laws_FnExactIsRevoked.f k m l v s = some true := by
  apply Ev.rounds
  unfold laws_FnExactIsRevoked.f
  rw [l_laws_szVendorList m l _ (by omega) h.1]; simp only [Option.bind_some]
  by_cases g : szd 1048576 l.length < 0
  · simp only [if_pos g]; exact Ev.now _
  · simp only [if_neg g]; have hl := (szd_len g).1
    refine Ev.bind (e_laws_toVendorList m l (by omega)) (Ev.bind (e_spec_IsRevoked _ _ _ _ (by first | omega | (simp; omega))) (Ev.bind (e_laws_toVendorList m l (by omega)) (Ev.bind (e_impl_IsRevoked _ _ _ _ (by first | omega | (simp; omega))) ?_)))
    simp only [bne_self_eq_false, Bool.false_eq_true, if_false]
    exact Ev.bind (e_laws_toVendorList m l (by omega)) (Ev.bind (e_laws_eqVendorList _ _ (by first | omega | (simp; omega))) (Ev.now _))
end Go.Proofs.Ytbjhamjneelgeaa.SFnExactIsRevoked
