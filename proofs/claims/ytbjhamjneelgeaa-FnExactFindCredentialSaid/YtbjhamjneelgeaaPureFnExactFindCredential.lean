/- The law FnExactFindCredential, in plain numbers and lists: what its Go functions compute (as the kit's print tells it) answers true. Conditions: what the reading of the arguments gives (each number of its kind, each length a length). -/
import Derived.Test.YtbjhamjneelgeaaPFnExactFindCredentialx2
import Derived.Test.YtbjhamjneelgeaaMt
namespace Go.Proofs.Ytbjhamjneelgeaa.SFnExactFindCredential
open Go.RowKit Go.Proofs.Ytbjhamjneelgeaa.PFnExactFindCredential Go.Proofs.YtbjhamjneelgeaaW.PrintWords Go.Proofs.YtbjhamjneelgeaaW.PrintLast Go.Proofs.Ytbjhamjneelgeaa.Mt
set_option linter.unusedVariables false
set_option linter.unusedSimpArgs false
theorem l_laws_szCredentialS (l : List S108) (left : Int) (hl : 0 ≤ left ∧ left ≤ 1048576) (hn : l.length ≤ 9223372036854775807) : laws_szCredentialS.f l left = some (szd left l.length) := szd_eq hl hn
theorem l_laws_szAccount (a b : Int) (l : List S108) (left : Int) (hl : 0 ≤ left ∧ left ≤ 1048576) (hn : l.length ≤ 9223372036854775807) : laws_szAccount.f a b l left = some (szd left l.length) := by
  unfold laws_szAccount.f
  rw [l_laws_szCredentialS l left hl hn]; simp only [Option.bind_some]
  by_cases h : szd left l.length < 0
  · rw [if_pos h]; have := szd_bd (n := l.length) hl; congr; omega
  · rw [if_neg h]
def fndCredential (l : List S97) (id : Int) : Int := srch (fun i => decide ((rd_T97 l i).f0 = id)) (fun i => (i : Int)) (-1) l.length 0
theorem e_spec_FindCredential (a b : Int) (l : List S97) (id : Int) (hl : l.length ≤ 1048576) : Ev (fun k => spec_FindCredential.f k a b l id) (srch (fun i => decide ((rd_T97 l i).f0 = id)) (fun i => (i : Int)) (-1) l.length 0) :=
  find_loop (F := fun k i => spec_FindCredential.l0 k id i a b l) (n := l.length) (ev1 fun k => by rw [spec_FindCredential.l0, if_neg (by omega)])
    (fun i hi hp => ev1 fun k => by rw [spec_FindCredential.l0, if_pos (by omega), if_pos (by omega), if_pos (of_decide_eq_true hp)])
    (fun i hi hp r hr => Ev.step (fun k => by rw [spec_FindCredential.l0, if_pos (by omega), if_pos (by omega), if_neg (of_decide_eq_false hp), wrap_in (by omega)]; rfl) hr) l.length 0 (by omega)
def convCredential (x : S108) : S97 := ⟨x.f0, x.f1, x.f2, x.f3⟩
theorem e_laws_toCredentialS (l : List S108) (hl : l.length ≤ 1048576) : Ev (fun k => laws_toCredentialS.f k l) (l.map convCredential) := by
  have h := copy_loop (F := fun k o i => laws_toCredentialS.l0 k l o i) (l := l) (conv := convCredential) (fun o ho => ev1 fun k => by rw [laws_toCredentialS.l0, if_neg (by omega)])
    (fun o i hi ho r hr => Ev.step (fun k => by
      have hx : rd_T108 l (i : Int) = l[i] := rdOf_in _ hi
      rw [laws_toCredentialS.l0, if_pos (by omega), if_pos (by omega), hx]; unfold laws_toCredential.f; simp only [Option.bind_some]
      rw [if_pos (by omega), wrap_in (by omega)]; rfl) hr) (List.replicate l.length z97) (by simp)
  refine Ev.congr (fun k => ?_) h
  unfold laws_toCredentialS.f
  rw [if_pos (by omega), if_pos (by omega)]; rfl
theorem e_laws_toAccount (a b : Int) (l : List S108) (hl : l.length ≤ 1048576) : Ev (fun k => laws_toAccount.f k a b l) (a, b, l.map convCredential) := by
  unfold laws_toAccount.f
  exact Ev.bind (e_laws_toCredentialS l hl) (Ev.now _)
theorem e_impl_FindCredential (a b : Int) (l : List S97) (id : Int) (hl : l.length ≤ 1048576) : Ev (fun k => impl_FindCredential.f k a b l id) (srch (fun i => decide ((rd_T97 l i).f0 = id)) (fun i => (i : Int)) (-1) l.length 0) :=
  find_loop (F := fun k i => impl_FindCredential.l0 k id l (l.length : Int) i) (n := l.length) (ev1 fun k => by rw [impl_FindCredential.l0, if_neg (by omega)])
    (fun i hi hp => ev1 fun k => by rw [impl_FindCredential.l0, if_pos (by omega), if_pos (by omega), if_pos (by omega), if_pos (of_decide_eq_true hp)])
    (fun i hi hp r hr => Ev.step (fun k => by rw [impl_FindCredential.l0, if_pos (by omega), if_pos (by omega), if_pos (by omega), if_neg (of_decide_eq_false hp), wrap_in (by omega)]; rfl) hr) l.length 0 (by omega)
theorem l_laws_eqCredential (x : S97) : laws_eqCredential.f x.f0 x.f1 x.f2 x.f3 x.f0 x.f1 x.f2 x.f3 = some true := by
  unfold laws_eqCredential.f; simp
theorem e_laws_eqCredentialS (l : List S97) (hl : l.length ≤ 1048576) : Ev (fun k => laws_eqCredentialS.f k l l) true := by
  have h := skip_loop (F := fun k i => laws_eqCredentialS.l0 k l l i) (n := l.length) (r := true) (ev1 fun k => by rw [laws_eqCredentialS.l0, if_neg (by omega)])
    (fun i hi r hr => Ev.step (fun k => by rw [laws_eqCredentialS.l0, if_pos (by omega), if_pos (by omega), if_pos (by omega), l_laws_eqCredential]; simp only [Option.bind_some, if_true]; rw [wrap_in (by omega)]; rfl) hr)
  refine Ev.congr (fun k => ?_) h
  unfold laws_eqCredentialS.f; rw [if_pos rfl]
theorem e_laws_eqAccount (a b : Int) (l : List S97) (hl : l.length ≤ 1048576) : Ev (fun k => laws_eqAccount.f k a b l a b l) true := by
  unfold laws_eqAccount.f
  simp only [if_pos rfl]
  exact Ev.bind (e_laws_eqCredentialS l hl) (Ev.now _)
theorem p_FnExactFindCredential (a b : Int) (l : List S108) (id : Int) (_ : (Lit.int .i64 a).wf = true) (_ : (Lit.int .i64 b).wf = true) (h : l.length ≤ 9223372036854775807 ∧ ∀ x ∈ l, (Lit.int .i64 x.f0).wf = true ∧ (Lit.int .i64 x.f1).wf = true ∧ (Lit.int .i64 x.f2).wf = true ∧ True) (_ : (Lit.int .i64 id).wf = true) : ∃ k, laws_FnExactFindCredential.f k a b l id = some true := by
  apply Ev.rounds
  unfold laws_FnExactFindCredential.f
  rw [l_laws_szAccount a b l _ (by omega) h.1]; simp only [Option.bind_some]
  by_cases g : szd 1048576 l.length < 0
  · simp only [if_pos g]; exact Ev.now _
  · simp only [if_neg g]; have hl := (szd_len g).1
    refine Ev.bind (e_laws_toAccount a b l (by omega)) (Ev.bind (e_spec_FindCredential _ _ _ _ (by first | omega | (simp; omega))) (Ev.bind (e_laws_toAccount a b l (by omega)) (Ev.bind (e_impl_FindCredential _ _ _ _ (by first | omega | (simp; omega))) ?_)))
    simp only [if_pos rfl]
    exact Ev.bind (e_laws_toAccount a b l (by omega)) (Ev.bind (e_laws_eqAccount _ _ _ (by first | omega | (simp; omega))) (Ev.now _))
end Go.Proofs.Ytbjhamjneelgeaa.SFnExactFindCredential
