/- The law FnExactEqualAccounts, in plain numbers and lists: what its Go functions compute (as the kit's print tells it) answers true. Conditions: what the reading of the arguments gives (each number of its kind, each length a length). -/
import Derived.Test.YtbjhamjneelgeaaPFnExactEqualAccountsx4
import Derived.Test.YtbjhamjneelgeaaMt
namespace Go.Proofs.Ytbjhamjneelgeaa.SFnExactEqualAccounts
open Go.RowKit Go.Proofs.Ytbjhamjneelgeaa.PFnExactEqualAccounts Go.Proofs.YtbjhamjneelgeaaW.PrintWords Go.Proofs.YtbjhamjneelgeaaW.PrintLast Go.Proofs.Ytbjhamjneelgeaa.Mt
set_option linter.unusedVariables false
set_option linter.unusedSimpArgs false
theorem l_laws_szCredentialS (l : List S108) (left : Int) (hl : 0 ≤ left ∧ left ≤ 1048576) (hn : l.length ≤ 9223372036854775807) : laws_szCredentialS.f l left = some (szd left l.length) := szd_eq hl hn
theorem l_laws_szAccount (a b : Int) (l : List S108) (left : Int) (hl : 0 ≤ left ∧ left ≤ 1048576) (hn : l.length ≤ 9223372036854775807) : laws_szAccount.f a b l left = some (szd left l.length) := by
  unfold laws_szAccount.f
  rw [l_laws_szCredentialS l left hl hn]; simp only [Option.bind_some]
  by_cases h : szd left l.length < 0
  · rw [if_pos h]; have := szd_bd (n := l.length) hl; congr; omega
  · rw [if_neg h]
def convCredential (x : S108) : S97 := ⟨x.f0, x.f1, x.f2, x.f3⟩
theorem e_laws_toCredentialS (l : List S108) (hl : l.length ≤ 1048576) : Ev (fun k => laws_toCredentialS.f k l) (l.map convCredential) := by
  have h := copy_loop (F := fun k o i => laws_toCredentialS.l0 k l o i) (l := l) (conv := convCredential) (fun o ho => ev1 fun k => by rw [laws_toCredentialS.l0, if_neg (by omega)])
    (fun o i hi ho r hr => Ev.step (fun k => by
      have hx : rd_T108 l (i : Int) = l[i] := rdOf_in _ hi
      rw [laws_toCredentialS.l0, if_pos (by omega), if_pos (by omega), hx]; unfold laws_toCredential.f; simp only [Option.bind_some]
      rw [if_pos (by omega), wrap_in (by omega)]; rfl) hr) (List.replicate l.length z97) (by simp)
  refine Ev.congr (fun k => ?_) h
  unfold laws_toCredentialS.f
  rw [if_pos (by omega), if_pos (by omega)]; rfl
theorem e_laws_toAccount (a b : Int) (l : List S108) (hl : l.length ≤ 1048576) : Ev (fun k => laws_toAccount.f k a b l) (a, b, l.map convCredential) := by
  unfold laws_toAccount.f
  exact Ev.bind (e_laws_toCredentialS l hl) (Ev.now _)
theorem l_laws_eqCredential (x : S97) : laws_eqCredential.f x.f0 x.f1 x.f2 x.f3 x.f0 x.f1 x.f2 x.f3 = some true := by
  unfold laws_eqCredential.f; simp
theorem e_laws_eqCredentialS (l : List S97) (hl : l.length ≤ 1048576) : Ev (fun k => laws_eqCredentialS.f k l l) true := by
  have h := skip_loop (F := fun k i => laws_eqCredentialS.l0 k l l i) (n := l.length) (r := true) (ev1 fun k => by rw [laws_eqCredentialS.l0, if_neg (by omega)])
    (fun i hi r hr => Ev.step (fun k => by rw [laws_eqCredentialS.l0, if_pos (by omega), if_pos (by omega), if_pos (by omega), l_laws_eqCredential]; simp only [Option.bind_some, if_true]; rw [wrap_in (by omega)]; rfl) hr)
  refine Ev.congr (fun k => ?_) h
  unfold laws_eqCredentialS.f; rw [if_pos rfl]
theorem e_laws_eqAccount (a b : Int) (l : List S97) (hl : l.length ≤ 1048576) : Ev (fun k => laws_eqAccount.f k a b l a b l) true := by
  unfold laws_eqAccount.f
  simp only [if_pos rfl]
  exact Ev.bind (e_laws_eqCredentialS l hl) (Ev.now _)
def difCredential (l m : List S97) (i : Nat) : Bool := (!((rd_T97 l i).f0 == (rd_T97 m i).f0) || (!((rd_T97 l i).f1 == (rd_T97 m i).f1) || (!((rd_T97 l i).f2 == (rd_T97 m i).f2) || (!((rd_T97 l i).f3 == (rd_T97 m i).f3)))))
def eqvCredential (a b : Int) (l : List S97) (c d : Int) (m : List S97) : Bool := if a = c ∧ b = d ∧ l.length = m.length then srch (difCredential l m) (fun _ => false) true l.length 0 else false
theorem e_spec_EqualAccounts_l0 (a b : Int) (l : List S97) (c d : Int) (m : List S97) (hl : l.length ≤ 1048576) (hm : l.length = m.length) : Ev (fun k => spec_EqualAccounts.l0 k 0 a b l c d m) (srch (difCredential l m) (fun _ => false) true l.length 0) :=
  find_loop (F := fun k i => spec_EqualAccounts.l0 k i a b l c d m) (n := l.length) (ev1 fun k => by rw [spec_EqualAccounts.l0, if_neg (by omega)])
    (fun i hi hp => ev1 fun k => by unfold difCredential at hp; rw [spec_EqualAccounts.l0, if_pos (by omega), if_pos (by omega), if_pos (by omega), if_pos hp])
    (fun i hi hp r hr => Ev.step (fun k => by unfold difCredential at hp; rw [spec_EqualAccounts.l0, if_pos (by omega), if_pos (by omega), if_pos (by omega), if_neg (by rw [hp]; simp), wrap_in (by omega)]; rfl) hr) l.length 0 (by omega)
theorem e_spec_EqualAccounts (a b : Int) (l : List S97) (c d : Int) (m : List S97) (hl : l.length ≤ 1048576) : Ev (fun k => spec_EqualAccounts.f k a b l c d m) (eqvCredential a b l c d m) := by
  unfold spec_EqualAccounts.f eqvCredential
  by_cases h0 : a = c
  · by_cases h1 : b = d
    · simp only [if_pos h0, if_pos h1]
      by_cases h2 : l.length = m.length
      · rw [if_pos ⟨h0, h1, h2⟩]
        exact Ev.step (fun k => by rw [spec_EqualAccounts.j0, if_neg (by simp [h2])]) (e_spec_EqualAccounts_l0 a b l c d m hl h2)
      · rw [if_neg (fun h => h2 h.2.2)]
        exact ev1 fun k => by rw [spec_EqualAccounts.j0, if_pos (by first | omega | (simp; omega))]
    · simp only [if_pos h0, if_neg h1]; rw [if_neg (fun h => h1 h.2.1)]
      exact ev1 fun k => by rw [spec_EqualAccounts.j0, if_pos rfl]
  · simp only [if_neg h0]; rw [if_neg (fun h => h0 h.1)]
    exact ev1 fun k => by rw [spec_EqualAccounts.j0, if_pos rfl]
theorem e_impl_EqualAccounts_l0 (a b : Int) (l : List S97) (c d : Int) (m : List S97) (hl : l.length ≤ 1048576) (hm : l.length = m.length) : Ev (fun k => impl_EqualAccounts.l0 k (l.length : Int) 0 a b l c d m) (srch (difCredential l m) (fun _ => false) true l.length 0) :=
  find_loop (F := fun k i => impl_EqualAccounts.l0 k (l.length : Int) i a b l c d m) (n := l.length) (ev1 fun k => by rw [impl_EqualAccounts.l0, if_neg (by omega)])
    (fun i hi hp => ev1 fun k => by unfold difCredential at hp; rw [impl_EqualAccounts.l0, if_pos (by omega), if_pos (by omega), if_pos (by omega), if_pos (by omega), if_pos hp])
    (fun i hi hp r hr => Ev.step (fun k => by unfold difCredential at hp; rw [impl_EqualAccounts.l0, if_pos (by omega), if_pos (by omega), if_pos (by omega), if_pos (by omega), if_neg (by rw [hp]; simp), wrap_in (by omega)]; rfl) hr) l.length 0 (by omega)
theorem e_impl_EqualAccounts (a b : Int) (l : List S97) (c d : Int) (m : List S97) (hl : l.length ≤ 1048576) : Ev (fun k => impl_EqualAccounts.f k a b l c d m) (eqvCredential a b l c d m) := by
  unfold impl_EqualAccounts.f eqvCredential
  by_cases h0 : a = c
  · by_cases h1 : b = d
    · simp only [if_pos h0, if_pos h1]
      by_cases h2 : l.length = m.length
      · rw [if_pos ⟨h0, h1, h2⟩]
        exact Ev.step (fun k => by rw [impl_EqualAccounts.j0, if_neg (by simp [h2])]) (e_impl_EqualAccounts_l0 a b l c d m hl h2)
      · rw [if_neg (fun h => h2 h.2.2)]
        exact ev1 fun k => by rw [impl_EqualAccounts.j0, if_pos (by first | omega | (simp; omega))]
    · simp only [if_pos h0, if_neg h1]; rw [if_neg (fun h => h1 h.2.1)]
      exact ev1 fun k => by rw [impl_EqualAccounts.j0, if_pos rfl]
  · simp only [if_neg h0]; rw [if_neg (fun h => h0 h.1)]
    exact ev1 fun k => by rw [impl_EqualAccounts.j0, if_pos rfl]
theorem p_FnExactEqualAccounts (a b : Int) (l : List S108) (c d : Int) (m : List S108) (_ : (Lit.int .i64 a).wf = true) (_ : (Lit.int .i64 b).wf = true) (hl : l.length ≤ 9223372036854775807 ∧ ∀ x ∈ l, (Lit.int .i64 x.f0).wf = true ∧ (Lit.int .i64 x.f1).wf = true ∧ (Lit.int .i64 x.f2).wf = true ∧ True)
    (_ : (Lit.int .i64 c).wf = true) (_ : (Lit.int .i64 d).wf = true) (hm : m.length ≤ 9223372036854775807 ∧ ∀ x ∈ m, (Lit.int .i64 x.f0).wf = true ∧ (Lit.int .i64 x.f1).wf = true ∧ (Lit.int .i64 x.f2).wf = true ∧ True) : ∃ k, laws_FnExactEqualAccounts.f k a b l c d m = some true := by
  apply Ev.rounds
  unfold laws_FnExactEqualAccounts.f
  rw [l_laws_szAccount _ _ l _ (by omega) hl.1]; simp only [Option.bind_some]
  by_cases g : szd 1048576 l.length < 0
  · simp only [if_pos g]; exact Ev.now _
  · simp only [if_neg g]; have h1 := szd_len g; have h2 := szd_bd (left := 1048576) (n := l.length) (by omega)
    rw [l_laws_szAccount _ _ m _ (by omega) hm.1]; simp only [Option.bind_some]
    by_cases g2 : szd (szd 1048576 l.length) m.length < 0
    · simp only [if_pos g2]; exact Ev.now _
    · simp only [if_neg g2]; have h3 := szd_len g2
      refine Ev.bind (e_laws_toAccount a b l (by omega)) (Ev.bind (e_laws_toAccount c d m (by omega)) (Ev.bind (e_spec_EqualAccounts _ _ _ _ _ _ (by first | omega | (simp; omega))) ?_))
      refine Ev.bind (e_laws_toAccount a b l (by omega)) (Ev.bind (e_laws_toAccount c d m (by omega)) (Ev.bind (e_impl_EqualAccounts _ _ _ _ _ _ (by first | omega | (simp; omega))) ?_))
      simp only [bne_self_eq_false, Bool.false_eq_true, if_false]
      refine Ev.bind (e_laws_toAccount a b l (by omega)) (Ev.bind (e_laws_eqAccount _ _ _ (by first | omega | (simp; omega))) ?_)
      simp only [if_true]
      exact Ev.bind (e_laws_toAccount c d m (by omega)) (Ev.bind (e_laws_eqAccount _ _ _ (by first | omega | (simp; omega))) (Ev.now _))
end Go.Proofs.Ytbjhamjneelgeaa.SFnExactEqualAccounts
