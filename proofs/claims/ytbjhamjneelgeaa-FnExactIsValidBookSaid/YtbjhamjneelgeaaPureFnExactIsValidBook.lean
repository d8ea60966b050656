/- The law FnExactIsValidBook, in plain numbers and lists: what its Go functions compute (as the kit's print tells it) answers true. Conditions: what the reading of the arguments gives (each number of its kind, each length a length). -/
import Derived.Test.YtbjhamjneelgeaaPFnExactIsValidBookx5
import Derived.Test.YtbjhamjneelgeaaMt
namespace Go.Proofs.Ytbjhamjneelgeaa.SFnExactIsValidBook
open Go.RowKit Go.Proofs.Ytbjhamjneelgeaa.PFnExactIsValidBook Go.Proofs.YtbjhamjneelgeaaW.PrintWords Go.Proofs.YtbjhamjneelgeaaW.PrintLast Go.Proofs.Ytbjhamjneelgeaa.Mt
set_option linter.unusedVariables false
set_option linter.unusedSimpArgs false
theorem l_laws_szChallengeS (l : List S103) (left : Int) (hl : 0 ≤ left ∧ left ≤ 1048576) (hn : l.length ≤ 9223372036854775807) : laws_szChallengeS.f l left = some (szd left l.length) := szd_eq hl hn
theorem l_laws_szChallengeBook (a b : Int) (l : List S103) (left : Int) (hl : 0 ≤ left ∧ left ≤ 1048576) (hn : l.length ≤ 9223372036854775807) : laws_szChallengeBook.f a b l left = some (szd left l.length) := by
  unfold laws_szChallengeBook.f
  rw [l_laws_szChallengeS l left hl hn]; simp only [Option.bind_some]
  by_cases h : szd left l.length < 0
  · rw [if_pos h]; have := szd_bd (n := l.length) hl; congr; omega
  · rw [if_neg h]
def convChallenge (x : S103) : S90 := ⟨x.f0, x.f1, x.f2⟩
theorem e_laws_toChallengeS (l : List S103) (hl : l.length ≤ 1048576) : Ev (fun k => laws_toChallengeS.f k l) (l.map convChallenge) := by
  have h := copy_loop (F := fun k o i => laws_toChallengeS.l0 k l o i) (l := l) (conv := convChallenge) (fun o ho => ev1 fun k => by rw [laws_toChallengeS.l0, if_neg (by omega)])
    (fun o i hi ho r hr => Ev.step (fun k => by
      have hx : rd_T103 l (i : Int) = l[i] := rdOf_in _ hi
      rw [laws_toChallengeS.l0, if_pos (by omega), if_pos (by omega), hx]; unfold laws_toChallenge.f; simp only [Option.bind_some]
      rw [if_pos (by omega), wrap_in (by omega)]; rfl) hr) (List.replicate l.length z90) (by simp)
  refine Ev.congr (fun k => ?_) h
  unfold laws_toChallengeS.f
  rw [if_pos (by omega), if_pos (by omega)]; rfl
theorem e_laws_toChallengeBook (a b : Int) (l : List S103) (hl : l.length ≤ 1048576) : Ev (fun k => laws_toChallengeBook.f k a b l) (a, b, l.map convChallenge) := by
  unfold laws_toChallengeBook.f
  exact Ev.bind (e_laws_toChallengeS l hl) (Ev.now _)
theorem l_laws_eqChallenge (x : S90) : laws_eqChallenge.f x.f0 x.f1 x.f2 x.f0 x.f1 x.f2 = some true := by
  unfold laws_eqChallenge.f; simp
theorem e_laws_eqChallengeS (l : List S90) (hl : l.length ≤ 1048576) : Ev (fun k => laws_eqChallengeS.f k l l) true := by
  have h := skip_loop (F := fun k i => laws_eqChallengeS.l0 k l l i) (n := l.length) (r := true) (ev1 fun k => by rw [laws_eqChallengeS.l0, if_neg (by omega)])
    (fun i hi r hr => Ev.step (fun k => by rw [laws_eqChallengeS.l0, if_pos (by omega), if_pos (by omega), if_pos (by omega), l_laws_eqChallenge]; simp only [Option.bind_some, if_true]; rw [wrap_in (by omega)]; rfl) hr)
  refine Ev.congr (fun k => ?_) h
  unfold laws_eqChallengeS.f; rw [if_pos rfl]
theorem e_laws_eqChallengeBook (a b : Int) (l : List S90) (hl : l.length ≤ 1048576) : Ev (fun k => laws_eqChallengeBook.f k a b l a b l) true := by
  unfold laws_eqChallengeBook.f
  simp only [if_pos rfl]
  exact Ev.bind (e_laws_eqChallengeS l hl) (Ev.now _)
theorem l_spec_l1In (a0 a1 a2 : Int) : spec_l1In.f a0 a1 a2 = some (decide (a1 ≤ a0 ∧ a0 ≤ a2)) := by
  unfold spec_l1In.f
  by_cases h : a0 ≥ a1
  · rw [if_pos h]; simp [show a1 ≤ a0 from h]
  · rw [if_neg h]; simp [show ¬ a1 ≤ a0 from h]
def okC (n : Int) (l : List S90) (i : Nat) : Bool := decide (0 ≤ (rd_T90 l i).f0 ∧ (rd_T90 l i).f0 ≤ wrap64 (n - 1)) && !(decide (0 < i) && decide ((rd_T90 l (wrap64 ((i : Int) - 1))).f0 ≥ (rd_T90 l i).f0)) && decide (0 ≤ (rd_T90 l i).f1 ∧ (rd_T90 l i).f1 ≤ 1000005) && decide (0 ≤ (rd_T90 l i).f2 ∧ (rd_T90 l i).f2 ≤ 1000005)
def vbook (n : Int) (l : List S90) : Bool := decide (0 ≤ n ∧ n ≤ 1000000) && decide ((l.length : Int) ≤ 16) && srch (fun i => !okC n l i) (fun _ => false) true l.length 0
theorem srch_all (p : Nat → Bool) (b : Bool) : ∀ d i, srch p (fun _ => false) b d i = (b && srch p (fun _ => false) true d i)
  | 0, i => by simp [srch]
  | d + 1, i => by unfold srch; cases p i <;> simp [srch_all p b d (i + 1)]
theorem r_spec_IsValidBook (s n : Int) (l : List S90) (hl : l.length ≤ 1048576) (i : Nat) (hi : i < l.length) (k : Nat) :
    spec_IsValidBook.l0 (k + 1) (i : Int) s n l = if okC n l i = true then spec_IsValidBook.l0 k ((i + 1 : Nat) : Int) s n l else some false := by
  rw [spec_IsValidBook.l0, if_pos (by omega), if_pos (by omega)]
  simp only [l_spec_l1In, Option.bind_some]
  unfold okC
  cases decide (0 ≤ (rd_T90 l i).f0 ∧ (rd_T90 l i).f0 ≤ wrap64 (n - 1)) with
  | false => simp
  | true =>
    simp only [if_true, Bool.true_and]
    by_cases h0 : 0 < i
    · have hw : wrap64 ((i : Int) - 1) = (i : Int) - 1 := wrap_in (by omega)
      rw [if_pos (by omega), if_pos (by omega), if_pos (by omega), wrap_in (x := (i : Int) + 1) (by omega)]
      by_cases h1 : (rd_T90 l (wrap64 ((i : Int) - 1))).f0 ≥ (rd_T90 l i).f0
      · rw [if_pos h1]; simp [h0, h1]
      · rw [if_neg h1]
        cases decide (0 ≤ (rd_T90 l i).f1 ∧ (rd_T90 l i).f1 ≤ 1000005) <;> cases decide (0 ≤ (rd_T90 l i).f2 ∧ (rd_T90 l i).f2 ≤ 1000005) <;> simp [h0, h1]
    · rw [if_neg (by omega), wrap_in (x := (i : Int) + 1) (by omega)]
      cases decide (0 ≤ (rd_T90 l i).f1 ∧ (rd_T90 l i).f1 ≤ 1000005) <;> cases decide (0 ≤ (rd_T90 l i).f2 ∧ (rd_T90 l i).f2 ≤ 1000005) <;> simp [h0]
theorem e_spec_IsValidBook (s n : Int) (l : List S90) (hl : l.length ≤ 1048576) : Ev (fun k => spec_IsValidBook.f k s n l) (vbook n l) := by
  unfold vbook; rw [← srch_all]
  exact find_loop (F := fun k i => spec_IsValidBook.l0 k i s n l) (n := l.length) (ev1 fun k => by
      rw [spec_IsValidBook.l0, if_neg (by omega)]; simp only [l_spec_l1In, Option.bind_some]
      cases decide (0 ≤ n ∧ n ≤ 1000000) <;> simp)
    (fun i hi hp => ev1 fun k => by rw [r_spec_IsValidBook s n l hl i hi, if_neg (by simpa using hp)])
    (fun i hi hp r hr => Ev.step (fun k => by rw [r_spec_IsValidBook s n l hl i hi, if_pos (by simpa using hp)]) hr) l.length 0 (by omega)
theorem l_impl_InRange (a0 a1 a2 : Int) : impl_InRange.f a0 a1 a2 = some (decide (a1 ≤ a0 ∧ a0 ≤ a2)) := by
  unfold impl_InRange.f
  by_cases h : a1 ≤ a0
  · rw [if_pos h]; simp [h]
  · rw [if_neg h]; simp [h]
theorem r_impl_IsValidBook (s n : Int) (l : List S90) (hl : l.length ≤ 1048576) (i : Nat) (hi : i < l.length) (k : Nat) :
    impl_IsValidBook.l0 (k + 1) l (l.length : Int) (i : Int) s n l = if okC n l i = true then impl_IsValidBook.l0 k l (l.length : Int) ((i + 1 : Nat) : Int) s n l else some false := by
  rw [impl_IsValidBook.l0, if_pos (by omega), if_pos (by omega), if_pos (by omega)]
  simp only [l_impl_InRange, Option.bind_some]
  unfold okC
  cases decide (0 ≤ (rd_T90 l i).f0 ∧ (rd_T90 l i).f0 ≤ wrap64 (n - 1)) with
  | false => simp
  | true =>
    simp only [if_true, Bool.true_and]
    by_cases h0 : 0 < i
    · have hw : wrap64 ((i : Int) - 1) = (i : Int) - 1 := wrap_in (by omega)
      rw [if_pos (by omega), if_pos (by omega), if_pos (by omega), wrap_in (x := (i : Int) + 1) (by omega)]
      by_cases h1 : (rd_T90 l (wrap64 ((i : Int) - 1))).f0 ≥ (rd_T90 l i).f0
      · rw [if_pos h1]; simp [h0, h1]
      · rw [if_neg h1]
        cases decide (0 ≤ (rd_T90 l i).f1 ∧ (rd_T90 l i).f1 ≤ 1000005) <;> cases decide (0 ≤ (rd_T90 l i).f2 ∧ (rd_T90 l i).f2 ≤ 1000005) <;> simp [h0, h1]
    · rw [if_neg (by omega), wrap_in (x := (i : Int) + 1) (by omega)]
      cases decide (0 ≤ (rd_T90 l i).f1 ∧ (rd_T90 l i).f1 ≤ 1000005) <;> cases decide (0 ≤ (rd_T90 l i).f2 ∧ (rd_T90 l i).f2 ≤ 1000005) <;> simp [h0]
theorem e_impl_IsValidBook (s n : Int) (l : List S90) (hl : l.length ≤ 1048576) : Ev (fun k => impl_IsValidBook.f k s n l) (vbook n l) := by
  unfold impl_IsValidBook.f vbook
  simp only [l_impl_InRange, Option.bind_some]
  cases decide (0 ≤ n ∧ n ≤ 1000000) with
  | false => simp only [Bool.false_and, Bool.false_eq_true, if_false]; exact ev1 fun k => by rw [impl_IsValidBook.j0, if_pos rfl]
  | true =>
    simp only [if_true, Bool.true_and]
    by_cases h : (l.length : Int) ≤ 16
    · rw [decide_eq_true h, Bool.true_and]
      refine Ev.step (fun k => by rw [impl_IsValidBook.j0, if_neg (by simp; omega)]) ?_
      exact find_loop (F := fun k i => impl_IsValidBook.l0 k l (l.length : Int) i s n l) (n := l.length) (ev1 fun k => by rw [impl_IsValidBook.l0, if_neg (by omega)])
        (fun i hi hp => ev1 fun k => by rw [r_impl_IsValidBook s n l hl i hi, if_neg (by simpa using hp)])
        (fun i hi hp r hr => Ev.step (fun k => by rw [r_impl_IsValidBook s n l hl i hi, if_pos (by simpa using hp)]) hr) l.length 0 (by omega)
    · rw [decide_eq_false h, Bool.false_and]
      exact ev1 fun k => by rw [impl_IsValidBook.j0, if_pos (by simp; omega)]
theorem p_FnExactIsValidBook (a b : Int) (l : List S103) (_ : (Lit.int .i64 a).wf = true) (_ : (Lit.int .i64 b).wf = true) (h : l.length ≤ 9223372036854775807 ∧ ∀ x ∈ l, (Lit.int .i64 x.f0).wf = true ∧ (Lit.int .i64 x.f1).wf = true ∧ (Lit.int .i64 x.f2).wf = true) : ∃ k, laws_FnExactIsValidBook.f k a b l = some true := by
  apply Ev.rounds
  unfold laws_FnExactIsValidBook.f
  rw [l_laws_szChallengeBook a b l _ (by omega) h.1]; simp only [Option.bind_some]
  by_cases g : szd 1048576 l.length < 0
  · simp only [if_pos g]; exact Ev.now _
  · simp only [if_neg g]; have hl := (szd_len g).1
    refine Ev.bind (e_laws_toChallengeBook a b l (by omega)) (Ev.bind (e_spec_IsValidBook _ _ _ (by first | omega | (simp; omega))) (Ev.bind (e_laws_toChallengeBook a b l (by omega)) (Ev.bind (e_impl_IsValidBook _ _ _ (by first | omega | (simp; omega))) ?_)))
    simp only [bne_self_eq_false, Bool.false_eq_true, if_false]
    exact Ev.bind (e_laws_toChallengeBook a b l (by omega)) (Ev.bind (e_laws_eqChallengeBook _ _ _ (by first | omega | (simp; omega))) (Ev.now _))
end Go.Proofs.Ytbjhamjneelgeaa.SFnExactIsValidBook
