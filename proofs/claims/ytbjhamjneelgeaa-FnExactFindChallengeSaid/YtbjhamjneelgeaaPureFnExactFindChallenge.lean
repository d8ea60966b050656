/- The law FnExactFindChallenge, in plain numbers and lists: what its Go functions compute (as the kit's print tells it) answers true. Conditions: what the reading of the arguments gives (each number of its kind, each length a length). -/
import Derived.Test.YtbjhamjneelgeaaPFnExactFindChallengex2
import Derived.Test.YtbjhamjneelgeaaMt
namespace Go.Proofs.Ytbjhamjneelgeaa.SFnExactFindChallenge
open Go.RowKit Go.Proofs.Ytbjhamjneelgeaa.PFnExactFindChallenge Go.Proofs.YtbjhamjneelgeaaW.PrintWords Go.Proofs.YtbjhamjneelgeaaW.PrintLast Go.Proofs.Ytbjhamjneelgeaa.Mt
set_option linter.unusedVariables false
set_option linter.unusedSimpArgs false
theorem l_laws_szChallengeS (l : List S103) (left : Int) (hl : 0 ≤ left ∧ left ≤ 1048576) (hn : l.length ≤ 9223372036854775807) : laws_szChallengeS.f l left = some (szd left l.length) := szd_eq hl hn
theorem l_laws_szChallengeBook (a b : Int) (l : List S103) (left : Int) (hl : 0 ≤ left ∧ left ≤ 1048576) (hn : l.length ≤ 9223372036854775807) : laws_szChallengeBook.f a b l left = some (szd left l.length) := by
  unfold laws_szChallengeBook.f
  rw [l_laws_szChallengeS l left hl hn]; simp only [Option.bind_some]
  by_cases h : szd left l.length < 0
  · rw [if_pos h]; have := szd_bd (n := l.length) hl; congr; omega
  · rw [if_neg h]
def fndChallenge (l : List S90) (id : Int) : Int := srch (fun i => decide ((rd_T90 l i).f0 = id)) (fun i => (i : Int)) (-1) l.length 0
theorem e_spec_FindChallenge (a b : Int) (l : List S90) (id : Int) (hl : l.length ≤ 1048576) : Ev (fun k => spec_FindChallenge.f k a b l id) (srch (fun i => decide ((rd_T90 l i).f0 = id)) (fun i => (i : Int)) (-1) l.length 0) :=
  find_loop (F := fun k i => spec_FindChallenge.l0 k id i a b l) (n := l.length) (ev1 fun k => by rw [spec_FindChallenge.l0, if_neg (by omega)])
    (fun i hi hp => ev1 fun k => by rw [spec_FindChallenge.l0, if_pos (by omega), if_pos (by omega), if_pos (of_decide_eq_true hp)])
    (fun i hi hp r hr => Ev.step (fun k => by rw [spec_FindChallenge.l0, if_pos (by omega), if_pos (by omega), if_neg (of_decide_eq_false hp), wrap_in (by omega)]; rfl) hr) l.length 0 (by omega)
def convChallenge (x : S103) : S90 := ⟨x.f0, x.f1, x.f2⟩
theorem e_laws_toChallengeS (l : List S103) (hl : l.length ≤ 1048576) : Ev (fun k => laws_toChallengeS.f k l) (l.map convChallenge) := by
  have h := copy_loop (F := fun k o i => laws_toChallengeS.l0 k l o i) (l := l) (conv := convChallenge) (fun o ho => ev1 fun k => by rw [laws_toChallengeS.l0, if_neg (by omega)])
    (fun o i hi ho r hr => Ev.step (fun k => by
      have hx : rd_T103 l (i : Int) = l[i] := rdOf_in _ hi
      rw [laws_toChallengeS.l0, if_pos (by omega), if_pos (by omega), hx]; unfold laws_toChallenge.f; simp only [Option.bind_some]
      rw [if_pos (by omega), wrap_in (by omega)]; rfl) hr) (List.replicate l.length z90) (by simp)
  refine Ev.congr (fun k => ?_) h
  unfold laws_toChallengeS.f
  rw [if_pos (by omega), if_pos (by omega)]; rfl
theorem e_laws_toChallengeBook (a b : Int) (l : List S103) (hl : l.length ≤ 1048576) : Ev (fun k => laws_toChallengeBook.f k a b l) (a, b, l.map convChallenge) := by
  unfold laws_toChallengeBook.f
  exact Ev.bind (e_laws_toChallengeS l hl) (Ev.now _)
theorem e_impl_FindChallenge (a b : Int) (l : List S90) (id : Int) (hl : l.length ≤ 1048576) : Ev (fun k => impl_FindChallenge.f k a b l id) (srch (fun i => decide ((rd_T90 l i).f0 = id)) (fun i => (i : Int)) (-1) l.length 0) :=
  find_loop (F := fun k i => impl_FindChallenge.l0 k id l (l.length : Int) i) (n := l.length) (ev1 fun k => by rw [impl_FindChallenge.l0, if_neg (by omega)])
    (fun i hi hp => ev1 fun k => by rw [impl_FindChallenge.l0, if_pos (by omega), if_pos (by omega), if_pos (by omega), if_pos (of_decide_eq_true hp)])
    (fun i hi hp r hr => Ev.step (fun k => by rw [impl_FindChallenge.l0, if_pos (by omega), if_pos (by omega), if_pos (by omega), if_neg (of_decide_eq_false hp), wrap_in (by omega)]; rfl) hr) l.length 0 (by omega)
theorem l_laws_eqChallenge (x : S90) : laws_eqChallenge.f x.f0 x.f1 x.f2 x.f0 x.f1 x.f2 = some true := by
  unfold laws_eqChallenge.f; simp
theorem e_laws_eqChallengeS (l : List S90) (hl : l.length ≤ 1048576) : Ev (fun k => laws_eqChallengeS.f k l l) true := by
  have h := skip_loop (F := fun k i => laws_eqChallengeS.l0 k l l i) (n := l.length) (r := true) (ev1 fun k => by rw [laws_eqChallengeS.l0, if_neg (by omega)])
    (fun i hi r hr => Ev.step (fun k => by rw [laws_eqChallengeS.l0, if_pos (by omega), if_pos (by omega), if_pos (by omega), l_laws_eqChallenge]; simp only [Option.bind_some, if_true]; rw [wrap_in (by omega)]; rfl) hr)
  refine Ev.congr (fun k => ?_) h
  unfold laws_eqChallengeS.f; rw [if_pos rfl]
theorem e_laws_eqChallengeBook (a b : Int) (l : List S90) (hl : l.length ≤ 1048576) : Ev (fun k => laws_eqChallengeBook.f k a b l a b l) true := by
  unfold laws_eqChallengeBook.f
  simp only [if_pos rfl]
  exact Ev.bind (e_laws_eqChallengeS l hl) (Ev.now _)
theorem p_FnExactFindChallenge (a b : Int) (l : List S103) (id : Int) (_ : (Lit.int .i64 a).wf = true) (_ : (Lit.int .i64 b).wf = true) (h : l.length ≤ 9223372036854775807 ∧ ∀ x ∈ l, (Lit.int .i64 x.f0).wf = true ∧ (Lit.int .i64 x.f1).wf = true ∧ (Lit.int .i64 x.f2).wf = true) (_ : (Lit.int .i64 id).wf = true) : ∃ k, laws_FnExactFindChallenge.f k a b l id = some true := by
  apply Ev.rounds
  unfold laws_FnExactFindChallenge.f
  rw [l_laws_szChallengeBook a b l _ (by omega) h.1]; simp only [Option.bind_some]
  by_cases g : szd 1048576 l.length < 0
  · simp only [if_pos g]; exact Ev.now _
  · simp only [if_neg g]; have hl := (szd_len g).1
    refine Ev.bind (e_laws_toChallengeBook a b l (by omega)) (Ev.bind (e_spec_FindChallenge _ _ _ _ (by first | omega | (simp; omega))) (Ev.bind (e_laws_toChallengeBook a b l (by omega)) (Ev.bind (e_impl_FindChallenge _ _ _ _ (by first | omega | (simp; omega))) ?_)))
    simp only [if_pos rfl]
    exact Ev.bind (e_laws_toChallengeBook a b l (by omega)) (Ev.bind (e_laws_eqChallengeBook _ _ _ (by first | omega | (simp; omega))) (Ev.now _))
end Go.Proofs.Ytbjhamjneelgeaa.SFnExactFindChallenge
