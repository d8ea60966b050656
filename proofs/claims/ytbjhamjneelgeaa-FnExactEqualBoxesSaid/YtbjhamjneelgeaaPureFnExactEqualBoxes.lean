/- The law FnExactEqualBoxes, in plain numbers and lists: what its Go functions compute (as the kit's print tells it) answers true. Conditions: what the reading of the arguments gives (each number of its kind, each length a length). -/
import Derived.Test.YtbjhamjneelgeaaPFnExactEqualBoxesx2
import Derived.Test.YtbjhamjneelgeaaMt
namespace Go.Proofs.Ytbjhamjneelgeaa.SFnExactEqualBoxes
open Go.RowKit Go.Proofs.Ytbjhamjneelgeaa.PFnExactEqualBoxes Go.Proofs.YtbjhamjneelgeaaW.PrintWords Go.Proofs.YtbjhamjneelgeaaW.PrintLast Go.Proofs.Ytbjhamjneelgeaa.Mt
set_option linter.unusedVariables false
set_option linter.unusedSimpArgs false
theorem l_laws_szByteS (l : List Int) (left : Int) (hl : 0 ≤ left ∧ left ≤ 1048576) (hn : l.length ≤ 9223372036854775807) : laws_szByteS.f l left = some (szd left l.length) := szd_eq hl hn
theorem l_laws_szBox (a b : Int) (l : List Int) (c : Int) (left : Int) (hl : 0 ≤ left ∧ left ≤ 1048576) (hn : l.length ≤ 9223372036854775807) : laws_szBox.f a b l c left = some (szd left l.length) := by
  unfold laws_szBox.f
  rw [l_laws_szByteS l left hl hn]; simp only [Option.bind_some]
  by_cases h : szd left l.length < 0
  · rw [if_pos h]; have := szd_bd (n := l.length) hl; congr; omega
  · rw [if_neg h]
theorem l_spec_EqualBytes (a b : List Int) : spec_EqualBytes.f a b = some ((strOfNums a).toList == (strOfNums b).toList) := rfl
theorem e_laws_toByteS (l : List Int) (hl : l.length ≤ 1048576) : Ev (fun k => laws_toByteS.f k l) l := by
  have h := copy_loop (F := fun k o i => laws_toByteS.l0 k l o i) (l := l) (conv := id) (fun o ho => ev1 fun k => by rw [laws_toByteS.l0, if_neg (by omega)])
    (fun o i hi ho r hr => Ev.step (fun k => by rw [laws_toByteS.l0, if_pos (by omega), if_pos (by omega), if_pos (by omega), rd_in hi, wrap_in (by omega)]; rfl) hr) (List.replicate l.length 0) (by simp)
  rw [List.map_id] at h
  refine Ev.congr (fun k => ?_) h
  unfold laws_toByteS.f
  rw [if_pos (by omega), if_pos (by omega)]; rfl
theorem e_laws_toBox (a b : Int) (l : List Int) (c : Int) (hl : l.length ≤ 1048576) : Ev (fun k => laws_toBox.f k a b l c) (a, b, l, c) := by
  unfold laws_toBox.f
  exact Ev.bind (e_laws_toByteS l hl) (Ev.now _)
theorem l_impl_EqualBytes (a b : List Int) : impl_EqualBytes.f a b = some ((strOfNums a).toList == (strOfNums b).toList) := rfl
theorem e_laws_eqByteS (l : List Int) (hl : l.length ≤ 1048576) : Ev (fun k => laws_eqByteS.f k l l) true := by
  have h := skip_loop (F := fun k i => laws_eqByteS.l0 k l l i) (n := l.length) (r := true) (ev1 fun k => by rw [laws_eqByteS.l0, if_neg (by omega)])
    (fun i hi r hr => Ev.step (fun k => by rw [laws_eqByteS.l0, if_pos (by omega), if_pos (by omega), if_pos (by omega), if_pos rfl, wrap_in (by omega)]; rfl) hr)
  refine Ev.congr (fun k => ?_) h
  unfold laws_eqByteS.f; rw [if_pos rfl]
theorem e_laws_eqBox (a b : Int) (l : List Int) (c : Int) (hl : l.length ≤ 1048576) : Ev (fun k => laws_eqBox.f k a b l c a b l c) true := by
  unfold laws_eqBox.f
  simp only [if_true, if_pos rfl]
  exact Ev.bind (e_laws_eqByteS l hl) (Ev.now _)
theorem p_FnExactEqualBoxes (a0 a1 : Int) (l : List Int) (a3 b0 b1 : Int) (m : List Int) (b3 : Int) (_ : (Lit.int .i64 a0).wf = true) (_ : (Lit.int .i64 a1).wf = true) (hl : l.length ≤ 9223372036854775807 ∧ ∀ x ∈ l, (Lit.int .u8 x).wf = true) (_ : (Lit.int .i64 a3).wf = true)
    (_ : (Lit.int .i64 b0).wf = true) (_ : (Lit.int .i64 b1).wf = true) (hm : m.length ≤ 9223372036854775807 ∧ ∀ x ∈ m, (Lit.int .u8 x).wf = true) (_ : (Lit.int .i64 b3).wf = true) : ∃ k, laws_FnExactEqualBoxes.f k a0 a1 l a3 b0 b1 m b3 = some true := by
  apply Ev.rounds
  unfold laws_FnExactEqualBoxes.f
  rw [l_laws_szBox _ _ l _ _ (by omega) hl.1]; simp only [Option.bind_some]
  by_cases g : szd 1048576 l.length < 0
  · simp only [if_pos g]; exact Ev.now _
  · simp only [if_neg g]; have h1 := szd_len g; have h2 := szd_bd (left := 1048576) (n := l.length) (by omega)
    rw [l_laws_szBox _ _ m _ _ (by omega) hm.1]; simp only [Option.bind_some]
    by_cases g2 : szd (szd 1048576 l.length) m.length < 0
    · simp only [if_pos g2]; exact Ev.now _
    · simp only [if_neg g2]; have h3 := szd_len g2
      refine Ev.bind (e_laws_toBox a0 a1 l a3 (by omega)) (Ev.bind (e_laws_toBox b0 b1 m b3 (by omega)) ?_)
      have e : spec_EqualBoxes.f a0 a1 l a3 b0 b1 m b3 = some (decide (a0 = b0) && decide (a1 = b1) && decide (a3 = b3) && ((strOfNums l).toList == (strOfNums m).toList)) := by
        unfold spec_EqualBoxes.f; rw [l_spec_EqualBytes]
        by_cases q0 : a0 = b0 <;> by_cases q1 : a1 = b1 <;> by_cases q3 : a3 = b3 <;> simp [q0, q1, q3]
      have e' : impl_EqualBoxes.f a0 a1 l a3 b0 b1 m b3 = some (decide (a0 = b0) && decide (a1 = b1) && decide (a3 = b3) && ((strOfNums l).toList == (strOfNums m).toList)) := by
        unfold impl_EqualBoxes.f; rw [l_impl_EqualBytes]
        by_cases q0 : a0 = b0 <;> by_cases q1 : a1 = b1 <;> by_cases q3 : a3 = b3 <;> cases ((strOfNums l).toList == (strOfNums m).toList) <;> simp [q0, q1, q3]
      simp only [e]; simp only [Option.bind_some]
      refine Ev.bind (e_laws_toBox a0 a1 l a3 (by omega)) (Ev.bind (e_laws_toBox b0 b1 m b3 (by omega)) ?_)
      simp only [e', Option.bind_some, bne_self_eq_false, Bool.false_eq_true, if_false]
      refine Ev.bind (e_laws_toBox a0 a1 l a3 (by omega)) (Ev.bind (e_laws_eqBox _ _ _ _ (by first | omega | (simp; omega))) ?_)
      simp only [if_true]
      exact Ev.bind (e_laws_toBox b0 b1 m b3 (by omega)) (Ev.bind (e_laws_eqBox _ _ _ _ (by first | omega | (simp; omega))) (Ev.now _))
end Go.Proofs.Ytbjhamjneelgeaa.SFnExactEqualBoxes
