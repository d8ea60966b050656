/- Helping lemmas of the law FnExactExpireChallenges, in so far as it needs them; conditions: each lemma's own. -/
import Derived.Test.YtednmbifgnpkbaaZPFnExactExpireChallengesx7
import Derived.Test.YtednmbifgnpkbaaZMt
namespace Go.Proofs.Ytednmbifgnpkbaa.SFnExactExpireChallenges
open Go.RowKit Go.Proofs.Ytednmbifgnpkbaa.PFnExactExpireChallenges Go.Proofs.YtednmbifgnpkbaaW.PrintWords Go.Proofs.YtednmbifgnpkbaaW.PrintLast Go.Proofs.Ytednmbifgnpkbaa.Mt
set_option linter.unusedVariables false
set_option linter.unusedSimpArgs false
theorem l_laws_szChallengeS (l : List S141) (left : Int) (hl : 0 ≤ left ∧ left ≤ 1048576) (hn : l.length ≤ 9223372036854775807) : laws_szChallengeS.f l left = some (szd left l.length) := szd_eq hl hn
theorem l_laws_szChallengeBook (a b : Int) (l : List S141) (left : Int) (hl : 0 ≤ left ∧ left ≤ 1048576) (hn : l.length ≤ 9223372036854775807) : laws_szChallengeBook.f a b l left = some (szd left l.length) := by
  unfold laws_szChallengeBook.f
  rw [l_laws_szChallengeS l left hl hn]; simp only [Option.bind_some]
  by_cases h : szd left l.length < 0
  · rw [if_pos h]; have := szd_bd (n := l.length) hl; congr; omega
  · rw [if_neg h]
theorem l_spec_l1In (a0 a1 a2 : Int) : spec_l1In.f a0 a1 a2 = some (decide (a1 ≤ a0 ∧ a0 ≤ a2)) := by
  unfold spec_l1In.f
  by_cases h : a0 ≥ a1
  · rw [if_pos h]; simp [show a1 ≤ a0 from h]
  · rw [if_neg h]; simp [show ¬ a1 ≤ a0 from h]
def okC (n : Int) (l : List S35) (i : Nat) : Bool := decide (0 ≤ (rd_T35 l i).f0 ∧ (rd_T35 l i).f0 ≤ wrap64 (n - 1)) && !(decide (0 < i) && decide ((rd_T35 l (wrap64 ((i : Int) - 1))).f0 ≥ (rd_T35 l i).f0)) && decide (0 ≤ (rd_T35 l i).f1 ∧ (rd_T35 l i).f1 ≤ 1000005) && decide (0 ≤ (rd_T35 l i).f2 ∧ (rd_T35 l i).f2 ≤ 1000005)
def vbook (n : Int) (l : List S35) : Bool := decide (0 ≤ n ∧ n ≤ 1000000) && decide ((l.length : Int) ≤ 16) && srch (fun i => !okC n l i) (fun _ => false) true l.length 0
theorem srch_all (p : Nat → Bool) (b : Bool) : ∀ d i, srch p (fun _ => false) b d i = (b && srch p (fun _ => false) true d i)
  | 0, i => by simp [srch]
  | d + 1, i => by unfold srch; cases p i <;> simp [srch_all p b d (i + 1)]
theorem r_spec_IsValidBook (s n : Int) (l : List S35) (hl : l.length ≤ 1048576) (i : Nat) (hi : i < l.length) (k : Nat) :
    spec_IsValidBook.l0 (k + 1) (i : Int) s n l = if okC n l i = true then spec_IsValidBook.l0 k ((i + 1 : Nat) : Int) s n l else some false := by
  rw [spec_IsValidBook.l0, if_pos (by omega), if_pos (by omega)]
  simp only [l_spec_l1In, Option.bind_some]
  unfold okC
  cases decide (0 ≤ (rd_T35 l i).f0 ∧ (rd_T35 l i).f0 ≤ wrap64 (n - 1)) with
  | false => simp
  | true =>
    simp only [if_true, Bool.true_and]
    by_cases h0 : 0 < i
    · have hw : wrap64 ((i : Int) - 1) = (i : Int) - 1 := wrap_in (by omega)
      rw [if_pos (by omega), if_pos (by omega), if_pos (by omega), wrap_in (x := (i : Int) + 1) (by omega)]
      by_cases h1 : (rd_T35 l (wrap64 ((i : Int) - 1))).f0 ≥ (rd_T35 l i).f0
      · rw [if_pos h1]; simp [h0, h1]
      · rw [if_neg h1]
        cases decide (0 ≤ (rd_T35 l i).f1 ∧ (rd_T35 l i).f1 ≤ 1000005) <;> cases decide (0 ≤ (rd_T35 l i).f2 ∧ (rd_T35 l i).f2 ≤ 1000005) <;> simp [h0, h1]
    · rw [if_neg (by omega), wrap_in (x := (i : Int) + 1) (by omega)]
      cases decide (0 ≤ (rd_T35 l i).f1 ∧ (rd_T35 l i).f1 ≤ 1000005) <;> cases decide (0 ≤ (rd_T35 l i).f2 ∧ (rd_T35 l i).f2 ≤ 1000005) <;> simp [h0]
theorem e_spec_IsValidBook (s n : Int) (l : List S35) (hl : l.length ≤ 1048576) : Ev (fun k => spec_IsValidBook.f k s n l) (vbook n l) := by
  unfold vbook; rw [← srch_all]
  exact find_loop (F := fun k i => spec_IsValidBook.l0 k i s n l) (n := l.length) (ev1 fun k => by
      rw [spec_IsValidBook.l0, if_neg (by omega)]; simp only [l_spec_l1In, Option.bind_some]
      cases decide (0 ≤ n ∧ n ≤ 1000000) <;> simp)
    (fun i hi hp => ev1 fun k => by rw [r_spec_IsValidBook s n l hl i hi, if_neg (by simpa using hp)])
    (fun i hi hp r hr => Ev.step (fun k => by rw [r_spec_IsValidBook s n l hl i hi, if_pos (by simpa using hp)]) hr) l.length 0 (by omega)
theorem l_spec_l12Copy (a b : Int) (l : List S35) (hl : l.length ≤ 4194304) : spec_l12Copy.f a b l = some (a, b, l) := by
  unfold spec_l12Copy.f; simp only [Option.bind_some, List.length_nil]; rw [if_pos (by omega)]; simp
theorem rdC_set (o : List S35) (i : Nat) (x : S35) (h : i < o.length) : rd_T35 (o.set i x) (i : Int) = x := by
  simp [rd_T35, List.getD, h]
def mkC (i : Nat) : S35 := ⟨1 + 3 * (i : Int), 2 + 3 * (i : Int), 3 + 3 * (i : Int)⟩
def mksC (n : Nat) : List S35 := (List.range n).map mkC
theorem mksC_length (n : Nat) : (mksC n).length = n := by simp [mksC]
theorem rd_mksC {n i : Nat} (h : i < n) : rd_T35 (mksC n) (i : Int) = mkC i := by
  have h2 : i < (mksC n).length := by rw [mksC_length]; exact h
  have e := rdOf_in z35 h2
  unfold rd_T35; rw [e]; simp [mksC]
def expC (a b : Int) (l : List S35) (now : Int) : Int × Int × List S35 := (a, b, if vbook b l = true then l.filter (fun c => decide (c.f2 ≥ now)) else l)
theorem expC_len (a b : Int) (l : List S35) (now : Int) : (expC a b l now).2.2.length ≤ l.length := by
  unfold expC; simp only; split
  · exact List.length_filter_le _ _
  · exact Nat.le_refl _
theorem e_spec_ExpireChallenges_l0 (s n : Int) (l : List S35) (now : Int) (hl : l.length ≤ 1048576) : ∀ (d i : Nat) (o : List S35), i + d = l.length → o.length ≤ i → Ev (fun k => spec_ExpireChallenges.l0 k now (i : Int) s n l s n o) (s, n, o ++ (l.drop i).filter (fun c => decide (c.f2 ≥ now)))
  | 0, i, o, h, _ => by rw [drop_end (by omega)]; exact ev1 fun k => by rw [spec_ExpireChallenges.l0, if_neg (by omega)]; simp
  | d + 1, i, o, h, ho => by
    have hi : i < l.length := by omega
    have hx : rd_T35 l (i : Int) = l[i] := rdOf_in _ hi
    rw [drop_at hi, List.filter_cons]
    by_cases hp : l[i].f2 ≥ now
    · rw [if_pos (decide_eq_true hp)]
      have hr := e_spec_ExpireChallenges_l0 s n l now hl d (i + 1) (o ++ [l[i]]) (by omega) (by simp; omega)
      rw [List.append_assoc, List.singleton_append] at hr
      refine Ev.step (fun k => ?_) hr
      rw [spec_ExpireChallenges.l0, hx, if_pos (by omega), if_pos (by omega), if_pos hp, if_pos (by omega), wrap_in (by omega)]; rfl
    · rw [if_neg (by simpa using hp)]
      refine Ev.step (fun k => ?_) (e_spec_ExpireChallenges_l0 s n l now hl d (i + 1) o (by omega) (by omega))
      rw [spec_ExpireChallenges.l0, hx, if_pos (by omega), if_pos (by omega), if_neg hp, wrap_in (by omega)]; rfl
theorem e_spec_ExpireChallenges (a b : Int) (l : List S35) (now : Int) (hl : l.length ≤ 1048576) : Ev (fun k => spec_ExpireChallenges.f k a b l now) (expC a b l now) := by
  unfold spec_ExpireChallenges.f expC
  refine Ev.bind (e_spec_IsValidBook a b l hl) ?_
  by_cases hv : vbook b l = true
  · simp only [if_pos hv]; exact e_spec_ExpireChallenges_l0 a b l now hl l.length 0 [] (by omega) (by simp)
  · simp only [if_neg hv, l_spec_l12Copy a b l (by omega), Option.bind_some]; exact Ev.now _
def convChallenge (x : S141) : S35 := ⟨x.f0, x.f1, x.f2⟩
theorem e_laws_toChallengeS (l : List S141) (hl : l.length ≤ 1048576) : Ev (fun k => laws_toChallengeS.f k l) (l.map convChallenge) := by
  have h := copy_loop (F := fun k o i => laws_toChallengeS.l0 k l o i) (l := l) (conv := convChallenge) (fun o ho => ev1 fun k => by rw [laws_toChallengeS.l0, if_neg (by omega)])
    (fun o i hi ho r hr => Ev.step (fun k => by
      have hx : rd_T141 l (i : Int) = l[i] := rdOf_in _ hi
      rw [laws_toChallengeS.l0, if_pos (by omega), if_pos (by omega), hx]; unfold laws_toChallenge.f; simp only [Option.bind_some]
      rw [if_pos (by omega), wrap_in (by omega)]; rfl) hr) (List.replicate l.length z35) (by simp)
  refine Ev.congr (fun k => ?_) h
  unfold laws_toChallengeS.f
  rw [if_pos (by omega), if_pos (by omega)]; rfl
theorem e_laws_toChallengeBook (a b : Int) (l : List S141) (hl : l.length ≤ 1048576) : Ev (fun k => laws_toChallengeBook.f k a b l) (a, b, l.map convChallenge) := by
  unfold laws_toChallengeBook.f
  exact Ev.bind (e_laws_toChallengeS l hl) (Ev.now _)
theorem l_impl_InRange (a0 a1 a2 : Int) : impl_InRange.f a0 a1 a2 = some (decide (a1 ≤ a0 ∧ a0 ≤ a2)) := by
  unfold impl_InRange.f
  by_cases h : a1 ≤ a0
  · rw [if_pos h]; simp [h]
  · rw [if_neg h]; simp [h]
theorem r_impl_IsValidBook (s n : Int) (l : List S35) (hl : l.length ≤ 1048576) (i : Nat) (hi : i < l.length) (k : Nat) :
    impl_IsValidBook.l0 (k + 1) l (l.length : Int) (i : Int) s n l = if okC n l i = true then impl_IsValidBook.l0 k l (l.length : Int) ((i + 1 : Nat) : Int) s n l else some false := by
  rw [impl_IsValidBook.l0, if_pos (by omega), if_pos (by omega), if_pos (by omega)]
  simp only [l_impl_InRange, Option.bind_some]
  unfold okC
  cases decide (0 ≤ (rd_T35 l i).f0 ∧ (rd_T35 l i).f0 ≤ wrap64 (n - 1)) with
  | false => simp
  | true =>
    simp only [if_true, Bool.true_and]
    by_cases h0 : 0 < i
    · have hw : wrap64 ((i : Int) - 1) = (i : Int) - 1 := wrap_in (by omega)
      rw [if_pos (by omega), if_pos (by omega), if_pos (by omega), wrap_in (x := (i : Int) + 1) (by omega)]
      by_cases h1 : (rd_T35 l (wrap64 ((i : Int) - 1))).f0 ≥ (rd_T35 l i).f0
      · rw [if_pos h1]; simp [h0, h1]
      · rw [if_neg h1]
        cases decide (0 ≤ (rd_T35 l i).f1 ∧ (rd_T35 l i).f1 ≤ 1000005) <;> cases decide (0 ≤ (rd_T35 l i).f2 ∧ (rd_T35 l i).f2 ≤ 1000005) <;> simp [h0, h1]
    · rw [if_neg (by omega), wrap_in (x := (i : Int) + 1) (by omega)]
      cases decide (0 ≤ (rd_T35 l i).f1 ∧ (rd_T35 l i).f1 ≤ 1000005) <;> cases decide (0 ≤ (rd_T35 l i).f2 ∧ (rd_T35 l i).f2 ≤ 1000005) <;> simp [h0]
theorem e_impl_IsValidBook (s n : Int) (l : List S35) (hl : l.length ≤ 1048576) : Ev (fun k => impl_IsValidBook.f k s n l) (vbook n l) := by
  unfold impl_IsValidBook.f vbook
  simp only [l_impl_InRange, Option.bind_some]
  cases decide (0 ≤ n ∧ n ≤ 1000000) with
  | false => simp only [Bool.false_and, Bool.false_eq_true, if_false]; exact ev1 fun k => by rw [impl_IsValidBook.j0, if_pos rfl]
  | true =>
    simp only [if_true, Bool.true_and]
    by_cases h : (l.length : Int) ≤ 16
    · rw [decide_eq_true h, Bool.true_and]
      refine Ev.step (fun k => by rw [impl_IsValidBook.j0, if_neg (by simp; omega)]) ?_
      exact find_loop (F := fun k i => impl_IsValidBook.l0 k l (l.length : Int) i s n l) (n := l.length) (ev1 fun k => by rw [impl_IsValidBook.l0, if_neg (by omega)])
        (fun i hi hp => ev1 fun k => by rw [r_impl_IsValidBook s n l hl i hi, if_neg (by simpa using hp)])
        (fun i hi hp r hr => Ev.step (fun k => by rw [r_impl_IsValidBook s n l hl i hi, if_pos (by simpa using hp)]) hr) l.length 0 (by omega)
    · rw [decide_eq_false h, Bool.false_and]
      exact ev1 fun k => by rw [impl_IsValidBook.j0, if_pos (by simp; omega)]
theorem l_impl_copyBook (a b : Int) (l : List S35) (hl : l.length ≤ 4194304) : impl_copyBook.f a b l = some (a, b, l) := by
  unfold impl_copyBook.f; simp only [Option.bind_some, List.length_nil]; rw [if_pos (by omega)]; simp
theorem e_impl_ExpireChallenges_l0 (s n : Int) (l : List S35) (now : Int) (hl : l.length ≤ 1048576) : ∀ (d i : Nat) (o : List S35), i + d = l.length → o.length ≤ i → Ev (fun k => impl_ExpireChallenges.l0 k now l (l.length : Int) (i : Int) s n o) (s, n, o ++ (l.drop i).filter (fun c => decide (c.f2 ≥ now)))
  | 0, i, o, h, _ => by rw [drop_end (by omega)]; exact ev1 fun k => by rw [impl_ExpireChallenges.l0, if_neg (by omega)]; simp
  | d + 1, i, o, h, ho => by
    have hi : i < l.length := by omega
    have hx : rd_T35 l (i : Int) = l[i] := rdOf_in _ hi
    rw [drop_at hi, List.filter_cons]
    by_cases hp : l[i].f2 ≥ now
    · rw [if_pos (decide_eq_true hp)]
      have hr := e_impl_ExpireChallenges_l0 s n l now hl d (i + 1) (o ++ [l[i]]) (by omega) (by simp; omega)
      rw [List.append_assoc, List.singleton_append] at hr
      refine Ev.step (fun k => ?_) hr
      rw [impl_ExpireChallenges.l0, hx, if_pos (by omega), if_pos (by omega), if_pos (by omega), if_pos hp, if_pos (by omega), wrap_in (by omega)]; rfl
    · rw [if_neg (by simpa using hp)]
      refine Ev.step (fun k => ?_) (e_impl_ExpireChallenges_l0 s n l now hl d (i + 1) o (by omega) (by omega))
      rw [impl_ExpireChallenges.l0, hx, if_pos (by omega), if_pos (by omega), if_pos (by omega), if_neg hp, wrap_in (by omega)]; rfl
theorem e_impl_ExpireChallenges (a b : Int) (l : List S35) (now : Int) (hl : l.length ≤ 1048576) : Ev (fun k => impl_ExpireChallenges.f k a b l now) (expC a b l now) := by
  unfold impl_ExpireChallenges.f expC
  simp only [l_impl_copyBook a b l (by omega), Option.bind_some]
  refine Ev.bind (e_impl_IsValidBook a b l hl) ?_
  by_cases hv : vbook b l = true
  · simp only [if_pos hv]; exact e_impl_ExpireChallenges_l0 a b l now hl l.length 0 [] (by omega) (by simp)
  · simp only [if_neg hv]; exact Ev.now _
theorem l_laws_eqChallenge (x : S35) : laws_eqChallenge.f x.f0 x.f1 x.f2 x.f0 x.f1 x.f2 = some true := by
  unfold laws_eqChallenge.f; simp
theorem e_laws_eqChallengeS (l : List S35) (hl : l.length ≤ 4194304) : Ev (fun k => laws_eqChallengeS.f k l l) true := by
  have h := skip_loop (F := fun k i => laws_eqChallengeS.l0 k l l i) (n := l.length) (r := true) (ev1 fun k => by rw [laws_eqChallengeS.l0, if_neg (by omega)])
    (fun i hi r hr => Ev.step (fun k => by rw [laws_eqChallengeS.l0, if_pos (by omega), if_pos (by omega), if_pos (by omega), l_laws_eqChallenge]; simp only [Option.bind_some, if_true]; rw [wrap_in (by omega)]; rfl) hr)
  refine Ev.congr (fun k => ?_) h
  unfold laws_eqChallengeS.f; rw [if_pos rfl]
theorem e_laws_eqChallengeBook (a b : Int) (l : List S35) (hl : l.length ≤ 4194304) : Ev (fun k => laws_eqChallengeBook.f k a b l a b l) true := by
  unfold laws_eqChallengeBook.f
  simp only [if_pos rfl]
  exact Ev.bind (e_laws_eqChallengeS l hl) (Ev.now _)
theorem e_laws_markChallengeS (l : List S35) (hl : l.length ≤ 4194304) : Ev (fun k => laws_markChallengeS.f k l 1) (1 + 3 * (l.length : Int), mksC l.length) :=
  fill_loop (F := fun k o i => laws_markChallengeS.l0 k o (1 + 3 * i) i) (n := l.length) (g := mkC) (fin := fun o => (1 + 3 * (l.length : Int), o))
    (fun o ho => ev1 fun k => by rw [laws_markChallengeS.l0, if_neg (by omega)])
    (fun o i hi ho r hr => Ev.step (fun k => by
      have h1 : ∀ (q : List S35) (x : S35), i < q.length → rd_T35 (q.set ((i : Int)).toNat x) (i : Int) = x := fun q x hq => by rw [Int.toNat_natCast]; exact rdC_set q i x hq
      rw [laws_markChallengeS.l0, if_pos (by omega), if_pos (by omega)]
      simp only [Option.bind_some]
      rw [h1 _ _ (by omega), h1 _ _ (by simp; omega), List.set_set, List.set_set, Int.toNat_natCast, wrap_in (x := 1 + 3 * (i : Int) + 1) (by omega), wrap_in (x := 1 + 3 * (i : Int) + 1 + 1) (by omega), wrap_in (x := 1 + 3 * (i : Int) + 1 + 1 + 1) (by omega), wrap_in (x := (i : Int) + 1) (by omega),
        show (1 + 3 * (i : Int) + 1 + 1 + 1) = 1 + 3 * ((i + 1 : Nat) : Int) by omega]
      have e : (⟨1 + 3 * (i : Int), 1 + 3 * (i : Int) + 1, 1 + 3 * (i : Int) + 1 + 1⟩ : S35) = mkC i := by
        unfold mkC; congr 1 <;> omega
      rw [e]; rfl) hr) l rfl
theorem e_laws_markChallengeBook (a b : Int) (l : List S35) (hl : l.length ≤ 4194304) : Ev (fun k => laws_markChallengeBook.f k a b l 1) (1 + 3 * (l.length : Int), mksC l.length) := by
  unfold laws_markChallengeBook.f
  exact Ev.bind (e_laws_markChallengeS l hl) (Ev.now _)
theorem e_laws_heldChallengeS (n : Nat) (hn : n ≤ 4194304) : Ev (fun k => laws_heldChallengeS.f k (mksC n) 1) (1 + 3 * (n : Int)) :=
  skip_loop (F := fun k i => laws_heldChallengeS.l0 k (mksC n) (1 + 3 * i) i) (n := n) (r := 1 + 3 * (n : Int)) (ev1 fun k => by rw [laws_heldChallengeS.l0, mksC_length, if_neg (by omega)])
    (fun i hi r hr => Ev.step (fun k => by
      rw [laws_heldChallengeS.l0, mksC_length, if_pos (by omega), if_pos (by omega), rd_mksC hi, wrap_in (x := 1 + 3 * (i : Int) + 1) (by omega), wrap_in (x := 1 + 3 * (i : Int) + 1 + 1) (by omega), wrap_in (x := 1 + 3 * (i : Int) + 1 + 1 + 1) (by omega), wrap_in (x := (i : Int) + 1) (by omega)]
      unfold mkC
      rw [if_pos rfl, if_pos (by simp only; omega), if_pos (by simp only; omega), show (1 + 3 * (i : Int) + 1 + 1 + 1) = 1 + 3 * ((i + 1 : Nat) : Int) by omega]; rfl) hr)
theorem e_laws_heldChallengeBook (a b : Int) (n : Nat) (hn : n ≤ 4194304) : Ev (fun k => laws_heldChallengeBook.f k a b (mksC n) 1) (1 + 3 * (n : Int)) := by
  unfold laws_heldChallengeBook.f
  refine Ev.bind (e_laws_heldChallengeS n hn) ?_
  simp only [if_neg (show ¬ 1 + 3 * (n : Int) < 0 by omega)]; exact Ev.now _
theorem p_FnExactExpireChallenges (a b : Int) (l : List S141) (now : Int) (_ : (Lit.int .i64 a).wf = true) (_ : (Lit.int .i64 b).wf = true) (h : l.length ≤ 9223372036854775807 ∧ ∀ x ∈ l, (Lit.int .i64 x.f0).wf = true ∧ (Lit.int .i64 x.f1).wf = true ∧ (Lit.int .i64 x.f2).wf = true) (_ : (Lit.int .i64 now).wf = true) : ∃ k, laws_FnExactExpireChallenges.f k a b l now = some true := by
  apply Ev.rounds
  unfold laws_FnExactExpireChallenges.f
  rw [l_laws_szChallengeBook a b l _ (by omega) h.1]; simp only [Option.bind_some]
  by_cases g : szd 1048576 l.length < 0
  · simp only [if_pos g]; exact Ev.now _
  · simp only [if_neg g]; have hl' := (szd_len g).1
    have hl : l.length ≤ 1048576 := by omega
    have hm : (l.map convChallenge).length ≤ 1048576 := by simp; omega
    have ht : (expC a b (l.map convChallenge) now).2.2.length ≤ 1048576 := Nat.le_trans (expC_len _ _ _ _) hm
    refine Ev.bind (e_laws_toChallengeBook a b l hl) (Ev.bind (e_spec_ExpireChallenges a b _ now hm) (Ev.bind (e_laws_toChallengeBook a b l hl) (Ev.bind (e_impl_ExpireChallenges a b _ now hm) (Ev.bind (e_laws_eqChallengeBook _ _ _ (Nat.le_trans ht (by omega))) ?_))))
    simp only [if_true]
    refine Ev.bind (e_laws_toChallengeBook a b l hl) (Ev.bind (e_laws_eqChallengeBook _ _ _ (Nat.le_trans hm (by omega))) ?_)
    simp only [if_true]
    refine Ev.bind (e_laws_markChallengeBook _ _ _ (by omega)) ?_
    simp only [if_neg (show ¬ 1 + 3 * ((l.map convChallenge).length : Int) < 0 by omega)]
    refine Ev.bind (e_laws_eqChallengeBook _ _ _ (Nat.le_trans ht (by omega))) ?_
    simp only [Bool.not_true]
    refine Ev.step (fun k => by rw [laws_FnExactExpireChallenges.j0, if_neg (by simp)]) ?_
    refine Ev.bind (e_laws_markChallengeBook _ _ _ (by omega)) (Ev.bind (e_laws_heldChallengeBook _ _ _ (by omega)) ?_)
    simp only [if_neg (show ¬ 1 + 3 * ((expC a b (l.map convChallenge) now).2.2.length : Int) < 0 by omega), if_true]
    refine Ev.bind (e_laws_toChallengeBook a b l hl) (Ev.bind (e_impl_ExpireChallenges a b _ now hm) (Ev.bind (e_laws_eqChallengeBook _ _ _ (Nat.le_trans ht (by omega))) ?_))
    simp only [if_true]
    refine Ev.bind (e_laws_heldChallengeBook _ _ _ (by omega)) ?_
    simp only [if_neg (show ¬ 1 + 3 * ((expC a b (l.map convChallenge) now).2.2.length : Int) < 0 by omega), if_true]
    exact Ev.now _
end Go.Proofs.Ytednmbifgnpkbaa.SFnExactExpireChallenges

