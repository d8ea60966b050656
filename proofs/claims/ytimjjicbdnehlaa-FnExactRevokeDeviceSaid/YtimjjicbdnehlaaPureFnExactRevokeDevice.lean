/- The law FnExactRevokeDevice, in plain numbers and lists: what its Go functions compute (as the kit's print tells it) answers true. Conditions: what the reading of the arguments gives (each number of its kind, each length a length). -/
import Derived.Test.YtimjjicbdnehlaaPFnExactRevokeDevicex6
import Derived.Test.YtimjjicbdnehlaaMt
namespace Go.Proofs.Ytimjjicbdnehlaa.SFnExactRevokeDevice
open Go.RowKit Go.Proofs.Ytimjjicbdnehlaa.PFnExactRevokeDevice Go.Proofs.YtimjjicbdnehlaaW.PrintWords Go.Proofs.YtimjjicbdnehlaaW.PrintLast Go.Proofs.Ytimjjicbdnehlaa.Mt
set_option linter.unusedVariables false
set_option linter.unusedSimpArgs false
theorem l_laws_szIntS (l : List Int) (left : Int) (hl : 0 ≤ left ∧ left ≤ 1048576) (hn : l.length ≤ 9223372036854775807) : laws_szIntS.f l left = some (szd left l.length) := szd_eq hl hn
theorem l_laws_szVendorList (m : Int) (l : List Int) (left : Int) (hl : 0 ≤ left ∧ left ≤ 1048576) (hn : l.length ≤ 9223372036854775807) : laws_szVendorList.f m l left = some (szd left l.length) := by
  unfold laws_szVendorList.f
  rw [l_laws_szIntS l left hl hn]; simp only [Option.bind_some]
  by_cases h : szd left l.length < 0
  · rw [if_pos h]; have := szd_bd (n := l.length) hl; congr; omega
  · rw [if_neg h]
theorem l_spec_l1In (a0 a1 a2 : Int) : spec_l1In.f a0 a1 a2 = some (decide (a1 ≤ a0 ∧ a0 ≤ a2)) := by
  unfold spec_l1In.f
  by_cases h : a0 ≥ a1
  · rw [if_pos h]; simp [show a1 ≤ a0 from h]
  · rw [if_neg h]; simp [show ¬ a1 ≤ a0 from h]
theorem l_spec_IsValidKey (a : Int) : spec_IsValidKey.f a = some (vkey a) := by
  unfold spec_IsValidKey.f; rw [l_spec_l1In]; rfl
theorem srch_and (p : Nat → Bool) (b : Bool) : ∀ d i, srch p (fun _ => false) b d i = (b && srch p (fun _ => false) true d i)
  | 0, i => by simp [srch]
  | d + 1, i => by unfold srch; cases p i <;> simp [srch_and p b d (i + 1)]
theorem e_spec_IsValidList (m : Int) (l : List Int) (hl : l.length ≤ 4194304) : Ev (fun k => spec_IsValidList.f k m l) (vkey m && ascB l) := by
  unfold ascB; rw [← srch_and]
  exact find_from (F := fun k i => spec_IsValidList.l0 k i m l) (n := max l.length 1) (s := 1) (ev1 fun k => by rw [spec_IsValidList.l0, if_neg (by omega), l_spec_IsValidKey]; rfl)
    (fun i hs hi hp => ev1 fun k => by rw [spec_IsValidList.l0, if_pos (by omega), if_pos (by rw [wrap_in (by omega)]; omega), if_pos (by rw [wrap_in (by omega)]; omega), if_pos (by omega), if_pos (of_decide_eq_true hp)])
    (fun i hs hi hp r hr => Ev.step (fun k => by rw [spec_IsValidList.l0, if_pos (by omega), if_pos (by rw [wrap_in (by omega)]; omega), if_pos (by rw [wrap_in (by omega)]; omega), if_pos (by omega), if_neg (of_decide_eq_false hp), wrap_in (x := (i : Int) + 1) (by omega)]; rfl) hr) (max l.length 1 - 1) 1 (by omega) (by omega)
theorem l_spec_l11Range (v s : Int) : spec_l11Range.f v s = some (decide (1 ≤ v ∧ v ≤ 9) && decide (0 ≤ s ∧ s ≤ 1000000)) := by
  unfold spec_l11Range.f; simp only [l_spec_l1In, Option.bind_some]
  cases decide (1 ≤ v ∧ v ≤ 9) <;> simp
theorem e_spec_IsRevoked (m : Int) (l : List Int) (v s : Int) (hl : l.length ≤ 4194304) : Ev (fun k => spec_IsRevoked.f k m l v s) (srch (fun i => decide (rd l i = wrap64 ((wrap64 (v * 10000000)) + s))) (fun _ => true) false l.length 0) :=
  find_loop (F := fun k i => spec_IsRevoked.l0 k v s i m l) (n := l.length) (ev1 fun k => by rw [spec_IsRevoked.l0, if_neg (by omega)])
    (fun i hi hp => ev1 fun k => by rw [spec_IsRevoked.l0, if_pos (by omega), if_pos (by omega), if_pos (of_decide_eq_true hp)])
    (fun i hi hp r hr => Ev.step (fun k => by rw [spec_IsRevoked.l0, if_pos (by omega), if_pos (by omega), if_neg (of_decide_eq_false hp), wrap_in (by omega)]; rfl) hr) l.length 0 (by omega)
theorem l_spec_l11Copy (m : Int) (l : List Int) (hl : l.length ≤ 4194304) : spec_l11Copy.f m l = some (m, l) := by
  unfold spec_l11Copy.f; simp only [Option.bind_some, List.length_nil]; rw [if_pos (by omega)]; simp
def insL (l : List Int) (x : Int) (i : Nat) : List Int := l.take i ++ x :: l.drop i
def rvx (v s : Int) : Int := wrap64 ((wrap64 (v * 10000000)) + s)
def rvkd (m : Int) (l : List Int) (v s : Int) : Int × List Int × Bool :=
  if (vkey m && ascB l) = true ∧ (1 ≤ v ∧ v ≤ 9) ∧ (0 ≤ s ∧ s ≤ 1000000) ∧ rvk l v s = false then srch (fun i => !decide (rd l i < rvx v s)) (fun i => (m, insL l (rvx v s) i, true)) (m, insL l (rvx v s) l.length, true) l.length 0 else (m, l, false)
theorem insL_len (l : List Int) (x : Int) (i : Nat) : (insL l x i).length = l.length + 1 := by unfold insL; simp; omega
theorem rvkd_len (m : Int) (l : List Int) (v s : Int) : (rvkd m l v s).2.1.length ≤ l.length + 1 := by
  unfold rvkd; split
  · rcases srch_cases (p := fun i => !decide (rd l i < rvx v s)) (hit := fun i => (m, insL l (rvx v s) i, true)) (r0 := (m, insL l (rvx v s) l.length, true)) l.length 0 with h | ⟨j, _, _, h3, _⟩
    · rw [h.1]; simp only [insL_len]; exact Nat.le_refl _
    · rw [h3]; simp only [insL_len]; exact Nat.le_refl _
  · simp
theorem e_spec_RevokeDevice_l0 (m : Int) (l : List Int) (x : Int) (hl : l.length ≤ 2097152) : Ev (fun k => spec_RevokeDevice.l0 k x 0 m l) (srch (fun i => !decide (rd l i < x)) (fun i => (m, insL l x i, true)) (m, insL l x l.length, true) l.length 0) :=
  find_loop (F := fun k i => spec_RevokeDevice.l0 k x i m l) (n := l.length) (ev1 fun k => by
      rw [spec_RevokeDevice.l0, if_neg (by omega)]; simp only [Option.bind_some, List.nil_append, List.length_nil, Int.toNat_natCast]
      rw [if_pos (by omega), if_pos (by omega), if_pos (by simp; omega), if_pos (by simp; omega), if_pos (by simp; omega)]; simp [insL])
    (fun i hi hp => ev1 fun k => by
      rw [spec_RevokeDevice.l0, if_pos (by omega), if_pos (by omega), if_neg (by simpa using hp)]; simp only [Option.bind_some, List.nil_append, List.length_nil, Int.toNat_natCast]
      rw [if_pos (by omega), if_pos (by simp; omega), if_pos (by simp; omega), if_pos (by simp; omega)]; simp [insL])
    (fun i hi hp r hr => Ev.step (fun k => by rw [spec_RevokeDevice.l0, if_pos (by omega), if_pos (by omega), if_pos (by simpa using hp), wrap_in (by omega)]; rfl) hr) l.length 0 (by omega)
theorem e_spec_RevokeDevice (m : Int) (l : List Int) (v s : Int) (hl : l.length ≤ 1048576) : Ev (fun k => spec_RevokeDevice.f k m l v s) (rvkd m l v s) := by
  unfold spec_RevokeDevice.f rvkd
  have no : ∀ b : Bool, b = true → Ev (fun k => spec_RevokeDevice.j0 k v s b m l) (m, l, false) := by
    intro b hb; subst hb
    exact ev1 fun k => by rw [spec_RevokeDevice.j0, if_pos rfl, l_spec_l11Copy m l (by omega)]; rfl
  refine Ev.bind (e_spec_IsValidList m l (by omega)) ?_
  by_cases h1 : (vkey m && ascB l) = true
  · simp only [if_pos h1, l_spec_l11Range, Option.bind_some]
    by_cases h2 : (1 ≤ v ∧ v ≤ 9) ∧ (0 ≤ s ∧ s ≤ 1000000)
    · have h2' : (decide (1 ≤ v ∧ v ≤ 9) && decide (0 ≤ s ∧ s ≤ 1000000)) = true := by rw [decide_eq_true h2.1, decide_eq_true h2.2]; rfl
      simp only [if_pos h2']
      refine Ev.bind (e_spec_IsRevoked m l v s (by omega)) ?_
      by_cases h3 : rvk l v s = false
      · rw [if_pos ⟨h1, h2.1, h2.2, h3⟩]; unfold rvk at h3
        refine Ev.step (fun k => by rw [spec_RevokeDevice.j0, if_neg (by rw [h3]; simp)]) ?_
        exact e_spec_RevokeDevice_l0 m l _ (by omega)
      · rw [if_neg (fun z => h3 z.2.2.2)]; unfold rvk at h3; exact no _ (by simpa using h3)
    · have h2' : ¬ (decide (1 ≤ v ∧ v ≤ 9) && decide (0 ≤ s ∧ s ≤ 1000000)) = true := by rw [Bool.and_eq_true]; exact fun z => h2 ⟨of_decide_eq_true z.1, of_decide_eq_true z.2⟩
      simp only [if_neg h2']; rw [if_neg (fun z => h2 ⟨z.2.1, z.2.2.1⟩)]; exact no _ rfl
  · simp only [if_neg h1]; rw [if_neg (fun z => h1 z.1)]; exact no _ rfl
theorem e_laws_toIntS (l : List Int) (hl : l.length ≤ 1048576) : Ev (fun k => laws_toIntS.f k l) l := by
  have h := copy_loop (F := fun k o i => laws_toIntS.l0 k l o i) (l := l) (conv := id) (fun o ho => ev1 fun k => by rw [laws_toIntS.l0, if_neg (by omega)])
    (fun o i hi ho r hr => Ev.step (fun k => by rw [laws_toIntS.l0, if_pos (by omega), if_pos (by omega), if_pos (by omega), rd_in hi, wrap_in (by omega)]; rfl) hr) (List.replicate l.length 0) (by simp)
  rw [List.map_id] at h
  refine Ev.congr (fun k => ?_) h
  unfold laws_toIntS.f
  rw [if_pos (by omega), if_pos (by omega)]; rfl
theorem e_laws_toVendorList (m : Int) (l : List Int) (hl : l.length ≤ 1048576) : Ev (fun k => laws_toVendorList.f k m l) (m, l) := by
  unfold laws_toVendorList.f
  exact Ev.bind (e_laws_toIntS l hl) (Ev.now _)
theorem e_impl_IsRevoked (m : Int) (l : List Int) (v s : Int) (hl : l.length ≤ 4194304) : Ev (fun k => impl_IsRevoked.f k m l v s) (srch (fun i => decide (rd l i = wrap64 ((wrap64 (v * 10000000)) + s))) (fun _ => true) false l.length 0) :=
  find_loop (F := fun k i => impl_IsRevoked.l0 k v s l (l.length : Int) i) (n := l.length) (ev1 fun k => by rw [impl_IsRevoked.l0, if_neg (by omega)])
    (fun i hi hp => ev1 fun k => by rw [impl_IsRevoked.l0, if_pos (by omega), if_pos (by omega), if_pos (by omega), if_pos (of_decide_eq_true hp)])
    (fun i hi hp r hr => Ev.step (fun k => by rw [impl_IsRevoked.l0, if_pos (by omega), if_pos (by omega), if_pos (by omega), if_neg (of_decide_eq_false hp), wrap_in (by omega)]; rfl) hr) l.length 0 (by omega)
theorem l_impl_InRange (a0 a1 a2 : Int) : impl_InRange.f a0 a1 a2 = some (decide (a1 ≤ a0 ∧ a0 ≤ a2)) := by
  unfold impl_InRange.f
  by_cases h : a1 ≤ a0
  · rw [if_pos h]; simp [h]
  · rw [if_neg h]; simp [h]
theorem l_impl_IsValidKey (a : Int) : impl_IsValidKey.f a = some (vkey a) := by
  unfold impl_IsValidKey.f; rw [l_impl_InRange]; rfl
theorem e_impl_ascends (l : List Int) (hl : l.length ≤ 4194304) : Ev (fun k => impl_ascends.f k l) (ascB l) :=
  find_from (F := fun k i => impl_ascends.l0 k l i) (n := max l.length 1) (s := 1) (ev1 fun k => by rw [impl_ascends.l0, if_neg (by omega)])
    (fun i hs hi hp => ev1 fun k => by rw [impl_ascends.l0, if_pos (by omega), if_pos (by rw [wrap_in (by omega)]; omega), if_pos (by rw [wrap_in (by omega)]; omega), if_pos (by omega), if_pos (of_decide_eq_true hp)])
    (fun i hs hi hp r hr => Ev.step (fun k => by rw [impl_ascends.l0, if_pos (by omega), if_pos (by rw [wrap_in (by omega)]; omega), if_pos (by rw [wrap_in (by omega)]; omega), if_pos (by omega), if_neg (of_decide_eq_false hp), wrap_in (x := (i : Int) + 1) (by omega)]; rfl) hr) (max l.length 1 - 1) 1 (by omega) (by omega)
theorem e_impl_IsValidList (m : Int) (l : List Int) (hl : l.length ≤ 4194304) : Ev (fun k => impl_IsValidList.f k m l) (vkey m && ascB l) := by
  unfold impl_IsValidList.f; simp only [l_impl_IsValidKey, Option.bind_some]
  cases vkey m with
  | false => exact ev_of fun _ => by simp
  | true => simp only [if_true]; exact Ev.bind (e_impl_ascends l hl) (ev_now (by simp))
theorem e_impl_joined_l0 (ls : List (List Int)) (hn : ls.length < 20000000000000) : ∀ (d i : Nat) (acc : List Int), i + d = ls.length → acc.length + (ls.drop i).flatten.length < 17592186044416 → Ev (fun k => impl_joined.l0 k acc ls (ls.length : Int) (i : Int)) (acc ++ (ls.drop i).flatten)
  | 0, i, acc, hd, _ => by
    refine Ev.step (f := fun _ => some acc) (fun k => ?_) (ev_now ?_)
    · rw [impl_joined.l0, if_neg (by omega)]
    · rw [drop_end (by omega)]; simp
  | d + 1, i, acc, hd, hs => by
    have hi : i < ls.length := by omega
    rw [drop_at hi, List.flatten_cons, List.length_append] at hs
    have hr : rd_L1 ls (i : Int) = ls[i] := by simp [rd_L1, List.getD, List.getElem?_eq_getElem hi]
    refine Ev.step (f := fun k => impl_joined.l0 k (acc ++ ls[i]) ls (ls.length : Int) ((i + 1 : Nat) : Int)) (fun k => ?_) ?_
    · rw [impl_joined.l0, hr, if_pos (by omega), if_pos (by omega), if_pos (by omega), if_pos (by omega), wrap_in (x := (i : Int) + 1) (by omega)]; rfl
    · rw [drop_at hi, List.flatten_cons, ← List.append_assoc]
      exact e_impl_joined_l0 ls hn d (i + 1) _ (by omega) (by rw [List.length_append]; omega)
theorem e_impl_joined (l : List Int) (ls : List (List Int)) (hn : ls.length < 20000000000000) (hs : l.length + ls.flatten.length < 17592186044416) : Ev (fun k => impl_joined.f k l ls) (l ++ ls.flatten) := by
  refine Ev.congr (f := fun k => impl_joined.l0 k l ls (ls.length : Int) ((0 : Nat) : Int)) (fun k => ?_) (e_impl_joined_l0 ls hn ls.length 0 l (by omega) hs)
  unfold impl_joined.f; simp only [Option.bind_some]
  rw [if_pos (by first | omega | (simp; omega))]; rfl
theorem e_impl_RevokeDevice_l0 (m : Int) (l : List Int) (m' : Int) (l' : List Int) (x : Int) (hl : l.length ≤ 2097152) : Ev (fun k => impl_RevokeDevice.l0 k x 0 m l m' l') (srch (fun i => !decide (rd l i < x)) (fun i => (m', insL l x i, true)) (m', insL l x l.length, true) l.length 0) :=
  find_loop (F := fun k i => impl_RevokeDevice.l0 k x i m l m' l') (n := l.length) (by
      refine Ev.step (f := fun k => (impl_joined.f k (l.take l.length) [[x], l.drop l.length]).bind fun t => some (m', t, true)) (fun k => ?_) (Ev.bind (e_impl_joined _ _ (by simp) (by simp; omega)) (ev_now (by simp [insL])))
      rw [impl_RevokeDevice.l0, if_neg (by omega), if_pos (by omega), if_pos (by omega)]; rfl)
    (fun i hi hp => by
      refine Ev.step (f := fun k => (impl_joined.f k (l.take i) [[x], l.drop i]).bind fun t => some (m', t, true)) (fun k => ?_) (Ev.bind (e_impl_joined _ _ (by simp) (by simp; omega)) (ev_now (by simp [insL])))
      rw [impl_RevokeDevice.l0, if_pos (by omega), if_pos (by omega), if_neg (by simpa using hp), if_pos (by omega)]; rfl)
    (fun i hi hp r hr => Ev.step (fun k => by rw [impl_RevokeDevice.l0, if_pos (by omega), if_pos (by omega), if_pos (by simpa using hp), wrap_in (by omega)]; rfl) hr) l.length 0 (by omega)
theorem e_impl_RevokeDevice (m : Int) (l : List Int) (v s : Int) (hl : l.length ≤ 1048577) : Ev (fun k => impl_RevokeDevice.f k m l v s) (rvkd m l v s) := by
  unfold impl_RevokeDevice.f rvkd
  have no : ∀ b : Bool, b = true → Ev (fun k => impl_RevokeDevice.j0 k v s b m l m (l ++ ([] : List (List Int)).flatten)) (m, l, false) := by
    intro b hb; subst hb
    exact ev1 fun k => by rw [impl_RevokeDevice.j0, if_pos rfl]; simp
  refine Ev.bind (e_impl_joined l [] (by simp) (by simp; omega)) (Ev.bind (e_impl_IsValidList m l (by omega)) ?_)
  by_cases h1 : (vkey m && ascB l) = true
  · simp only [if_pos h1, l_impl_InRange, Option.bind_some]
    by_cases h2 : 1 ≤ v ∧ v ≤ 9
    · simp only [if_pos (decide_eq_true h2)]
      by_cases h2b : 0 ≤ s ∧ s ≤ 1000000
      · simp only [if_pos (decide_eq_true h2b)]
        refine Ev.bind (e_impl_IsRevoked m l v s (by omega)) ?_
        by_cases h3 : rvk l v s = false
        · rw [if_pos ⟨h1, h2, h2b, h3⟩]; unfold rvk at h3
          refine Ev.step (fun k => by rw [impl_RevokeDevice.j0, if_neg (by rw [h3]; simp)]) ?_
          exact e_impl_RevokeDevice_l0 m l m _ _ (by omega)
        · rw [if_neg (fun z => h3 z.2.2.2)]; unfold rvk at h3; exact no _ (by simpa using h3)
      · simp only [if_neg (show ¬ decide (0 ≤ s ∧ s ≤ 1000000) = true by simpa using h2b)]; rw [if_neg (fun z => h2b z.2.2.1)]; exact no _ rfl
    · simp only [if_neg (show ¬ decide (1 ≤ v ∧ v ≤ 9) = true by simpa using h2)]; rw [if_neg (fun z => h2 z.2.1)]; exact no _ rfl
  · simp only [if_neg h1]; rw [if_neg (fun z => h1 z.1)]; exact no _ rfl
theorem e_laws_eqIntS (l : List Int) (hl : l.length ≤ 4194304) : Ev (fun k => laws_eqIntS.f k l l) true := by
  have h := skip_loop (F := fun k i => laws_eqIntS.l0 k l l i) (n := l.length) (r := true) (ev1 fun k => by rw [laws_eqIntS.l0, if_neg (by omega)])
    (fun i hi r hr => Ev.step (fun k => by rw [laws_eqIntS.l0, if_pos (by omega), if_pos (by omega), if_pos (by omega), if_pos rfl, wrap_in (by omega)]; rfl) hr)
  refine Ev.congr (fun k => ?_) h
  unfold laws_eqIntS.f; rw [if_pos rfl]
theorem e_laws_eqVendorList (m : Int) (l : List Int) (hl : l.length ≤ 4194304) : Ev (fun k => laws_eqVendorList.f k m l m l) true := by
  refine Ev.congr (fun k => by unfold laws_eqVendorList.f; rw [if_pos rfl]) ?_
  exact Ev.bind (e_laws_eqIntS l hl) (Ev.now _)
theorem e_laws_markIntS (l : List Int) (hl : l.length ≤ 4194304) : Ev (fun k => laws_markIntS.f k l 1) (1 + (l.length : Int), mks l.length) :=
  fill_loop (F := fun k o i => laws_markIntS.l0 k o (1 + i) i) (n := l.length) (g := fun (i : Nat) => 1 + (i : Int)) (fin := fun o => (1 + (l.length : Int), o))
    (fun o ho => ev1 fun k => by rw [laws_markIntS.l0, if_neg (by omega)])
    (fun o i hi ho r hr => Ev.step (fun k => by rw [laws_markIntS.l0, if_pos (by omega), if_pos (by omega), wrap_in (x := 1 + (i : Int) + 1) (by omega), wrap_in (x := (i : Int) + 1) (by omega), show (1 + (i : Int) + 1) = 1 + ((i + 1 : Nat) : Int) by omega]; rfl) hr) l rfl
theorem e_laws_markVendorList (m : Int) (l : List Int) (hl : l.length ≤ 4194304) : Ev (fun k => laws_markVendorList.f k m l 1) (1 + (l.length : Int), mks l.length) := by
  unfold laws_markVendorList.f
  exact Ev.bind (e_laws_markIntS l hl) (Ev.now _)
theorem e_laws_heldIntS (n : Nat) (hn : n ≤ 4194304) : Ev (fun k => laws_heldIntS.f k (mks n) 1) (1 + (n : Int)) :=
  skip_loop (F := fun k i => laws_heldIntS.l0 k (mks n) (1 + i) i) (n := n) (r := 1 + (n : Int)) (ev1 fun k => by rw [laws_heldIntS.l0, mks_length, if_neg (by omega)])
    (fun i hi r hr => Ev.step (fun k => by rw [laws_heldIntS.l0, mks_length, if_pos (by omega), if_pos (by omega), rd_mks hi, if_pos rfl, wrap_in (x := 1 + (i : Int) + 1) (by omega), wrap_in (x := (i : Int) + 1) (by omega), show (1 + (i : Int) + 1) = 1 + ((i + 1 : Nat) : Int) by omega]; rfl) hr)
theorem e_laws_heldVendorList (m : Int) (n : Nat) (hn : n ≤ 4194304) : Ev (fun k => laws_heldVendorList.f k m (mks n) 1) (1 + (n : Int)) := by
  unfold laws_heldVendorList.f
  refine Ev.bind (e_laws_heldIntS n hn) ?_
  simp only [if_neg (show ¬ 1 + (n : Int) < 0 by omega)]; exact Ev.now _
theorem p_FnExactRevokeDevice (m : Int) (l : List Int) (v s : Int) (_ : (Lit.int .i64 m).wf = true) (h : l.length ≤ 9223372036854775807 ∧ ∀ x ∈ l, (Lit.int .i64 x).wf = true) (_ : (Lit.int .i64 v).wf = true) (_ : (Lit.int .i64 s).wf = true) : ∃ k, laws_FnExactRevokeDevice.f k m l v s = some true := by
  apply Ev.rounds
  unfold laws_FnExactRevokeDevice.f
  rw [l_laws_szVendorList m l _ (by omega) h.1]; simp only [Option.bind_some]
  by_cases g : szd 1048576 l.length < 0
  · simp only [if_pos g]; exact Ev.now _
  · simp only [if_neg g]; have hl' := (szd_len g).1
    have hl : l.length ≤ 1048576 := by omega
    have ht : (rvkd m l v s).2.1.length ≤ 1048577 := by have := rvkd_len m l v s; omega
    refine Ev.bind (e_laws_toVendorList m l hl) (Ev.bind (e_spec_RevokeDevice m l v s hl) (Ev.bind (e_laws_toVendorList m l hl) (Ev.bind (e_impl_RevokeDevice m l v s (by first | omega | (simp; omega))) (Ev.bind (e_laws_eqVendorList _ _ (by omega)) ?_))))
    simp only [if_true, bne_self_eq_false]
    refine Ev.step (fun k => by rw [laws_FnExactRevokeDevice.j0, if_neg (by simp)]) ?_
    refine Ev.bind (e_laws_toVendorList m l hl) (Ev.bind (e_laws_eqVendorList _ _ (by omega)) ?_)
    simp only [if_true]
    refine Ev.bind (e_laws_markVendorList _ _ (by first | omega | (simp; omega))) ?_
    simp only [if_neg (show ¬ 1 + (l.length : Int) < 0 by omega)]
    refine Ev.bind (e_laws_eqVendorList _ _ (by omega)) ?_
    simp only [if_true, bne_self_eq_false]
    refine Ev.step (fun k => by rw [laws_FnExactRevokeDevice.j1, if_neg (by simp)]) ?_
    refine Ev.bind (e_laws_markVendorList _ _ (by omega)) (Ev.bind (e_laws_heldVendorList _ _ (by omega)) ?_)
    simp only [if_neg (show ¬ 1 + ((rvkd m l v s).2.1.length : Int) < 0 by omega), if_true]
    refine Ev.bind (e_laws_toVendorList m l hl) (Ev.bind (e_impl_RevokeDevice m l v s (by first | omega | (simp; omega))) (Ev.bind (e_laws_eqVendorList _ _ (by omega)) ?_))
    simp only [if_true, bne_self_eq_false]
    refine Ev.step (fun k => by rw [laws_FnExactRevokeDevice.j2, if_neg (by simp)]) ?_
    refine Ev.bind (e_laws_heldVendorList _ _ (by omega)) ?_
    simp only [if_neg (show ¬ 1 + ((rvkd m l v s).2.1.length : Int) < 0 by omega), if_true]
    exact Ev.now _
end Go.Proofs.Ytimjjicbdnehlaa.SFnExactRevokeDevice
