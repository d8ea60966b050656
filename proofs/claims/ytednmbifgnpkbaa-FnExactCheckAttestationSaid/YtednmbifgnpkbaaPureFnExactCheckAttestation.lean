/- The law FnExactCheckAttestation, in plain numbers and lists: what its Go functions compute (as the kit's print tells it) answers true. Conditions: what the reading of the arguments gives (each number of its kind, each length a length). -/
import Derived.Test.YtednmbifgnpkbaaPFnExactCheckAttestationx8
import Derived.Test.YtednmbifgnpkbaaMt
namespace Go.Proofs.Ytednmbifgnpkbaa.SFnExactCheckAttestation
open Go.RowKit Go.Proofs.Ytednmbifgnpkbaa.PFnExactCheckAttestation Go.Proofs.YtednmbifgnpkbaaW.PrintWords Go.Proofs.YtednmbifgnpkbaaW.PrintLast Go.Proofs.Ytednmbifgnpkbaa.Mt
set_option linter.unusedVariables false
set_option linter.unusedSimpArgs false
theorem l_laws_szIntS (l : List Int) (left : Int) (hl : 0 ≤ left ∧ left ≤ 1048576) (hn : l.length ≤ 9223372036854775807) : laws_szIntS.f l left = some (szd left l.length) := szd_eq hl hn
theorem l_laws_szVendorList (m : Int) (l : List Int) (left : Int) (hl : 0 ≤ left ∧ left ≤ 1048576) (hn : l.length ≤ 9223372036854775807) : laws_szVendorList.f m l left = some (szd left l.length) := by
  unfold laws_szVendorList.f
  rw [l_laws_szIntS l left hl hn]; simp only [Option.bind_some]
  by_cases h : szd left l.length < 0
  · rw [if_pos h]; have := szd_bd (n := l.length) hl; congr; omega
  · rw [if_neg h]
theorem l_spec_l1In (a0 a1 a2 : Int) : spec_l1In.f a0 a1 a2 = some (decide (a1 ≤ a0 ∧ a0 ≤ a2)) := by
  unfold spec_l1In.f
  by_cases h : a0 ≥ a1
  · rw [if_pos h]; simp [show a1 ≤ a0 from h]
  · rw [if_neg h]; simp [show ¬ a1 ≤ a0 from h]
theorem l_spec_Mod (a m : Int) : spec_Mod.f a m = some (md a m) := by
  unfold spec_Mod.f
  rw [l_spec_l1In]; simp only [Option.bind_some]
  by_cases h : 1 ≤ m ∧ m ≤ 1000000000000
  · rw [if_pos (decide_eq_true h), if_neg (by omega), md_in _ h.1 h.2]
    have := tmod_bd (a := a) (m := m) (by omega)
    rw [wrap_in (by omega), tmod_of (by omega), tmod_add]
  · rw [if_neg (by simpa using h)]; unfold md; rw [if_neg h]
theorem e_spec_Hash_l0 (l : List Int) (hl : l.length < 20000000000000) : ∀ (d i : Nat) (h : Int), i + d = l.length → 0 ≤ h → h < 2147483647 → Ev (fun k => spec_Hash.l0 k l h (i : Int)) ((l.drop i).foldl hstep h)
  | 0, i, h, hd, _, _ => by
    refine Ev.step (f := fun _ => some h) (fun k => ?_) (ev_now ?_)
    · rw [spec_Hash.l0, if_neg (by omega)]
    · rw [drop_end (by omega)]; rfl
  | d + 1, i, h, hd, h0, h1 => by
    have hi : i < l.length := by omega
    refine Ev.step (f := fun k => spec_Hash.l0 k l (hstep h l[i]) ((i + 1 : Nat) : Int)) (fun k => ?_) ?_
    · rw [spec_Hash.l0, if_pos (by omega), if_pos (by omega), rd_in hi, l_spec_Mod]; simp only [Option.bind_some]
      rw [md_in _ (by omega) (by omega), step_wrap h0 h1, wrap_in (by omega)]; rfl
    · rw [drop_at hi, List.foldl_cons]
      exact e_spec_Hash_l0 l hl d (i + 1) _ (by omega) (step_bd _ _).1 (step_bd _ _).2
theorem e_spec_Hash (l : List Int) (hl : l.length < 20000000000000) : Ev (fun k => spec_Hash.f k l) (hsh l) :=
  e_spec_Hash_l0 l hl l.length 0 11 (by omega) (by omega) (by omega)
theorem e_spec_KeyedHash (key : Int) (l : List Int) (h : l.length < 17592186044000) : Ev (fun k => spec_KeyedHash.f k key l) (kh key l) := by
  refine Ev.congr (f := fun k => spec_Hash.f k (key :: l ++ [key])) (fun k => ?_) (e_spec_Hash _ (by first | omega | (simp; omega)))
  unfold spec_KeyedHash.f; simp only [Option.bind_some]
  rw [if_pos (by first | omega | (simp; omega)), if_pos (by first | omega | (simp; omega))]
  simp
theorem l_spec_IsValidKey (a : Int) : spec_IsValidKey.f a = some (vkey a) := by
  unfold spec_IsValidKey.f; rw [l_spec_l1In]; rfl
theorem e_spec_SignMessage (p : Int) (m : List Int) (h : m.length < 17592186040000) : Ev (fun k => spec_SignMessage.f k p m) (sgn p m) := by
  unfold spec_SignMessage.f sgn
  simp only [l_spec_IsValidKey, Option.bind_some]
  by_cases hv : vkey p = true
  · simp only [if_pos hv]
    simp only [if_pos (show ([139, (m.length : Int)] : List Int).length + m.length < 17592186044416 by simp; omega)]
    exact Ev.bind (e_spec_KeyedHash _ _ (by simp; omega)) (ev_now rfl)
  · simp only [if_neg hv]; exact Ev.now _
theorem l_spec_PublicKey (a : Int) : spec_PublicKey.f a = some (pubk a) := by
  unfold spec_PublicKey.f pubk; rw [l_spec_IsValidKey]; simp only [Option.bind_some]
  by_cases h : vkey a = true
  · rw [if_pos h, if_pos h]; have := of_decide_eq_true h; rw [wrap_in (by omega), tmod_of (by omega)]
  · rw [if_neg h, if_neg h]
theorem k_spec_l6Power : spec_l6Power.f 40 48271 2147483645 = some 1899818559 := by decide +kernel
theorem e_spec_l6Power : Ev (fun k => spec_l6Power.f k 48271 2147483645) 1899818559 := Ev.of (spec_l6Power.mono _ _) k_spec_l6Power
theorem e_spec_PrivateKey (p : Int) : Ev (fun k => spec_PrivateKey.f k p) (prvk p) := by
  unfold spec_PrivateKey.f prvk
  simp only [l_spec_l1In, Option.bind_some]
  by_cases h : vkey p = true
  · have hr := of_decide_eq_true h
    simp only [if_pos h, if_pos (show decide (1 ≤ p ∧ p ≤ 2147483646) = true from h)]
    refine Ev.bind e_spec_l6Power ?_
    have hm := mul_bd (show 0 ≤ p by omega) hr.2 (show (0 : Int) ≤ 1899818559 by omega) (Int.le_refl _)
    rw [wrap_in (x := p * 1899818559) (by omega), tmod_of (by omega)]
    simp only [l_spec_PublicKey, Option.bind_some]
    have e : pubk (p * 1899818559 % 2147483647) = p := by
      have := pubk_prvk h; unfold prvk at this; rw [if_pos h] at this; exact this
    simp only [e, if_true]; exact Ev.now _
  · simp only [if_neg h, if_neg (show ¬ decide (1 ≤ p ∧ p ≤ 2147483646) = true from h)]; exact Ev.now _
theorem e_spec_VerifySignature (p : Int) (m : List Int) (s : Int) (hm : m.length < 17592186040000) : Ev (fun k => spec_VerifySignature.f k p m s) (vfy p m s) := by
  unfold spec_VerifySignature.f vfy
  refine Ev.bind (e_spec_PrivateKey p) ?_
  by_cases h : prvk p = 0
  · simp only [if_pos h]; exact Ev.now _
  · simp only [if_neg h]; exact Ev.bind (e_spec_SignMessage _ _ hm) (Ev.now _)
theorem srch_and (p : Nat → Bool) (b : Bool) : ∀ d i, srch p (fun _ => false) b d i = (b && srch p (fun _ => false) true d i)
  | 0, i => by simp [srch]
  | d + 1, i => by unfold srch; cases p i <;> simp [srch_and p b d (i + 1)]
theorem e_spec_IsValidList (m : Int) (l : List Int) (hl : l.length ≤ 1048576) : Ev (fun k => spec_IsValidList.f k m l) (vkey m && ascB l) := by
  unfold ascB; rw [← srch_and]
  exact find_from (F := fun k i => spec_IsValidList.l0 k i m l) (n := max l.length 1) (s := 1) (ev1 fun k => by rw [spec_IsValidList.l0, if_neg (by omega), l_spec_IsValidKey]; rfl)
    (fun i hs hi hp => ev1 fun k => by rw [spec_IsValidList.l0, if_pos (by omega), if_pos (by rw [wrap_in (by omega)]; omega), if_pos (by rw [wrap_in (by omega)]; omega), if_pos (by omega), if_pos (of_decide_eq_true hp)])
    (fun i hs hi hp r hr => Ev.step (fun k => by rw [spec_IsValidList.l0, if_pos (by omega), if_pos (by rw [wrap_in (by omega)]; omega), if_pos (by rw [wrap_in (by omega)]; omega), if_pos (by omega), if_neg (of_decide_eq_false hp), wrap_in (x := (i : Int) + 1) (by omega)]; rfl) hr) (max l.length 1 - 1) 1 (by omega) (by omega)
theorem l_spec_l11Range (v s : Int) : spec_l11Range.f v s = some (decide (1 ≤ v ∧ v ≤ 9) && decide (0 ≤ s ∧ s ≤ 1000000)) := by
  unfold spec_l11Range.f; simp only [l_spec_l1In, Option.bind_some]
  cases decide (1 ≤ v ∧ v ≤ 9) <;> simp
theorem e_spec_IsRevoked (m : Int) (l : List Int) (v s : Int) (hl : l.length ≤ 1048576) : Ev (fun k => spec_IsRevoked.f k m l v s) (srch (fun i => decide (rd l i = wrap64 ((wrap64 (v * 10000000)) + s))) (fun _ => true) false l.length 0) :=
  find_loop (F := fun k i => spec_IsRevoked.l0 k v s i m l) (n := l.length) (ev1 fun k => by rw [spec_IsRevoked.l0, if_neg (by omega)])
    (fun i hi hp => ev1 fun k => by rw [spec_IsRevoked.l0, if_pos (by omega), if_pos (by omega), if_pos (of_decide_eq_true hp)])
    (fun i hi hp r hr => Ev.step (fun k => by rw [spec_IsRevoked.l0, if_pos (by omega), if_pos (by omega), if_neg (of_decide_eq_false hp), wrap_in (by omega)]; rfl) hr) l.length 0 (by omega)
theorem l_spec_Max1 {x : Int} (h : 0 ≤ x) : spec_Max.f 1 x = some (one x) := by
  unfold spec_Max.f one
  by_cases h1 : x = 0
  · subst h1; rfl
  · rw [if_neg h1]
    by_cases h2 : x > 1
    · rw [if_pos h2]
    · rw [if_neg h2]; congr; omega
theorem e_spec_DeriveKey (seed : Int) (l : List Int) (h : l.length < 17592186043000) : Ev (fun k => spec_DeriveKey.f k seed l) (dk seed l) := by
  refine Ev.congr (f := fun k => (spec_KeyedHash.f k seed (151 :: l)).bind fun t => (spec_Max.f 1 t)) (fun k => ?_) ?_
  · unfold spec_DeriveKey.f; simp only [Option.bind_some]
    rw [if_pos (by first | omega | (simp; omega))]; simp
  · refine Ev.bind (e_spec_KeyedHash _ _ (by first | omega | (simp; omega))) ?_
    exact ev_of (fun _ => by rw [l_spec_Max1 (kh_bd _ _).1]; rfl)
theorem e_spec_VendorPrivate (a b : Int) : Ev (fun k => spec_VendorPrivate.f k a b) (dk a [191, b]) := by
  unfold spec_VendorPrivate.f
  exact Ev.bind (e_spec_DeriveKey _ _ (by simp)) (Ev.now _)
theorem e_spec_CheckAttestation (m : Int) (l : List Int) (a b c d : Int) (hl : l.length ≤ 1048576) : Ev (fun k => spec_CheckAttestation.f k m l a b c d) (chk m l a b c d) := by
  unfold spec_CheckAttestation.f chk spec_l11Message.f
  refine Ev.bind (e_spec_IsValidList m l hl) ?_
  cases vkey m && ascB l with
  | false => simp only [Bool.false_eq_true, if_false, Bool.false_and]; exact Ev.now _
  | true =>
    simp only [if_true, l_spec_l11Range, Option.bind_some, Bool.true_and]
    cases decide (1 ≤ a ∧ a ≤ 9) && decide (0 ≤ b ∧ b ≤ 1000000) with
    | false => simp only [Bool.false_eq_true, if_false, Bool.false_and]; exact Ev.now _
    | true =>
      simp only [if_true, Bool.true_and]
      refine Ev.bind (e_spec_IsRevoked m l a b hl) ?_
      unfold rvk
      cases srch (fun i => decide (rd l i = wrap64 ((wrap64 (a * 10000000)) + b))) (fun _ => true) false l.length 0 with
      | true => simp only [if_true, Bool.not_true, Bool.false_and]; exact Ev.now _
      | false =>
        simp only [Bool.false_eq_true, if_false, Bool.not_false, Bool.true_and]
        refine Ev.bind (e_spec_VendorPrivate _ _) ?_
        simp only [l_spec_PublicKey, Option.bind_some]
        exact Ev.bind (e_spec_VerifySignature _ _ _ (by simp)) (Ev.now _)
theorem e_laws_toIntS (l : List Int) (hl : l.length ≤ 1048576) : Ev (fun k => laws_toIntS.f k l) l := by
  have h := copy_loop (F := fun k o i => laws_toIntS.l0 k l o i) (l := l) (conv := id) (fun o ho => ev1 fun k => by rw [laws_toIntS.l0, if_neg (by omega)])
    (fun o i hi ho r hr => Ev.step (fun k => by rw [laws_toIntS.l0, if_pos (by omega), if_pos (by omega), if_pos (by omega), rd_in hi, wrap_in (by omega)]; rfl) hr) (List.replicate l.length 0) (by simp)
  rw [List.map_id] at h
  refine Ev.congr (fun k => ?_) h
  unfold laws_toIntS.f
  rw [if_pos (by omega), if_pos (by omega)]; rfl
theorem e_laws_toVendorList (m : Int) (l : List Int) (hl : l.length ≤ 1048576) : Ev (fun k => laws_toVendorList.f k m l) (m, l) := by
  unfold laws_toVendorList.f
  exact Ev.bind (e_laws_toIntS l hl) (Ev.now _)
theorem l_impl_InRange (a0 a1 a2 : Int) : impl_InRange.f a0 a1 a2 = some (decide (a1 ≤ a0 ∧ a0 ≤ a2)) := by
  unfold impl_InRange.f
  by_cases h : a1 ≤ a0
  · rw [if_pos h]; simp [h]
  · rw [if_neg h]; simp [h]
theorem l_impl_IsValidKey (a : Int) : impl_IsValidKey.f a = some (vkey a) := by
  unfold impl_IsValidKey.f; rw [l_impl_InRange]; rfl
theorem l_impl_PublicKey (a : Int) : impl_PublicKey.f a = some (pubk a) := by
  unfold impl_PublicKey.f pubk; rw [l_impl_IsValidKey]; simp only [Option.bind_some]
  by_cases h : vkey a = true
  · rw [if_pos h, if_pos h]; have := of_decide_eq_true h; rw [wrap_in (by omega), tmod_of (by omega)]
  · rw [if_neg h, if_neg h]
theorem e_impl_ascends (l : List Int) (hl : l.length ≤ 1048576) : Ev (fun k => impl_ascends.f k l) (ascB l) :=
  find_from (F := fun k i => impl_ascends.l0 k l i) (n := max l.length 1) (s := 1) (ev1 fun k => by rw [impl_ascends.l0, if_neg (by omega)])
    (fun i hs hi hp => ev1 fun k => by rw [impl_ascends.l0, if_pos (by omega), if_pos (by rw [wrap_in (by omega)]; omega), if_pos (by rw [wrap_in (by omega)]; omega), if_pos (by omega), if_pos (of_decide_eq_true hp)])
    (fun i hs hi hp r hr => Ev.step (fun k => by rw [impl_ascends.l0, if_pos (by omega), if_pos (by rw [wrap_in (by omega)]; omega), if_pos (by rw [wrap_in (by omega)]; omega), if_pos (by omega), if_neg (of_decide_eq_false hp), wrap_in (x := (i : Int) + 1) (by omega)]; rfl) hr) (max l.length 1 - 1) 1 (by omega) (by omega)
theorem e_impl_IsValidList (m : Int) (l : List Int) (hl : l.length ≤ 1048576) : Ev (fun k => impl_IsValidList.f k m l) (vkey m && ascB l) := by
  unfold impl_IsValidList.f; simp only [l_impl_IsValidKey, Option.bind_some]
  cases vkey m with
  | false => exact ev_of fun _ => by simp
  | true => simp only [if_true]; exact Ev.bind (e_impl_ascends l hl) (ev_now (by simp))
theorem e_impl_IsRevoked (m : Int) (l : List Int) (v s : Int) (hl : l.length ≤ 1048576) : Ev (fun k => impl_IsRevoked.f k m l v s) (srch (fun i => decide (rd l i = wrap64 ((wrap64 (v * 10000000)) + s))) (fun _ => true) false l.length 0) :=
  find_loop (F := fun k i => impl_IsRevoked.l0 k v s l (l.length : Int) i) (n := l.length) (ev1 fun k => by rw [impl_IsRevoked.l0, if_neg (by omega)])
    (fun i hi hp => ev1 fun k => by rw [impl_IsRevoked.l0, if_pos (by omega), if_pos (by omega), if_pos (by omega), if_pos (of_decide_eq_true hp)])
    (fun i hi hp r hr => Ev.step (fun k => by rw [impl_IsRevoked.l0, if_pos (by omega), if_pos (by omega), if_pos (by omega), if_neg (of_decide_eq_false hp), wrap_in (by omega)]; rfl) hr) l.length 0 (by omega)
theorem e_impl_joined_l0 (ls : List (List Int)) (hn : ls.length < 20000000000000) : ∀ (d i : Nat) (acc : List Int), i + d = ls.length → acc.length + (ls.drop i).flatten.length < 17592186044416 → Ev (fun k => impl_joined.l0 k acc ls (ls.length : Int) (i : Int)) (acc ++ (ls.drop i).flatten)
  | 0, i, acc, hd, _ => by
    refine Ev.step (f := fun _ => some acc) (fun k => ?_) (ev_now ?_)
    · rw [impl_joined.l0, if_neg (by omega)]
    · rw [drop_end (by omega)]; simp
  | d + 1, i, acc, hd, hs => by
    have hi : i < ls.length := by omega
    rw [drop_at hi, List.flatten_cons, List.length_append] at hs
    have hr : rd_L1 ls (i : Int) = ls[i] := by simp [rd_L1, List.getD, List.getElem?_eq_getElem hi]
    refine Ev.step (f := fun k => impl_joined.l0 k (acc ++ ls[i]) ls (ls.length : Int) ((i + 1 : Nat) : Int)) (fun k => ?_) ?_
    · rw [impl_joined.l0, hr, if_pos (by omega), if_pos (by omega), if_pos (by omega), if_pos (by omega), wrap_in (x := (i : Int) + 1) (by omega)]; rfl
    · rw [drop_at hi, List.flatten_cons, ← List.append_assoc]
      exact e_impl_joined_l0 ls hn d (i + 1) _ (by omega) (by rw [List.length_append]; omega)
theorem e_impl_joined (l : List Int) (ls : List (List Int)) (hn : ls.length < 20000000000000) (hs : l.length + ls.flatten.length < 17592186044416) : Ev (fun k => impl_joined.f k l ls) (l ++ ls.flatten) := by
  refine Ev.congr (f := fun k => impl_joined.l0 k l ls (ls.length : Int) ((0 : Nat) : Int)) (fun k => ?_) (e_impl_joined_l0 ls hn ls.length 0 l (by omega) hs)
  unfold impl_joined.f; simp only [Option.bind_some]
  rw [if_pos (by first | omega | (simp; omega))]; rfl
theorem k_impl_Mod (a m : Int) (k : Nat) : impl_Mod.f (k + 1) a m = some (md a m) := by
  unfold impl_Mod.f
  by_cases h1 : m < 1
  · rw [if_pos h1, impl_Mod.j0, if_pos rfl]; unfold md; rw [if_neg (by omega)]
  · rw [if_neg h1, impl_Mod.j0]
    by_cases h2 : m > 1000000000000
    · rw [if_pos (decide_eq_true h2)]; unfold md; rw [if_neg (by omega)]
    · rw [if_neg (by simpa using h2), if_neg (by omega), md_in _ (by omega) (by omega)]
      have hb := tmod_bd (a := a) (m := m) (by omega)
      have hn := tmod_neg_iff (a := a) (m := m) (by omega)
      by_cases h3 : Int.tmod a m < 0
      · rw [if_pos h3] at hn; rw [if_pos h3, wrap_in (by omega), hn]
      · rw [if_neg h3] at hn; rw [if_neg h3, hn]
theorem e_impl_Mod (a m : Int) : Ev (fun k => impl_Mod.f k a m) (md a m) := Ev.step (fun k => k_impl_Mod a m k) (Ev.now _)
theorem e_impl_Hash_l0 (l : List Int) (hl : l.length < 20000000000000) : ∀ (d i : Nat) (h : Int), i + d = l.length → 0 ≤ h → h < 2147483647 → Ev (fun k => impl_Hash.l0 k h l (l.length : Int) (i : Int)) ((l.drop i).foldl hstep h)
  | 0, i, h, hd, _, _ => by
    refine Ev.step (f := fun _ => some h) (fun k => ?_) (ev_now ?_)
    · rw [impl_Hash.l0, if_neg (by omega)]
    · rw [drop_end (by omega)]; rfl
  | d + 1, i, h, hd, h0, h1 => by
    have hi : i < l.length := by omega
    refine Ev.step (f := fun k => (impl_Mod.f k l[i] 2147483647).bind fun t => impl_Hash.l0 k (Int.tmod (wrap64 ((wrap64 ((wrap64 (h * 1000003)) + t)) + 13)) 2147483647) l (l.length : Int) ((i + 1 : Nat) : Int)) (fun k => ?_) ?_
    · rw [impl_Hash.l0, if_pos (by omega), if_pos (by omega), if_pos (by omega), rd_in hi, wrap_in (x := (i : Int) + 1) (by omega)]; rfl
    · refine Ev.bind (e_impl_Mod _ _) ?_
      rw [md_in _ (by omega) (by omega), step_wrap h0 h1, drop_at hi, List.foldl_cons]
      exact e_impl_Hash_l0 l hl d (i + 1) _ (by omega) (step_bd _ _).1 (step_bd _ _).2
theorem e_impl_Hash (l : List Int) (hl : l.length < 20000000000000) : Ev (fun k => impl_Hash.f k l) (hsh l) :=
  e_impl_Hash_l0 l hl l.length 0 11 (by omega) (by omega) (by omega)
theorem e_impl_KeyedHash (key : Int) (l : List Int) (h : l.length < 17592186044000) : Ev (fun k => impl_KeyedHash.f k key l) (kh key l) := by
  unfold impl_KeyedHash.f
  refine Ev.bind (e_impl_joined _ _ (by simp) (by first | omega | (simp; omega))) ?_
  refine Ev.bind (e_impl_Hash _ (by first | omega | (simp; omega))) ?_
  exact ev_now (by simp [kh])
theorem e_impl_SignMessage (p : Int) (m : List Int) (h : m.length < 17592186040000) : Ev (fun k => impl_SignMessage.f k p m) (sgn p m) := by
  unfold impl_SignMessage.f sgn
  simp only [l_impl_IsValidKey, Option.bind_some]
  by_cases hv : vkey p = true
  · simp only [if_pos hv]
    exact Ev.bind (e_impl_joined _ _ (by simp) (by simp; omega)) (Ev.bind (e_impl_KeyedHash _ _ (by simp; omega)) (ev_now (by simp)))
  · simp only [if_neg hv]; exact Ev.now _
theorem e_impl_power_l0 (m : Int) (hm : 1 ≤ m) (hm2 : m ≤ 2147483648) : ∀ (n : Nat), n ≤ 2147483648 → ∀ (g out : Int), 0 ≤ g → g < m → 0 ≤ out → out < m → Ev (fun k => impl_power.l0 k g (n : Int) m out) (out * g ^ n % m) := by
  intro n
  induction n using Nat.strongRecOn with
  | _ n ih =>
    intro hn g out g0 g1 o0 o1
    have hgg := mul_bd g0 (show g ≤ 2147483647 by omega) g0 (show g ≤ 2147483647 by omega)
    have hog := mul_bd o0 (show out ≤ 2147483647 by omega) g0 (show g ≤ 2147483647 by omega)
    by_cases h0 : n = 0
    · subst h0
      exact ev1 fun k => by rw [impl_power.l0, if_neg (by omega), Int.pow_zero, Int.mul_one, Int.emod_eq_of_lt o0 o1]
    · have e2 : wrap64 (Int.tdiv (n : Int) 2) = ((n / 2 : Nat) : Int) := by rw [Int.tdiv_eq_ediv_of_nonneg (by omega), wrap_in (by omega)]; omega
      have e3 : Int.tmod (n : Int) 2 = ((n % 2 : Nat) : Int) := by rw [tmod_of (by omega)]; omega
      have q0 : 0 ≤ g * g % m := Int.emod_nonneg _ (by omega)
      have q1 : g * g % m < m := Int.emod_lt_of_pos _ (by omega)
      have q2 : 0 ≤ out * g % m := Int.emod_nonneg _ (by omega)
      have q3 : out * g % m < m := Int.emod_lt_of_pos _ (by omega)
      by_cases h1 : n % 2 = 1
      · have e : n = 2 * (n / 2) + 1 := by omega
        have hr := ih (n / 2) (by omega) (by omega) (g * g % m) (out * g % m) q0 q1 q2 q3
        rw [pw_odd, ← e] at hr
        refine Ev.step (fun k => ?_) hr
        rw [impl_power.l0, if_pos (by omega), if_pos (by omega), if_neg (by omega), wrap_in (x := g * g) (by omega), wrap_in (x := out * g) (by omega), tmod_of (a := g * g) (by omega), tmod_of (a := out * g) (by omega), e2]
      · have e : n = 2 * (n / 2) := by omega
        have hr := ih (n / 2) (by omega) (by omega) (g * g % m) out q0 q1 o0 o1
        rw [pw_even, ← e] at hr
        refine Ev.step (fun k => ?_) hr
        rw [impl_power.l0, if_pos (by omega), if_neg (by omega), if_neg (by omega), wrap_in (x := g * g) (by omega), tmod_of (a := g * g) (by omega), e2]
theorem e_impl_power (g n m : Int) (g0 : 0 ≤ g) (n0 : 0 ≤ n) (n1 : n ≤ 2147483648) (m0 : 2 ≤ m) (m1 : m ≤ 2147483648) : Ev (fun k => impl_power.f k g n m) (pwm g n.toNat m) := by
  obtain ⟨q, rfl⟩ := Int.eq_ofNat_of_zero_le n0
  have h := e_impl_power_l0 m (by omega) m1 q (by omega) (g % m) 1 (Int.emod_nonneg _ (by omega)) (Int.emod_lt_of_pos _ (by omega)) (by omega) (by omega)
  rw [Int.one_mul, pow_mod] at h
  refine Ev.congr (fun k => ?_) h
  unfold impl_power.f
  rw [if_neg (by omega), tmod_of g0, Int.emod_eq_of_lt (a := 1) (by omega) (by omega)]
theorem k_impl_power_inv : impl_power.f 40 48271 2147483645 2147483647 = some 1899818559 := by decide +kernel
theorem e_impl_PrivateKey (p : Int) : Ev (fun k => impl_PrivateKey.f k p) (prvk p) := by
  unfold impl_PrivateKey.f prvk
  simp only [l_impl_IsValidKey, Option.bind_some]
  by_cases h : vkey p = true
  · have hr := of_decide_eq_true h
    simp only [if_pos h]
    refine Ev.bind (Ev.of (impl_power.mono _ _ _) k_impl_power_inv) ?_
    have hm := mul_bd (show 0 ≤ p by omega) hr.2 (show (0 : Int) ≤ 1899818559 by omega) (Int.le_refl _)
    rw [wrap_in (x := p * 1899818559) (by omega), tmod_of (by omega)]; exact Ev.now _
  · simp only [if_neg h]; exact Ev.now _
theorem e_impl_VerifySignature (p : Int) (m : List Int) (s : Int) (hm : m.length < 17592186040000) : Ev (fun k => impl_VerifySignature.f k p m s) (vfy p m s) := by
  unfold impl_VerifySignature.f vfy
  refine Ev.bind (e_impl_PrivateKey p) ?_
  by_cases h : prvk p = 0
  · simp only [if_pos h]; exact Ev.now _
  · simp only [if_neg h]; exact Ev.bind (e_impl_SignMessage _ _ hm) (Ev.now _)
theorem l_impl_orOne (x : Int) : impl_orOne.f x = some (one x) := by
  unfold impl_orOne.f one; split <;> rfl
theorem e_impl_DeriveKey (seed : Int) (l : List Int) (h : l.length < 17592186043000) : Ev (fun k => impl_DeriveKey.f k seed l) (dk seed l) := by
  unfold impl_DeriveKey.f
  refine Ev.bind (e_impl_joined _ _ (by simp) (by first | omega | (simp; omega))) ?_
  refine Ev.bind (e_impl_KeyedHash _ _ (by first | omega | (simp; omega))) ?_
  refine ev_of (fun _ => ?_)
  rw [l_impl_orOne]; simp [dk]
theorem e_impl_VendorPrivate (a b : Int) : Ev (fun k => impl_VendorPrivate.f k a b) (dk a [191, b]) := by
  unfold impl_VendorPrivate.f
  exact Ev.bind (e_impl_DeriveKey _ _ (by simp)) (Ev.now _)
theorem e_impl_CheckAttestation (m : Int) (l : List Int) (a b c d : Int) (hl : l.length ≤ 1048576) : Ev (fun k => impl_CheckAttestation.f k m l a b c d) (chk m l a b c d) := by
  unfold impl_CheckAttestation.f chk
  refine Ev.bind (e_impl_IsValidList m l hl) ?_
  cases vkey m && ascB l with
  | false => simp only [Bool.false_eq_true, if_false, Bool.false_and]; exact Ev.now _
  | true =>
    simp only [if_true, l_impl_InRange, Option.bind_some, Bool.true_and]
    cases decide (1 ≤ a ∧ a ≤ 9) with
    | false => simp only [Bool.false_eq_true, if_false, Bool.false_and]; exact Ev.now _
    | true =>
      cases decide (0 ≤ b ∧ b ≤ 1000000) with
      | false => simp only [Bool.false_eq_true, if_false, Bool.false_and, if_true, Bool.true_and]; exact Ev.now _
      | true =>
        simp only [if_true, Bool.true_and]
        refine Ev.bind (e_impl_IsRevoked m l a b hl) ?_
        unfold rvk
        cases srch (fun i => decide (rd l i = wrap64 ((wrap64 (a * 10000000)) + b))) (fun _ => true) false l.length 0 with
        | true => simp only [if_true, Bool.not_true, Bool.false_and]; exact Ev.now _
        | false =>
          simp only [Bool.false_eq_true, if_false, Bool.not_false, Bool.true_and]
          refine Ev.bind (e_impl_VendorPrivate _ _) ?_
          simp only [l_impl_PublicKey, Option.bind_some]
          exact Ev.bind (e_impl_VerifySignature _ _ _ (by simp)) (Ev.now _)
theorem e_laws_eqIntS (l : List Int) (hl : l.length ≤ 1048576) : Ev (fun k => laws_eqIntS.f k l l) true := by
  have h := skip_loop (F := fun k i => laws_eqIntS.l0 k l l i) (n := l.length) (r := true) (ev1 fun k => by rw [laws_eqIntS.l0, if_neg (by omega)])
    (fun i hi r hr => Ev.step (fun k => by rw [laws_eqIntS.l0, if_pos (by omega), if_pos (by omega), if_pos (by omega), if_pos rfl, wrap_in (by omega)]; rfl) hr)
  refine Ev.congr (fun k => ?_) h
  unfold laws_eqIntS.f; rw [if_pos rfl]
theorem e_laws_eqVendorList (m : Int) (l : List Int) (hl : l.length ≤ 1048576) : Ev (fun k => laws_eqVendorList.f k m l m l) true := by
  refine Ev.congr (fun k => by unfold laws_eqVendorList.f; rw [if_pos rfl]) ?_
  exact Ev.bind (e_laws_eqIntS l hl) (Ev.now _)
theorem p_FnExactCheckAttestation (m : Int) (l : List Int) (a b c d : Int) (_ : (Lit.int .i64 m).wf = true) (h : l.length ≤ 9223372036854775807 ∧ ∀ x ∈ l, (Lit.int .i64 x).wf = true) (_ : (Lit.int .i64 a).wf = true) (_ : (Lit.int .i64 b).wf = true) (_ : (Lit.int .i64 c).wf = true) (_ : (Lit.int .i64 d).wf = true) : ∃ k, laws_FnExactCheckAttestation.f k m l a b c d = some true := by
  apply Ev.rounds
  unfold laws_FnExactCheckAttestation.f laws_toAttestation.f
  rw [l_laws_szVendorList m l _ (by omega) h.1]; simp only [Option.bind_some]
  by_cases g : szd 1048576 l.length < 0
  · simp only [if_pos g]; exact Ev.now _
  · simp only [if_neg g]; have hl' := (szd_len g).1
    have hl : l.length ≤ 1048576 := by omega
    refine Ev.bind (e_laws_toVendorList m l hl) (Ev.bind (e_spec_CheckAttestation m l a b c d hl) (Ev.bind (e_laws_toVendorList m l hl) (Ev.bind (e_impl_CheckAttestation m l a b c d hl) ?_)))
    simp only [bne_self_eq_false, Bool.false_eq_true, if_false]
    exact Ev.bind (e_laws_toVendorList m l hl) (Ev.bind (e_laws_eqVendorList _ _ hl) (Ev.now _))
end Go.Proofs.Ytednmbifgnpkbaa.SFnExactCheckAttestation
