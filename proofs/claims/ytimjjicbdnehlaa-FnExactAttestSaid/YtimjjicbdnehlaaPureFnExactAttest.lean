/- The law FnExactAttest, in plain numbers and lists: what its Go functions compute (as the kit's print tells it) answers true. Conditions: what the reading of the arguments gives (each number of its kind, each length a length). -/
import Derived.Test.YtimjjicbdnehlaaPFnExactAttestx4
import Derived.Test.YtimjjicbdnehlaaMt
namespace Go.Proofs.Ytimjjicbdnehlaa.SFnExactAttest
open Go.RowKit Go.Proofs.Ytimjjicbdnehlaa.PFnExactAttest Go.Proofs.YtimjjicbdnehlaaW.PrintWords Go.Proofs.YtimjjicbdnehlaaW.PrintLast Go.Proofs.Ytimjjicbdnehlaa.Mt
set_option linter.unusedVariables false
set_option linter.unusedSimpArgs false
theorem l_spec_l1In (a0 a1 a2 : Int) : spec_l1In.f a0 a1 a2 = some (decide (a1 ≤ a0 ∧ a0 ≤ a2)) := by
  unfold spec_l1In.f
  by_cases h : a0 ≥ a1
  · rw [if_pos h]; simp [show a1 ≤ a0 from h]
  · rw [if_neg h]; simp [show ¬ a1 ≤ a0 from h]
theorem l_spec_IsValidKey (a : Int) : spec_IsValidKey.f a = some (vkey a) := by
  unfold spec_IsValidKey.f; rw [l_spec_l1In]; rfl
theorem l_spec_PublicKey (a : Int) : spec_PublicKey.f a = some (pubk a) := by
  unfold spec_PublicKey.f pubk; rw [l_spec_IsValidKey]; simp only [Option.bind_some]
  by_cases h : vkey a = true
  · rw [if_pos h, if_pos h]; have := of_decide_eq_true h; rw [wrap_in (by omega), tmod_of (by omega)]
  · rw [if_neg h, if_neg h]
theorem l_spec_Mod (a m : Int) : spec_Mod.f a m = some (md a m) := by
  unfold spec_Mod.f
  rw [l_spec_l1In]; simp only [Option.bind_some]
  by_cases h : 1 ≤ m ∧ m ≤ 1000000000000
  · rw [if_pos (decide_eq_true h), if_neg (by omega), md_in _ h.1 h.2]
    have := tmod_bd (a := a) (m := m) (by omega)
    rw [wrap_in (by omega), tmod_of (by omega), tmod_add]
  · rw [if_neg (by simpa using h)]; unfold md; rw [if_neg h]
theorem e_spec_Hash_l0 (l : List Int) (hl : l.length < 20000000000000) : ∀ (d i : Nat) (h : Int), i + d = l.length → 0 ≤ h → h < 2147483647 → Ev (fun k => spec_Hash.l0 k l h (i : Int)) ((l.drop i).foldl hstep h)
  | 0, i, h, hd, _, _ => by
    refine Ev.step (f := fun _ => some h) (fun k => ?_) (ev_now ?_)
    · rw [spec_Hash.l0, if_neg (by omega)]
    · rw [drop_end (by omega)]; rfl
  | d + 1, i, h, hd, h0, h1 => by
    have hi : i < l.length := by omega
    refine Ev.step (f := fun k => spec_Hash.l0 k l (hstep h l[i]) ((i + 1 : Nat) : Int)) (fun k => ?_) ?_
    · rw [spec_Hash.l0, if_pos (by omega), if_pos (by omega), rd_in hi, l_spec_Mod]; simp only [Option.bind_some]
      rw [md_in _ (by omega) (by omega), step_wrap h0 h1, wrap_in (by omega)]; rfl
    · rw [drop_at hi, List.foldl_cons]
      exact e_spec_Hash_l0 l hl d (i + 1) _ (by omega) (step_bd _ _).1 (step_bd _ _).2
theorem e_spec_Hash (l : List Int) (hl : l.length < 20000000000000) : Ev (fun k => spec_Hash.f k l) (hsh l) :=
  e_spec_Hash_l0 l hl l.length 0 11 (by omega) (by omega) (by omega)
theorem e_spec_KeyedHash (key : Int) (l : List Int) (h : l.length < 17592186044000) : Ev (fun k => spec_KeyedHash.f k key l) (kh key l) := by
  refine Ev.congr (f := fun k => spec_Hash.f k (key :: l ++ [key])) (fun k => ?_) (e_spec_Hash _ (by first | omega | (simp; omega)))
  unfold spec_KeyedHash.f; simp only [Option.bind_some]
  rw [if_pos (by first | omega | (simp; omega)), if_pos (by first | omega | (simp; omega))]
  simp
theorem l_spec_Max1 {x : Int} (h : 0 ≤ x) : spec_Max.f 1 x = some (one x) := by
  unfold spec_Max.f one
  by_cases h1 : x = 0
  · subst h1; rfl
  · rw [if_neg h1]
    by_cases h2 : x > 1
    · rw [if_pos h2]
    · rw [if_neg h2]; congr; omega
theorem e_spec_DeriveKey (seed : Int) (l : List Int) (h : l.length < 17592186043000) : Ev (fun k => spec_DeriveKey.f k seed l) (dk seed l) := by
  refine Ev.congr (f := fun k => (spec_KeyedHash.f k seed (151 :: l)).bind fun t => (spec_Max.f 1 t)) (fun k => ?_) ?_
  · unfold spec_DeriveKey.f; simp only [Option.bind_some]
    rw [if_pos (by first | omega | (simp; omega))]; simp
  · refine Ev.bind (e_spec_KeyedHash _ _ (by first | omega | (simp; omega))) ?_
    exact ev_of (fun _ => by rw [l_spec_Max1 (kh_bd _ _).1]; rfl)
theorem e_spec_l10Device (a b c d : Int) : Ev (fun k => spec_l10Device.f k a b c d) (dk c [181]) := by
  unfold spec_l10Device.f
  exact Ev.bind (e_spec_DeriveKey _ _ (by simp)) (Ev.now _)
theorem e_spec_DevicePublic (a b c d : Int) : Ev (fun k => spec_DevicePublic.f k a b c d) (pubk (dk c [181])) := by
  unfold spec_DevicePublic.f
  exact Ev.bind (e_spec_l10Device _ _ _ _) (ev_of fun _ => by rw [l_spec_PublicKey]; rfl)
theorem e_spec_SignMessage (p : Int) (m : List Int) (h : m.length < 17592186040000) : Ev (fun k => spec_SignMessage.f k p m) (sgn p m) := by
  unfold spec_SignMessage.f sgn
  simp only [l_spec_IsValidKey, Option.bind_some]
  by_cases hv : vkey p = true
  · simp only [if_pos hv]
    simp only [if_pos (show ([139, (m.length : Int)] : List Int).length + m.length < 17592186044416 by simp; omega)]
    exact Ev.bind (e_spec_KeyedHash _ _ (by simp; omega)) (ev_now rfl)
  · simp only [if_neg hv]; exact Ev.now _
theorem l_spec_IsValidStore (a b c d : Int) : spec_IsValidStore.f a b c d = some (vstore a b c d) := by
  unfold spec_IsValidStore.f vstore
  simp only [l_spec_l1In, l_spec_IsValidKey, Option.bind_some]
  cases decide (1 ≤ a ∧ a ≤ 9) <;> cases decide (0 ≤ b ∧ b ≤ 1000000) <;> cases vkey c <;> simp
theorem e_spec_VendorPrivate (a b : Int) : Ev (fun k => spec_VendorPrivate.f k a b) (dk a [191, b]) := by
  unfold spec_VendorPrivate.f
  exact Ev.bind (e_spec_DeriveKey _ _ (by simp)) (Ev.now _)
theorem e_spec_Attest (m a b c d : Int) : Ev (fun k => spec_Attest.f k m a b c d) (att m a b c d) := by
  unfold spec_Attest.f att spec_l11Message.f
  simp only [l_spec_IsValidStore, Option.bind_some]
  by_cases h : vstore a b c d = true
  · simp only [if_pos h]
    exact Ev.bind (e_spec_DevicePublic _ _ _ _) (Ev.bind (e_spec_VendorPrivate _ _) (Ev.bind (e_spec_SignMessage _ _ (by simp)) (Ev.now _)))
  · simp only [if_neg h]; exact Ev.now _
theorem e_impl_joined_l0 (ls : List (List Int)) (hn : ls.length < 20000000000000) : ∀ (d i : Nat) (acc : List Int), i + d = ls.length → acc.length + (ls.drop i).flatten.length < 17592186044416 → Ev (fun k => impl_joined.l0 k acc ls (ls.length : Int) (i : Int)) (acc ++ (ls.drop i).flatten)
  | 0, i, acc, hd, _ => by
    refine Ev.step (f := fun _ => some acc) (fun k => ?_) (ev_now ?_)
    · rw [impl_joined.l0, if_neg (by omega)]
    · rw [drop_end (by omega)]; simp
  | d + 1, i, acc, hd, hs => by
    have hi : i < ls.length := by omega
    rw [drop_at hi, List.flatten_cons, List.length_append] at hs
    have hr : rd_L1 ls (i : Int) = ls[i] := by simp [rd_L1, List.getD, List.getElem?_eq_getElem hi]
    refine Ev.step (f := fun k => impl_joined.l0 k (acc ++ ls[i]) ls (ls.length : Int) ((i + 1 : Nat) : Int)) (fun k => ?_) ?_
    · rw [impl_joined.l0, hr, if_pos (by omega), if_pos (by omega), if_pos (by omega), if_pos (by omega), wrap_in (x := (i : Int) + 1) (by omega)]; rfl
    · rw [drop_at hi, List.flatten_cons, ← List.append_assoc]
      exact e_impl_joined_l0 ls hn d (i + 1) _ (by omega) (by rw [List.length_append]; omega)
theorem e_impl_joined (l : List Int) (ls : List (List Int)) (hn : ls.length < 20000000000000) (hs : l.length + ls.flatten.length < 17592186044416) : Ev (fun k => impl_joined.f k l ls) (l ++ ls.flatten) := by
  refine Ev.congr (f := fun k => impl_joined.l0 k l ls (ls.length : Int) ((0 : Nat) : Int)) (fun k => ?_) (e_impl_joined_l0 ls hn ls.length 0 l (by omega) hs)
  unfold impl_joined.f; simp only [Option.bind_some]
  rw [if_pos (by first | omega | (simp; omega))]; rfl
theorem k_impl_Mod (a m : Int) (k : Nat) : impl_Mod.f (k + 1) a m = some (md a m) := by
  unfold impl_Mod.f
  by_cases h1 : m < 1
  · rw [if_pos h1, impl_Mod.j0, if_pos rfl]; unfold md; rw [if_neg (by omega)]
  · rw [if_neg h1, impl_Mod.j0]
    by_cases h2 : m > 1000000000000
    · rw [if_pos (decide_eq_true h2)]; unfold md; rw [if_neg (by omega)]
    · rw [if_neg (by simpa using h2), if_neg (by omega), md_in _ (by omega) (by omega)]
      have hb := tmod_bd (a := a) (m := m) (by omega)
      have hn := tmod_neg_iff (a := a) (m := m) (by omega)
      by_cases h3 : Int.tmod a m < 0
      · rw [if_pos h3] at hn; rw [if_pos h3, wrap_in (by omega), hn]
      · rw [if_neg h3] at hn; rw [if_neg h3, hn]
theorem e_impl_Mod (a m : Int) : Ev (fun k => impl_Mod.f k a m) (md a m) := Ev.step (fun k => k_impl_Mod a m k) (Ev.now _)
theorem e_impl_Hash_l0 (l : List Int) (hl : l.length < 20000000000000) : ∀ (d i : Nat) (h : Int), i + d = l.length → 0 ≤ h → h < 2147483647 → Ev (fun k => impl_Hash.l0 k h l (l.length : Int) (i : Int)) ((l.drop i).foldl hstep h)
  | 0, i, h, hd, _, _ => by
    refine Ev.step (f := fun _ => some h) (fun k => ?_) (ev_now ?_)
    · rw [impl_Hash.l0, if_neg (by omega)]
    · rw [drop_end (by omega)]; rfl
  | d + 1, i, h, hd, h0, h1 => by
    have hi : i < l.length := by omega
    refine Ev.step (f := fun k => (impl_Mod.f k l[i] 2147483647).bind fun t => impl_Hash.l0 k (Int.tmod (wrap64 ((wrap64 ((wrap64 (h * 1000003)) + t)) + 13)) 2147483647) l (l.length : Int) ((i + 1 : Nat) : Int)) (fun k => ?_) ?_
    · rw [impl_Hash.l0, if_pos (by omega), if_pos (by omega), if_pos (by omega), rd_in hi, wrap_in (x := (i : Int) + 1) (by omega)]; rfl
    · refine Ev.bind (e_impl_Mod _ _) ?_
      rw [md_in _ (by omega) (by omega), step_wrap h0 h1, drop_at hi, List.foldl_cons]
      exact e_impl_Hash_l0 l hl d (i + 1) _ (by omega) (step_bd _ _).1 (step_bd _ _).2
theorem e_impl_Hash (l : List Int) (hl : l.length < 20000000000000) : Ev (fun k => impl_Hash.f k l) (hsh l) :=
  e_impl_Hash_l0 l hl l.length 0 11 (by omega) (by omega) (by omega)
theorem e_impl_KeyedHash (key : Int) (l : List Int) (h : l.length < 17592186044000) : Ev (fun k => impl_KeyedHash.f k key l) (kh key l) := by
  unfold impl_KeyedHash.f
  refine Ev.bind (e_impl_joined _ _ (by simp) (by first | omega | (simp; omega))) ?_
  refine Ev.bind (e_impl_Hash _ (by first | omega | (simp; omega))) ?_
  exact ev_now (by simp [kh])
theorem l_impl_InRange (a0 a1 a2 : Int) : impl_InRange.f a0 a1 a2 = some (decide (a1 ≤ a0 ∧ a0 ≤ a2)) := by
  unfold impl_InRange.f
  by_cases h : a1 ≤ a0
  · rw [if_pos h]; simp [h]
  · rw [if_neg h]; simp [h]
theorem l_impl_IsValidKey (a : Int) : impl_IsValidKey.f a = some (vkey a) := by
  unfold impl_IsValidKey.f; rw [l_impl_InRange]; rfl
theorem e_impl_SignMessage (p : Int) (m : List Int) (h : m.length < 17592186040000) : Ev (fun k => impl_SignMessage.f k p m) (sgn p m) := by
  unfold impl_SignMessage.f sgn
  simp only [l_impl_IsValidKey, Option.bind_some]
  by_cases hv : vkey p = true
  · simp only [if_pos hv]
    exact Ev.bind (e_impl_joined _ _ (by simp) (by simp; omega)) (Ev.bind (e_impl_KeyedHash _ _ (by simp; omega)) (ev_now (by simp)))
  · simp only [if_neg hv]; exact Ev.now _
theorem l_impl_IsValidStore (a b c d : Int) : impl_IsValidStore.f a b c d = some (vstore a b c d) := by
  unfold impl_IsValidStore.f vstore
  simp only [l_impl_InRange, l_impl_IsValidKey, Option.bind_some]
  cases decide (1 ≤ a ∧ a ≤ 9) <;> cases decide (0 ≤ b ∧ b ≤ 1000000) <;> cases vkey c <;> simp
theorem l_impl_orOne (x : Int) : impl_orOne.f x = some (one x) := by
  unfold impl_orOne.f one; split <;> rfl
theorem e_impl_DeriveKey (seed : Int) (l : List Int) (h : l.length < 17592186043000) : Ev (fun k => impl_DeriveKey.f k seed l) (dk seed l) := by
  unfold impl_DeriveKey.f
  refine Ev.bind (e_impl_joined _ _ (by simp) (by first | omega | (simp; omega))) ?_
  refine Ev.bind (e_impl_KeyedHash _ _ (by first | omega | (simp; omega))) ?_
  refine ev_of (fun _ => ?_)
  rw [l_impl_orOne]; simp [dk]
theorem l_impl_PublicKey (a : Int) : impl_PublicKey.f a = some (pubk a) := by
  unfold impl_PublicKey.f pubk; rw [l_impl_IsValidKey]; simp only [Option.bind_some]
  by_cases h : vkey a = true
  · rw [if_pos h, if_pos h]; have := of_decide_eq_true h; rw [wrap_in (by omega), tmod_of (by omega)]
  · rw [if_neg h, if_neg h]
theorem e_impl_DevicePublic (a b c d : Int) : Ev (fun k => impl_DevicePublic.f k a b c d) (pubk (dk c [181])) := by
  unfold impl_DevicePublic.f
  exact Ev.bind (e_impl_DeriveKey _ _ (by simp)) (ev_of fun _ => by rw [l_impl_PublicKey]; rfl)
theorem e_impl_VendorPrivate (a b : Int) : Ev (fun k => impl_VendorPrivate.f k a b) (dk a [191, b]) := by
  unfold impl_VendorPrivate.f
  exact Ev.bind (e_impl_DeriveKey _ _ (by simp)) (Ev.now _)
theorem e_impl_Attest (m a b c d : Int) : Ev (fun k => impl_Attest.f k m a b c d) (att m a b c d) := by
  unfold impl_Attest.f att
  simp only [l_impl_IsValidStore, Option.bind_some]
  by_cases h : vstore a b c d = true
  · simp only [if_pos h]
    exact Ev.bind (e_impl_DevicePublic _ _ _ _) (Ev.bind (e_impl_VendorPrivate _ _) (Ev.bind (e_impl_SignMessage _ _ (by simp)) (Ev.now _)))
  · simp only [if_neg h]; exact Ev.now _
theorem l_laws_eqAttestation (a b c d : Int) : laws_eqAttestation.f a b c d a b c d = some true := by
  unfold laws_eqAttestation.f; simp
theorem p_FnExactAttest (m a b c d : Int) (_ : (Lit.int .i64 m).wf = true) (_ : (Lit.int .i64 a).wf = true) (_ : (Lit.int .i64 b).wf = true) (_ : (Lit.int .i64 c).wf = true) (_ : (Lit.int .i64 d).wf = true) : ∃ k, laws_FnExactAttest.f k m a b c d = some true := by
  apply Ev.rounds
  unfold laws_FnExactAttest.f laws_toKeyStore.f
  simp only [Option.bind_some]
  refine Ev.bind (e_spec_Attest _ _ _ _ _) (Ev.bind (e_impl_Attest _ _ _ _ _) (ev_of fun _ => ?_))
  rw [l_laws_eqAttestation]; simp
end Go.Proofs.Ytimjjicbdnehlaa.SFnExactAttest
