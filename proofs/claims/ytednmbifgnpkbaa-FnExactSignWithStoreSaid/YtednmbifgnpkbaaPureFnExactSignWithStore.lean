/- The law FnExactSignWithStore, in plain numbers and lists: what its Go functions compute (as the kit's print tells it) answers true. Conditions: what the reading of the arguments gives (each number of its kind, each length a length). -/
import Derived.Test.YtednmbifgnpkbaaPFnExactSignWithStorex6
import Derived.Test.YtednmbifgnpkbaaMt
namespace Go.Proofs.Ytednmbifgnpkbaa.SFnExactSignWithStore
open Go.RowKit Go.Proofs.Ytednmbifgnpkbaa.PFnExactSignWithStore Go.Proofs.YtednmbifgnpkbaaW.PrintWords Go.Proofs.YtednmbifgnpkbaaW.PrintLast Go.Proofs.Ytednmbifgnpkbaa.Mt
set_option linter.unusedVariables false
set_option linter.unusedSimpArgs false
theorem l_spec_l1In (a0 a1 a2 : Int) : spec_l1In.f a0 a1 a2 = some (decide (a1 ≤ a0 ∧ a0 ≤ a2)) := by
  unfold spec_l1In.f
  by_cases h : a0 ≥ a1
  · rw [if_pos h]; simp [show a1 ≤ a0 from h]
  · rw [if_neg h]; simp [show ¬ a1 ≤ a0 from h]
theorem l_spec_IsValidKey (a : Int) : spec_IsValidKey.f a = some (vkey a) := by
  unfold spec_IsValidKey.f; rw [l_spec_l1In]; rfl
theorem l_spec_IsValidStore (a b c d : Int) : spec_IsValidStore.f a b c d = some (vstore a b c d) := by
  unfold spec_IsValidStore.f vstore
  simp only [l_spec_l1In, l_spec_IsValidKey, Option.bind_some]
  cases decide (1 ≤ a ∧ a ≤ 9) <;> cases decide (0 ≤ b ∧ b ≤ 1000000) <;> cases vkey c <;> simp
theorem l_spec_Mod (a m : Int) : spec_Mod.f a m = some (md a m) := by
  unfold spec_Mod.f
  rw [l_spec_l1In]; simp only [Option.bind_some]
  by_cases h : 1 ≤ m ∧ m ≤ 1000000000000
  · rw [if_pos (decide_eq_true h), if_neg (by omega), md_in _ h.1 h.2]
    have := tmod_bd (a := a) (m := m) (by omega)
    rw [wrap_in (by omega), tmod_of (by omega), tmod_add]
  · rw [if_neg (by simpa using h)]; unfold md; rw [if_neg h]
theorem e_spec_Hash_l0 (l : List Int) (hl : l.length < 20000000000000) : ∀ (d i : Nat) (h : Int), i + d = l.length → 0 ≤ h → h < 2147483647 → Ev (fun k => spec_Hash.l0 k l h (i : Int)) ((l.drop i).foldl hstep h)
  | 0, i, h, hd, _, _ => by
    refine Ev.step (f := fun _ => some h) (fun k => ?_) (ev_now ?_)
    · rw [spec_Hash.l0, if_neg (by omega)]
    · rw [drop_end (by omega)]; rfl
  | d + 1, i, h, hd, h0, h1 => by
    have hi : i < l.length := by omega
    refine Ev.step (f := fun k => spec_Hash.l0 k l (hstep h l[i]) ((i + 1 : Nat) : Int)) (fun k => ?_) ?_
    · rw [spec_Hash.l0, if_pos (by omega), if_pos (by omega), rd_in hi, l_spec_Mod]; simp only [Option.bind_some]
      rw [md_in _ (by omega) (by omega), step_wrap h0 h1, wrap_in (by omega)]; rfl
    · rw [drop_at hi, List.foldl_cons]
      exact e_spec_Hash_l0 l hl d (i + 1) _ (by omega) (step_bd _ _).1 (step_bd _ _).2
theorem e_spec_Hash (l : List Int) (hl : l.length < 20000000000000) : Ev (fun k => spec_Hash.f k l) (hsh l) :=
  e_spec_Hash_l0 l hl l.length 0 11 (by omega) (by omega) (by omega)
theorem e_spec_KeyedHash (key : Int) (l : List Int) (h : l.length < 17592186044000) : Ev (fun k => spec_KeyedHash.f k key l) (kh key l) := by
  refine Ev.congr (f := fun k => spec_Hash.f k (key :: l ++ [key])) (fun k => ?_) (e_spec_Hash _ (by first | omega | (simp; omega)))
  unfold spec_KeyedHash.f; simp only [Option.bind_some]
  rw [if_pos (by first | omega | (simp; omega)), if_pos (by first | omega | (simp; omega))]
  simp
theorem e_spec_SignMessage (p : Int) (m : List Int) (h : m.length < 17592186040000) : Ev (fun k => spec_SignMessage.f k p m) (sgn p m) := by
  unfold spec_SignMessage.f sgn
  simp only [l_spec_IsValidKey, Option.bind_some]
  by_cases hv : vkey p = true
  · simp only [if_pos hv]
    simp only [if_pos (show ([139, (m.length : Int)] : List Int).length + m.length < 17592186044416 by simp; omega)]
    exact Ev.bind (e_spec_KeyedHash _ _ (by simp; omega)) (ev_now rfl)
  · simp only [if_neg hv]; exact Ev.now _
theorem l_spec_Max1 {x : Int} (h : 0 ≤ x) : spec_Max.f 1 x = some (one x) := by
  unfold spec_Max.f one
  by_cases h1 : x = 0
  · subst h1; rfl
  · rw [if_neg h1]
    by_cases h2 : x > 1
    · rw [if_pos h2]
    · rw [if_neg h2]; congr; omega
theorem e_spec_DeriveKey (seed : Int) (l : List Int) (h : l.length < 17592186043000) : Ev (fun k => spec_DeriveKey.f k seed l) (dk seed l) := by
  refine Ev.congr (f := fun k => (spec_KeyedHash.f k seed (151 :: l)).bind fun t => (spec_Max.f 1 t)) (fun k => ?_) ?_
  · unfold spec_DeriveKey.f; simp only [Option.bind_some]
    rw [if_pos (by first | omega | (simp; omega))]; simp
  · refine Ev.bind (e_spec_KeyedHash _ _ (by first | omega | (simp; omega))) ?_
    exact ev_of (fun _ => by rw [l_spec_Max1 (kh_bd _ _).1]; rfl)
theorem e_spec_BytesToInts (l : List Int) (hl : l.length < 17592186000000) (hw : ∀ x ∈ l, 0 ≤ x ∧ x ≤ 255) : Ev (fun k => spec_BytesToInts.f k l) ((l.length : Int) :: l) := by
  have h : ∀ (d i : Nat) (acc : List Int), i + d = l.length → acc.length = i + 1 → Ev (fun k => spec_BytesToInts.l0 k l acc (i : Int)) (acc ++ l.drop i) := by
    intro d
    induction d with
    | zero => intro i acc h _; rw [drop_end (by omega), List.append_nil]; exact ev1 fun k => by rw [spec_BytesToInts.l0, if_neg (by omega)]
    | succ d ih =>
      intro i acc h ha
      have hi : i < l.length := by omega
      have hx := hw l[i] (List.getElem_mem hi)
      have hr := ih (i + 1) (acc ++ [l[i]]) (by omega) (by simp; omega)
      rw [List.append_assoc, List.singleton_append, ← drop_at hi] at hr
      refine Ev.step (fun k => ?_) hr
      rw [spec_BytesToInts.l0, if_pos (by omega), if_pos (by omega), if_pos (by omega), rd_in hi, wrap_in (x := l[i]) (by omega), wrap_in (by omega)]; rfl
  exact h l.length 0 [(l.length : Int)] (by omega) (by simp)
theorem e_spec_DeriveFromString (key : Int) (s : ByteArray) (hs : s.size < 17592180000000) : Ev (fun k => spec_DeriveFromString.f k key s) (dfs key s) := by
  unfold spec_DeriveFromString.f
  simp only [if_pos (show s.size < 17592186044416 by omega)]
  refine Ev.bind (e_spec_BytesToInts _ (by rw [bytesOf_length]; omega) bytesOf_rng) (Ev.bind (e_spec_KeyedHash _ _ (by rw [List.length_cons, bytesOf_length]; omega)) (ev_of fun _ => ?_))
  rw [l_spec_Max1 (kh_bd _ _).1]; rfl
theorem e_spec_SiteHash (s : ByteArray) (hs : s.size < 17592180000000) : Ev (fun k => spec_SiteHash.f k s) (dfs 173 s) := by
  unfold spec_SiteHash.f
  exact Ev.bind (e_spec_DeriveFromString _ _ hs) (Ev.now _)
theorem e_spec_SitePrivate (a b c d : Int) (s : ByteArray) (h : Int) (hs : s.size < 17592180000000) : Ev (fun k => spec_SitePrivate.f k a b c d s h) (dk c [179, dfs 173 s, h]) := by
  unfold spec_SitePrivate.f
  exact Ev.bind (e_spec_SiteHash s hs) (Ev.bind (e_spec_DeriveKey _ _ (by simp)) (Ev.now _))
theorem e_spec_SignWithStore (a b c d : Int) (s : ByteArray) (h : Int) (m : List Int) (hs : s.size < 17592180000000) (hm : m.length < 17592180000000) (hd : -9223372036854775808 ≤ d ∧ d ≤ 9223372036854775807) : Ev (fun k => spec_SignWithStore.f k a b c d s h m) (sws a b c d s h m) := by
  unfold spec_SignWithStore.f sws
  simp only [l_spec_IsValidStore, Option.bind_some]
  by_cases hv : vstore a b c d = true
  · simp only [hv, if_true, true_and]
    have hb := vstore_d hv
    by_cases h1 : d = 1000000
    · rw [if_neg (fun e => e h1)]; exact ev1 fun k => by rw [spec_SignWithStore.j0, if_pos (by simp [h1])]
    · rw [if_pos h1]
      refine Ev.step (f := fun k => (spec_SitePrivate.f k a b c d s h).bind fun t => (spec_SignMessage.f k t (m ++ [d + 1])).bind fun u => some (a, b, c, d + 1, u, true)) (fun k => ?_) (Ev.bind (e_spec_SitePrivate a b c d s h hs) (Ev.bind (e_spec_SignMessage _ _ (by simp; omega)) (Ev.now _)))
      rw [spec_SignWithStore.j0, if_neg (by simpa using h1), wrap_in (x := d + 1) (by omega)]
      simp only [Option.bind_some, List.nil_append, List.length_nil]
      congr 1; funext t
      rw [if_pos (by omega), if_pos (by first | omega | (simp; omega))]
  · rw [if_neg (fun q => hv q.1)]
    simp only [if_neg hv]
    exact ev1 fun k => by rw [spec_SignWithStore.j0, if_pos rfl]
theorem e_laws_toIntS (l : List Int) (hl : l.length ≤ 1048576) : Ev (fun k => laws_toIntS.f k l) l := by
  have h := copy_loop (F := fun k o i => laws_toIntS.l0 k l o i) (l := l) (conv := id) (fun o ho => ev1 fun k => by rw [laws_toIntS.l0, if_neg (by omega)])
    (fun o i hi ho r hr => Ev.step (fun k => by rw [laws_toIntS.l0, if_pos (by omega), if_pos (by omega), if_pos (by omega), rd_in hi, wrap_in (by omega)]; rfl) hr) (List.replicate l.length 0) (by simp)
  rw [List.map_id] at h
  refine Ev.congr (fun k => ?_) h
  unfold laws_toIntS.f
  rw [if_pos (by omega), if_pos (by omega)]; rfl
theorem e_impl_joined_l0 (ls : List (List Int)) (hn : ls.length < 20000000000000) : ∀ (d i : Nat) (acc : List Int), i + d = ls.length → acc.length + (ls.drop i).flatten.length < 17592186044416 → Ev (fun k => impl_joined.l0 k acc ls (ls.length : Int) (i : Int)) (acc ++ (ls.drop i).flatten)
  | 0, i, acc, hd, _ => by
    refine Ev.step (f := fun _ => some acc) (fun k => ?_) (ev_now ?_)
    · rw [impl_joined.l0, if_neg (by omega)]
    · rw [drop_end (by omega)]; simp
  | d + 1, i, acc, hd, hs => by
    have hi : i < ls.length := by omega
    rw [drop_at hi, List.flatten_cons, List.length_append] at hs
    have hr : rd_L2 ls (i : Int) = ls[i] := by simp [rd_L2, List.getD, List.getElem?_eq_getElem hi]
    refine Ev.step (f := fun k => impl_joined.l0 k (acc ++ ls[i]) ls (ls.length : Int) ((i + 1 : Nat) : Int)) (fun k => ?_) ?_
    · rw [impl_joined.l0, hr, if_pos (by omega), if_pos (by omega), if_pos (by omega), if_pos (by omega), wrap_in (x := (i : Int) + 1) (by omega)]; rfl
    · rw [drop_at hi, List.flatten_cons, ← List.append_assoc]
      exact e_impl_joined_l0 ls hn d (i + 1) _ (by omega) (by rw [List.length_append]; omega)
theorem e_impl_joined (l : List Int) (ls : List (List Int)) (hn : ls.length < 20000000000000) (hs : l.length + ls.flatten.length < 17592186044416) : Ev (fun k => impl_joined.f k l ls) (l ++ ls.flatten) := by
  refine Ev.congr (f := fun k => impl_joined.l0 k l ls (ls.length : Int) ((0 : Nat) : Int)) (fun k => ?_) (e_impl_joined_l0 ls hn ls.length 0 l (by omega) hs)
  unfold impl_joined.f; simp only [Option.bind_some]
  rw [if_pos (by first | omega | (simp; omega))]; rfl
theorem l_impl_orOne (x : Int) : impl_orOne.f x = some (one x) := by
  unfold impl_orOne.f one; split <;> rfl
theorem k_impl_Mod (a m : Int) (k : Nat) : impl_Mod.f (k + 1) a m = some (md a m) := by
  unfold impl_Mod.f
  by_cases h1 : m < 1
  · rw [if_pos h1, impl_Mod.j0, if_pos rfl]; unfold md; rw [if_neg (by omega)]
  · rw [if_neg h1, impl_Mod.j0]
    by_cases h2 : m > 1000000000000
    · rw [if_pos (decide_eq_true h2)]; unfold md; rw [if_neg (by omega)]
    · rw [if_neg (by simpa using h2), if_neg (by omega), md_in _ (by omega) (by omega)]
      have hb := tmod_bd (a := a) (m := m) (by omega)
      have hn := tmod_neg_iff (a := a) (m := m) (by omega)
      by_cases h3 : Int.tmod a m < 0
      · rw [if_pos h3] at hn; rw [if_pos h3, wrap_in (by omega), hn]
      · rw [if_neg h3] at hn; rw [if_neg h3, hn]
theorem e_impl_Mod (a m : Int) : Ev (fun k => impl_Mod.f k a m) (md a m) := Ev.step (fun k => k_impl_Mod a m k) (Ev.now _)
theorem e_impl_Hash_l0 (l : List Int) (hl : l.length < 20000000000000) : ∀ (d i : Nat) (h : Int), i + d = l.length → 0 ≤ h → h < 2147483647 → Ev (fun k => impl_Hash.l0 k h l (l.length : Int) (i : Int)) ((l.drop i).foldl hstep h)
  | 0, i, h, hd, _, _ => by
    refine Ev.step (f := fun _ => some h) (fun k => ?_) (ev_now ?_)
    · rw [impl_Hash.l0, if_neg (by omega)]
    · rw [drop_end (by omega)]; rfl
  | d + 1, i, h, hd, h0, h1 => by
    have hi : i < l.length := by omega
    refine Ev.step (f := fun k => (impl_Mod.f k l[i] 2147483647).bind fun t => impl_Hash.l0 k (Int.tmod (wrap64 ((wrap64 ((wrap64 (h * 1000003)) + t)) + 13)) 2147483647) l (l.length : Int) ((i + 1 : Nat) : Int)) (fun k => ?_) ?_
    · rw [impl_Hash.l0, if_pos (by omega), if_pos (by omega), if_pos (by omega), rd_in hi, wrap_in (x := (i : Int) + 1) (by omega)]; rfl
    · refine Ev.bind (e_impl_Mod _ _) ?_
      rw [md_in _ (by omega) (by omega), step_wrap h0 h1, drop_at hi, List.foldl_cons]
      exact e_impl_Hash_l0 l hl d (i + 1) _ (by omega) (step_bd _ _).1 (step_bd _ _).2
theorem e_impl_Hash (l : List Int) (hl : l.length < 20000000000000) : Ev (fun k => impl_Hash.f k l) (hsh l) :=
  e_impl_Hash_l0 l hl l.length 0 11 (by omega) (by omega) (by omega)
theorem e_impl_KeyedHash (key : Int) (l : List Int) (h : l.length < 17592186044000) : Ev (fun k => impl_KeyedHash.f k key l) (kh key l) := by
  unfold impl_KeyedHash.f
  refine Ev.bind (e_impl_joined _ _ (by simp) (by first | omega | (simp; omega))) ?_
  refine Ev.bind (e_impl_Hash _ (by first | omega | (simp; omega))) ?_
  exact ev_now (by simp [kh])
theorem e_impl_DeriveKey (seed : Int) (l : List Int) (h : l.length < 17592186043000) : Ev (fun k => impl_DeriveKey.f k seed l) (dk seed l) := by
  unfold impl_DeriveKey.f
  refine Ev.bind (e_impl_joined _ _ (by simp) (by first | omega | (simp; omega))) ?_
  refine Ev.bind (e_impl_KeyedHash _ _ (by first | omega | (simp; omega))) ?_
  refine ev_of (fun _ => ?_)
  rw [l_impl_orOne]; simp [dk]
theorem e_impl_BytesToInts (l : List Int) (hl : l.length < 17592186000000) (hw : ∀ x ∈ l, 0 ≤ x ∧ x ≤ 255) : Ev (fun k => impl_BytesToInts.f k l) ((l.length : Int) :: l) := by
  have h : ∀ (d i : Nat) (acc : List Int), i + d = l.length → acc.length = i + 1 → Ev (fun k => impl_BytesToInts.l0 k acc l (l.length : Int) (i : Int)) (acc ++ l.drop i) := by
    intro d
    induction d with
    | zero => intro i acc h _; rw [drop_end (by omega), List.append_nil]; exact ev1 fun k => by rw [impl_BytesToInts.l0, if_neg (by omega)]
    | succ d ih =>
      intro i acc h ha
      have hi : i < l.length := by omega
      have hx := hw l[i] (List.getElem_mem hi)
      have hr := ih (i + 1) (acc ++ [l[i]]) (by omega) (by simp; omega)
      rw [List.append_assoc, List.singleton_append, ← drop_at hi] at hr
      refine Ev.step (fun k => ?_) hr
      rw [impl_BytesToInts.l0, if_pos (by omega), if_pos (by omega), if_pos (by omega), if_pos (by omega), rd_in hi, wrap_in (x := l[i]) (by omega), wrap_in (by omega)]; rfl
  exact h l.length 0 [(l.length : Int)] (by omega) (by simp)
theorem e_impl_DeriveFromString (key : Int) (s : ByteArray) (hs : s.size < 17592180000000) : Ev (fun k => impl_DeriveFromString.f k key s) (dfs key s) := by
  unfold impl_DeriveFromString.f
  simp only [if_pos (show s.size < 17592186044416 by omega)]
  refine Ev.bind (e_impl_BytesToInts _ (by rw [bytesOf_length]; omega) bytesOf_rng) (Ev.bind (e_impl_KeyedHash _ _ (by rw [List.length_cons, bytesOf_length]; omega)) (ev_of fun _ => ?_))
  rw [l_impl_orOne]; rfl
theorem e_impl_SiteHash (s : ByteArray) (hs : s.size < 17592180000000) : Ev (fun k => impl_SiteHash.f k s) (dfs 173 s) := by
  unfold impl_SiteHash.f
  exact Ev.bind (e_impl_DeriveFromString _ _ hs) (Ev.now _)
theorem e_impl_SitePrivate (a b c d : Int) (s : ByteArray) (h : Int) (hs : s.size < 17592180000000) : Ev (fun k => impl_SitePrivate.f k a b c d s h) (dk c [179, dfs 173 s, h]) := by
  unfold impl_SitePrivate.f
  exact Ev.bind (e_impl_SiteHash s hs) (Ev.bind (e_impl_DeriveKey _ _ (by simp)) (Ev.now _))
theorem l_impl_InRange (a0 a1 a2 : Int) : impl_InRange.f a0 a1 a2 = some (decide (a1 ≤ a0 ∧ a0 ≤ a2)) := by
  unfold impl_InRange.f
  by_cases h : a1 ≤ a0
  · rw [if_pos h]; simp [h]
  · rw [if_neg h]; simp [h]
theorem l_impl_IsValidKey (a : Int) : impl_IsValidKey.f a = some (vkey a) := by
  unfold impl_IsValidKey.f; rw [l_impl_InRange]; rfl
theorem l_impl_IsValidStore (a b c d : Int) : impl_IsValidStore.f a b c d = some (vstore a b c d) := by
  unfold impl_IsValidStore.f vstore
  simp only [l_impl_InRange, l_impl_IsValidKey, Option.bind_some]
  cases decide (1 ≤ a ∧ a ≤ 9) <;> cases decide (0 ≤ b ∧ b ≤ 1000000) <;> cases vkey c <;> simp
theorem e_impl_SignMessage (p : Int) (m : List Int) (h : m.length < 17592186040000) : Ev (fun k => impl_SignMessage.f k p m) (sgn p m) := by
  unfold impl_SignMessage.f sgn
  simp only [l_impl_IsValidKey, Option.bind_some]
  by_cases hv : vkey p = true
  · simp only [if_pos hv]
    exact Ev.bind (e_impl_joined _ _ (by simp) (by simp; omega)) (Ev.bind (e_impl_KeyedHash _ _ (by simp; omega)) (ev_now (by simp)))
  · simp only [if_neg hv]; exact Ev.now _
theorem e_impl_SignWithStore (a b c d : Int) (s : ByteArray) (h : Int) (m : List Int) (hs : s.size < 17592180000000) (hm : m.length < 17592180000000) (hd : -9223372036854775808 ≤ d ∧ d ≤ 9223372036854775807) : Ev (fun k => impl_SignWithStore.f k a b c d s h m) (sws a b c d s h m) := by
  unfold impl_SignWithStore.f sws
  simp only [l_impl_IsValidStore, Option.bind_some]
  by_cases hv : vstore a b c d = true
  · simp only [hv, if_true, true_and]
    have hb := vstore_d hv
    by_cases h1 : d = 1000000
    · rw [if_neg (fun e => e h1)]; exact ev1 fun k => by rw [impl_SignWithStore.j0, if_pos (by simp [h1])]
    · rw [if_pos h1]
      refine Ev.step (fun k => by rw [impl_SignWithStore.j0, if_neg (by simpa using h1), wrap_in (x := d + 1) (by omega)]) ?_
      refine Ev.bind (e_impl_SitePrivate a b c (d + 1) s h hs) (Ev.bind (e_impl_joined m [[d + 1]] (by simp) (by simp; omega)) (Ev.bind (e_impl_SignMessage _ _ (by simp; omega)) (ev_now (by simp))))
  · rw [if_neg (fun q => hv q.1)]
    simp only [if_neg hv]
    exact ev1 fun k => by rw [impl_SignWithStore.j0, if_pos rfl]
theorem l_laws_eqKeyStore (a b c d a' b' c' d' : Int) : laws_eqKeyStore.f a b c d a' b' c' d' = some (decide (a = a' ∧ b = b' ∧ c = c' ∧ d = d')) := by
  unfold laws_eqKeyStore.f
  by_cases h0 : a = a' <;> by_cases h1 : b = b' <;> by_cases h2 : c = c' <;> by_cases h3 : d = d' <;> simp [h0, h1, h2, h3]
theorem e_laws_eqIntS (l : List Int) (hl : l.length ≤ 1048576) : Ev (fun k => laws_eqIntS.f k l l) true := by
  have h := skip_loop (F := fun k i => laws_eqIntS.l0 k l l i) (n := l.length) (r := true) (ev1 fun k => by rw [laws_eqIntS.l0, if_neg (by omega)])
    (fun i hi r hr => Ev.step (fun k => by rw [laws_eqIntS.l0, if_pos (by omega), if_pos (by omega), if_pos (by omega), if_pos rfl, wrap_in (by omega)]; rfl) hr)
  refine Ev.congr (fun k => ?_) h
  unfold laws_eqIntS.f; rw [if_pos rfl]
theorem p_FnExactSignWithStore (a b c d : Int) (s : ByteArray) (n : Int) (m : List Int) (_ : (Lit.int .i64 a).wf = true) (_ : (Lit.int .i64 b).wf = true) (_ : (Lit.int .i64 c).wf = true) (hd : (Lit.int .i64 d).wf = true) (_ : s.size ≤ 9223372036854775807) (_ : (Lit.int .i64 n).wf = true) (_ : m.length ≤ 9223372036854775807 ∧ ∀ x ∈ m, (Lit.int .i64 x).wf = true) : ∃ k, laws_FnExactSignWithStore.f k a b c d s n m = some true := by
  apply Ev.rounds
  unfold laws_FnExactSignWithStore.f laws_toKeyStore.f
  by_cases h : (s.size : Int) > 1048576
  · simp only [if_pos h]; exact Ev.now _
  · by_cases h2 : (m.length : Int) > 1048576
    · simp only [if_neg h, if_pos h2]; exact Ev.now _
    · simp only [if_neg h, if_neg h2, Option.bind_some]
      have hd' := wf64 hd
      refine Ev.bind (e_laws_toIntS m (by omega)) (Ev.bind (e_spec_SignWithStore a b c d s n m (by omega) (by omega) hd') (Ev.bind (e_laws_toIntS m (by omega)) (Ev.bind (e_impl_SignWithStore a b c d s n m (by omega) (by omega) hd') ?_)))
      simp only [l_laws_eqKeyStore, Option.bind_some, and_self, decide_true, if_true, bne_self_eq_false]
      refine Ev.step (fun k => by rw [laws_FnExactSignWithStore.j0, if_neg (by simp)]) ?_
      exact Ev.bind (e_laws_toIntS m (by omega)) (Ev.bind (e_laws_eqIntS _ (by omega)) (Ev.now _))
end Go.Proofs.Ytednmbifgnpkbaa.SFnExactSignWithStore
