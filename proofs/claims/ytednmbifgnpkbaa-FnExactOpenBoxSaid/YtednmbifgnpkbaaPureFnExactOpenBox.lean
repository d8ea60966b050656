/- The law FnExactOpenBox, in plain numbers and lists: what its Go functions compute (as the kit's print tells it) answers true. Conditions: what the reading of the arguments gives (each number of its kind, each length a length). -/
import Derived.Test.YtednmbifgnpkbaaPFnExactOpenBoxx8
import Derived.Test.YtednmbifgnpkbaaMt
namespace Go.Proofs.Ytednmbifgnpkbaa.SFnExactOpenBox
open Go.RowKit Go.Proofs.Ytednmbifgnpkbaa.PFnExactOpenBox Go.Proofs.YtednmbifgnpkbaaW.PrintWords Go.Proofs.YtednmbifgnpkbaaW.PrintLast Go.Proofs.Ytednmbifgnpkbaa.Mt
set_option linter.unusedVariables false
set_option linter.unusedSimpArgs false
theorem l_laws_szByteS (l : List Int) (left : Int) (hl : 0 ≤ left ∧ left ≤ 1048576) (hn : l.length ≤ 9223372036854775807) : laws_szByteS.f l left = some (szd left l.length) := szd_eq hl hn
theorem l_laws_szBox (a b : Int) (l : List Int) (c : Int) (left : Int) (hl : 0 ≤ left ∧ left ≤ 1048576) (hn : l.length ≤ 9223372036854775807) : laws_szBox.f a b l c left = some (szd left l.length) := by
  unfold laws_szBox.f
  rw [l_laws_szByteS l left hl hn]; simp only [Option.bind_some]
  by_cases h : szd left l.length < 0
  · rw [if_pos h]; have := szd_bd (n := l.length) hl; congr; omega
  · rw [if_neg h]
theorem l_spec_l1In (a0 a1 a2 : Int) : spec_l1In.f a0 a1 a2 = some (decide (a1 ≤ a0 ∧ a0 ≤ a2)) := by
  unfold spec_l1In.f
  by_cases h : a0 ≥ a1
  · rw [if_pos h]; simp [show a1 ≤ a0 from h]
  · rw [if_neg h]; simp [show ¬ a1 ≤ a0 from h]
theorem l_spec_IsValidKey (a : Int) : spec_IsValidKey.f a = some (vkey a) := by
  unfold spec_IsValidKey.f; rw [l_spec_l1In]; rfl
theorem l_spec_PublicKey (a : Int) : spec_PublicKey.f a = some (pubk a) := by
  unfold spec_PublicKey.f pubk; rw [l_spec_IsValidKey]; simp only [Option.bind_some]
  by_cases h : vkey a = true
  · rw [if_pos h, if_pos h]; have := of_decide_eq_true h; rw [wrap_in (by omega), tmod_of (by omega)]
  · rw [if_neg h, if_neg h]
theorem l_spec_Max1 {x : Int} (h : 0 ≤ x) : spec_Max.f 1 x = some (one x) := by
  unfold spec_Max.f one
  by_cases h1 : x = 0
  · subst h1; rfl
  · rw [if_neg h1]
    by_cases h2 : x > 1
    · rw [if_pos h2]
    · rw [if_neg h2]; congr; omega
theorem l_spec_Mod (a m : Int) : spec_Mod.f a m = some (md a m) := by
  unfold spec_Mod.f
  rw [l_spec_l1In]; simp only [Option.bind_some]
  by_cases h : 1 ≤ m ∧ m ≤ 1000000000000
  · rw [if_pos (decide_eq_true h), if_neg (by omega), md_in _ h.1 h.2]
    have := tmod_bd (a := a) (m := m) (by omega)
    rw [wrap_in (by omega), tmod_of (by omega), tmod_add]
  · rw [if_neg (by simpa using h)]; unfold md; rw [if_neg h]
theorem e_spec_Hash_l0 (l : List Int) (hl : l.length < 20000000000000) : ∀ (d i : Nat) (h : Int), i + d = l.length → 0 ≤ h → h < 2147483647 → Ev (fun k => spec_Hash.l0 k l h (i : Int)) ((l.drop i).foldl hstep h)
  | 0, i, h, hd, _, _ => by
    refine Ev.step (f := fun _ => some h) (fun k => ?_) (ev_now ?_)
    · rw [spec_Hash.l0, if_neg (by omega)]
    · rw [drop_end (by omega)]; rfl
  | d + 1, i, h, hd, h0, h1 => by
    have hi : i < l.length := by omega
    refine Ev.step (f := fun k => spec_Hash.l0 k l (hstep h l[i]) ((i + 1 : Nat) : Int)) (fun k => ?_) ?_
    · rw [spec_Hash.l0, if_pos (by omega), if_pos (by omega), rd_in hi, l_spec_Mod]; simp only [Option.bind_some]
      rw [md_in _ (by omega) (by omega), step_wrap h0 h1, wrap_in (by omega)]; rfl
    · rw [drop_at hi, List.foldl_cons]
      exact e_spec_Hash_l0 l hl d (i + 1) _ (by omega) (step_bd _ _).1 (step_bd _ _).2
theorem e_spec_Hash (l : List Int) (hl : l.length < 20000000000000) : Ev (fun k => spec_Hash.f k l) (hsh l) :=
  e_spec_Hash_l0 l hl l.length 0 11 (by omega) (by omega) (by omega)
theorem e_spec_KeyedHash (key : Int) (l : List Int) (h : l.length < 17592186044000) : Ev (fun k => spec_KeyedHash.f k key l) (kh key l) := by
  refine Ev.congr (f := fun k => spec_Hash.f k (key :: l ++ [key])) (fun k => ?_) (e_spec_Hash _ (by first | omega | (simp; omega)))
  unfold spec_KeyedHash.f; simp only [Option.bind_some]
  rw [if_pos (by first | omega | (simp; omega)), if_pos (by first | omega | (simp; omega))]
  simp
theorem e_spec_DeriveKey (seed : Int) (l : List Int) (h : l.length < 17592186043000) : Ev (fun k => spec_DeriveKey.f k seed l) (dk seed l) := by
  refine Ev.congr (f := fun k => (spec_KeyedHash.f k seed (151 :: l)).bind fun t => (spec_Max.f 1 t)) (fun k => ?_) ?_
  · unfold spec_DeriveKey.f; simp only [Option.bind_some]
    rw [if_pos (by first | omega | (simp; omega))]; simp
  · refine Ev.bind (e_spec_KeyedHash _ _ (by first | omega | (simp; omega))) ?_
    exact ev_of (fun _ => by rw [l_spec_Max1 (kh_bd _ _).1]; rfl)
theorem e_spec_BoxKey (a b : Int) : Ev (fun k => spec_BoxKey.f k a b) (dk a [163, b]) := by
  unfold spec_BoxKey.f
  exact Ev.bind (e_spec_DeriveKey _ _ (by simp)) (Ev.now _)
theorem e_spec_BytesToInts (l : List Int) (hl : l.length < 17592186000000) (hw : ∀ x ∈ l, 0 ≤ x ∧ x ≤ 255) : Ev (fun k => spec_BytesToInts.f k l) ((l.length : Int) :: l) := by
  have h : ∀ (d i : Nat) (acc : List Int), i + d = l.length → acc.length = i + 1 → Ev (fun k => spec_BytesToInts.l0 k l acc (i : Int)) (acc ++ l.drop i) := by
    intro d
    induction d with
    | zero => intro i acc h _; rw [drop_end (by omega), List.append_nil]; exact ev1 fun k => by rw [spec_BytesToInts.l0, if_neg (by omega)]
    | succ d ih =>
      intro i acc h ha
      have hi : i < l.length := by omega
      have hx := hw l[i] (List.getElem_mem hi)
      have hr := ih (i + 1) (acc ++ [l[i]]) (by omega) (by simp; omega)
      rw [List.append_assoc, List.singleton_append, ← drop_at hi] at hr
      refine Ev.step (fun k => ?_) hr
      rw [spec_BytesToInts.l0, if_pos (by omega), if_pos (by omega), if_pos (by omega), rd_in hi, wrap_in (x := l[i]) (by omega), wrap_in (by omega)]; rfl
  exact h l.length 0 [(l.length : Int)] (by omega) (by simp)
theorem e_spec_BoxMAC (key a b : Int) (l : List Int) (c : Int) (hl : l.length < 17592180000000) (hw : ∀ x ∈ l, 0 ≤ x ∧ x ≤ 255) : Ev (fun k => spec_BoxMAC.f k key a b l c) (bmac key a b l) := by
  unfold spec_BoxMAC.f bmac
  simp only [Option.bind_some]
  refine Ev.bind (e_spec_BytesToInts l (by omega) hw) ?_
  simp only [if_pos (show ([167, a, b] : List Int).length + ((l.length : Int) :: l).length < 17592186044416 by simp; omega)]
  exact Ev.bind (e_spec_KeyedHash _ _ (by simp; omega)) (ev_now (by simp))
theorem e_spec_Decrypt (key : Int) (l : List Int) (hl : l.length ≤ 1048576) (hw : ∀ x ∈ l, 0 ≤ x ∧ x ≤ 255) : Ev (fun k => spec_Decrypt.f k key l) (decL key l) :=
  build_loop (F := fun k o i => spec_Decrypt.l0 k key l o i) (n := l.length) (g := fun (i : Nat) => (rd l i - kh key [(i : Int)]) % 256) (fin := id)
    (fun o ho => ev1 fun k => by rw [spec_Decrypt.l0, if_neg (by omega)]; rfl)
    (fun o i hi ho r hr => by
      have hx := rd_rng hw hi
      have hk := kh_bd key [(i : Int)]
      have e : md (wrap64 ((wrap64 (rd l i)) - (Int.tmod (kh key [(i : Int)]) 256))) 256 % 256 = (rd l i - kh key [(i : Int)]) % 256 := by
        rw [md_in _ (by omega) (by omega), wrap_in (x := rd l i) (by omega), tmod_of hk.1, wrap_in (by omega)]; omega
      refine Ev.step (f := fun k => (spec_KeyedHash.f k key [(i : Int)]).bind fun t => spec_Decrypt.l0 k key l (o ++ [md (wrap64 ((wrap64 (rd l i)) - (Int.tmod t 256))) 256 % 256]) ((i + 1 : Nat) : Int)) (fun k => ?_) ?_
      · rw [spec_Decrypt.l0, if_pos (by omega), if_pos (by omega)]; simp only [l_spec_Mod, Option.bind_some]
        simp only [if_pos (show o.length < 140737488355328 by omega)]; rw [wrap_in (x := (i : Int) + 1) (by omega)]; rfl
      · refine Ev.bind (e_spec_KeyedHash _ _ (by simp)) ?_
        rw [e]; exact hr)
theorem e_spec_OpenBox (q a b : Int) (l : List Int) (c : Int) (hl : l.length ≤ 1048576) (hw : ∀ x ∈ l, 0 ≤ x ∧ x ≤ 255) : Ev (fun k => spec_OpenBox.f k q a b l c) (opn q a b l c) := by
  unfold spec_OpenBox.f opn
  simp only [l_spec_IsValidKey, l_spec_PublicKey, Option.bind_some]
  by_cases h : vkey q = true
  · simp only [if_pos h]
    by_cases h2 : a = pubk q
    · simp only [if_pos h2]
      by_cases h3 : vkey b = true
      · simp only [if_pos h3]
        by_cases h4 : (l.length : Int) > 200
        · rw [if_neg (fun z => by have := z.2.2.2; omega)]; exact ev1 fun k => by rw [spec_OpenBox.j0, if_pos (decide_eq_true h4)]
        · rw [if_pos ⟨h, h2, h3, by omega⟩]
          refine Ev.step (fun k => by rw [spec_OpenBox.j0, if_neg (by simpa using h4)]) ?_
          refine Ev.bind (e_spec_BoxKey _ _) (Ev.bind (e_spec_BoxMAC _ _ _ _ _ (by omega) hw) ?_)
          by_cases h5 : c = bmac (dk q [163, b]) a b l
          · simp only [if_pos h5]; exact Ev.bind (e_spec_Decrypt _ l hl hw) (Ev.now _)
          · simp only [if_neg h5]; exact Ev.now _
      · simp only [if_neg h3]; rw [if_neg (fun z => h3 z.2.2.1)]; exact ev1 fun k => by rw [spec_OpenBox.j0, if_pos rfl]
    · simp only [if_neg h2]; rw [if_neg (fun z => h2 z.2.1)]; exact ev1 fun k => by rw [spec_OpenBox.j0, if_pos rfl]
  · simp only [if_neg h]; rw [if_neg (fun z => h z.1)]; exact ev1 fun k => by rw [spec_OpenBox.j0, if_pos rfl]
theorem e_laws_toByteS (l : List Int) (hl : l.length ≤ 1048576) : Ev (fun k => laws_toByteS.f k l) l := by
  have h := copy_loop (F := fun k o i => laws_toByteS.l0 k l o i) (l := l) (conv := id) (fun o ho => ev1 fun k => by rw [laws_toByteS.l0, if_neg (by omega)])
    (fun o i hi ho r hr => Ev.step (fun k => by rw [laws_toByteS.l0, if_pos (by omega), if_pos (by omega), if_pos (by omega), rd_in hi, wrap_in (by omega)]; rfl) hr) (List.replicate l.length 0) (by simp)
  rw [List.map_id] at h
  refine Ev.congr (fun k => ?_) h
  unfold laws_toByteS.f
  rw [if_pos (by omega), if_pos (by omega)]; rfl
theorem e_laws_toBox (a b : Int) (l : List Int) (c : Int) (hl : l.length ≤ 1048576) : Ev (fun k => laws_toBox.f k a b l c) (a, b, l, c) := by
  unfold laws_toBox.f
  exact Ev.bind (e_laws_toByteS l hl) (Ev.now _)
theorem l_impl_InRange (a0 a1 a2 : Int) : impl_InRange.f a0 a1 a2 = some (decide (a1 ≤ a0 ∧ a0 ≤ a2)) := by
  unfold impl_InRange.f
  by_cases h : a1 ≤ a0
  · rw [if_pos h]; simp [h]
  · rw [if_neg h]; simp [h]
theorem l_impl_IsValidKey (a : Int) : impl_IsValidKey.f a = some (vkey a) := by
  unfold impl_IsValidKey.f; rw [l_impl_InRange]; rfl
theorem l_impl_PublicKey (a : Int) : impl_PublicKey.f a = some (pubk a) := by
  unfold impl_PublicKey.f pubk; rw [l_impl_IsValidKey]; simp only [Option.bind_some]
  by_cases h : vkey a = true
  · rw [if_pos h, if_pos h]; have := of_decide_eq_true h; rw [wrap_in (by omega), tmod_of (by omega)]
  · rw [if_neg h, if_neg h]
theorem e_impl_joined_l0 (ls : List (List Int)) (hn : ls.length < 20000000000000) : ∀ (d i : Nat) (acc : List Int), i + d = ls.length → acc.length + (ls.drop i).flatten.length < 17592186044416 → Ev (fun k => impl_joined.l0 k acc ls (ls.length : Int) (i : Int)) (acc ++ (ls.drop i).flatten)
  | 0, i, acc, hd, _ => by
    refine Ev.step (f := fun _ => some acc) (fun k => ?_) (ev_now ?_)
    · rw [impl_joined.l0, if_neg (by omega)]
    · rw [drop_end (by omega)]; simp
  | d + 1, i, acc, hd, hs => by
    have hi : i < ls.length := by omega
    rw [drop_at hi, List.flatten_cons, List.length_append] at hs
    have hr : rd_L2 ls (i : Int) = ls[i] := by simp [rd_L2, List.getD, List.getElem?_eq_getElem hi]
    refine Ev.step (f := fun k => impl_joined.l0 k (acc ++ ls[i]) ls (ls.length : Int) ((i + 1 : Nat) : Int)) (fun k => ?_) ?_
    · rw [impl_joined.l0, hr, if_pos (by omega), if_pos (by omega), if_pos (by omega), if_pos (by omega), wrap_in (x := (i : Int) + 1) (by omega)]; rfl
    · rw [drop_at hi, List.flatten_cons, ← List.append_assoc]
      exact e_impl_joined_l0 ls hn d (i + 1) _ (by omega) (by rw [List.length_append]; omega)
theorem e_impl_joined (l : List Int) (ls : List (List Int)) (hn : ls.length < 20000000000000) (hs : l.length + ls.flatten.length < 17592186044416) : Ev (fun k => impl_joined.f k l ls) (l ++ ls.flatten) := by
  refine Ev.congr (f := fun k => impl_joined.l0 k l ls (ls.length : Int) ((0 : Nat) : Int)) (fun k => ?_) (e_impl_joined_l0 ls hn ls.length 0 l (by omega) hs)
  unfold impl_joined.f; simp only [Option.bind_some]
  rw [if_pos (by first | omega | (simp; omega))]; rfl
theorem l_impl_orOne (x : Int) : impl_orOne.f x = some (one x) := by
  unfold impl_orOne.f one; split <;> rfl
theorem k_impl_Mod (a m : Int) (k : Nat) : impl_Mod.f (k + 1) a m = some (md a m) := by
  unfold impl_Mod.f
  by_cases h1 : m < 1
  · rw [if_pos h1, impl_Mod.j0, if_pos rfl]; unfold md; rw [if_neg (by omega)]
  · rw [if_neg h1, impl_Mod.j0]
    by_cases h2 : m > 1000000000000
    · rw [if_pos (decide_eq_true h2)]; unfold md; rw [if_neg (by omega)]
    · rw [if_neg (by simpa using h2), if_neg (by omega), md_in _ (by omega) (by omega)]
      have hb := tmod_bd (a := a) (m := m) (by omega)
      have hn := tmod_neg_iff (a := a) (m := m) (by omega)
      by_cases h3 : Int.tmod a m < 0
      · rw [if_pos h3] at hn; rw [if_pos h3, wrap_in (by omega), hn]
      · rw [if_neg h3] at hn; rw [if_neg h3, hn]
theorem e_impl_Mod (a m : Int) : Ev (fun k => impl_Mod.f k a m) (md a m) := Ev.step (fun k => k_impl_Mod a m k) (Ev.now _)
theorem e_impl_Hash_l0 (l : List Int) (hl : l.length < 20000000000000) : ∀ (d i : Nat) (h : Int), i + d = l.length → 0 ≤ h → h < 2147483647 → Ev (fun k => impl_Hash.l0 k h l (l.length : Int) (i : Int)) ((l.drop i).foldl hstep h)
  | 0, i, h, hd, _, _ => by
    refine Ev.step (f := fun _ => some h) (fun k => ?_) (ev_now ?_)
    · rw [impl_Hash.l0, if_neg (by omega)]
    · rw [drop_end (by omega)]; rfl
  | d + 1, i, h, hd, h0, h1 => by
    have hi : i < l.length := by omega
    refine Ev.step (f := fun k => (impl_Mod.f k l[i] 2147483647).bind fun t => impl_Hash.l0 k (Int.tmod (wrap64 ((wrap64 ((wrap64 (h * 1000003)) + t)) + 13)) 2147483647) l (l.length : Int) ((i + 1 : Nat) : Int)) (fun k => ?_) ?_
    · rw [impl_Hash.l0, if_pos (by omega), if_pos (by omega), if_pos (by omega), rd_in hi, wrap_in (x := (i : Int) + 1) (by omega)]; rfl
    · refine Ev.bind (e_impl_Mod _ _) ?_
      rw [md_in _ (by omega) (by omega), step_wrap h0 h1, drop_at hi, List.foldl_cons]
      exact e_impl_Hash_l0 l hl d (i + 1) _ (by omega) (step_bd _ _).1 (step_bd _ _).2
theorem e_impl_Hash (l : List Int) (hl : l.length < 20000000000000) : Ev (fun k => impl_Hash.f k l) (hsh l) :=
  e_impl_Hash_l0 l hl l.length 0 11 (by omega) (by omega) (by omega)
theorem e_impl_KeyedHash (key : Int) (l : List Int) (h : l.length < 17592186044000) : Ev (fun k => impl_KeyedHash.f k key l) (kh key l) := by
  unfold impl_KeyedHash.f
  refine Ev.bind (e_impl_joined _ _ (by simp) (by first | omega | (simp; omega))) ?_
  refine Ev.bind (e_impl_Hash _ (by first | omega | (simp; omega))) ?_
  exact ev_now (by simp [kh])
theorem e_impl_DeriveKey (seed : Int) (l : List Int) (h : l.length < 17592186043000) : Ev (fun k => impl_DeriveKey.f k seed l) (dk seed l) := by
  unfold impl_DeriveKey.f
  refine Ev.bind (e_impl_joined _ _ (by simp) (by first | omega | (simp; omega))) ?_
  refine Ev.bind (e_impl_KeyedHash _ _ (by first | omega | (simp; omega))) ?_
  refine ev_of (fun _ => ?_)
  rw [l_impl_orOne]; simp [dk]
theorem e_impl_BoxKey (a b : Int) : Ev (fun k => impl_BoxKey.f k a b) (dk a [163, b]) := by
  unfold impl_BoxKey.f
  exact Ev.bind (e_impl_DeriveKey _ _ (by simp)) (Ev.now _)
theorem e_impl_BytesToInts (l : List Int) (hl : l.length < 17592186000000) (hw : ∀ x ∈ l, 0 ≤ x ∧ x ≤ 255) : Ev (fun k => impl_BytesToInts.f k l) ((l.length : Int) :: l) := by
  have h : ∀ (d i : Nat) (acc : List Int), i + d = l.length → acc.length = i + 1 → Ev (fun k => impl_BytesToInts.l0 k acc l (l.length : Int) (i : Int)) (acc ++ l.drop i) := by
    intro d
    induction d with
    | zero => intro i acc h _; rw [drop_end (by omega), List.append_nil]; exact ev1 fun k => by rw [impl_BytesToInts.l0, if_neg (by omega)]
    | succ d ih =>
      intro i acc h ha
      have hi : i < l.length := by omega
      have hx := hw l[i] (List.getElem_mem hi)
      have hr := ih (i + 1) (acc ++ [l[i]]) (by omega) (by simp; omega)
      rw [List.append_assoc, List.singleton_append, ← drop_at hi] at hr
      refine Ev.step (fun k => ?_) hr
      rw [impl_BytesToInts.l0, if_pos (by omega), if_pos (by omega), if_pos (by omega), if_pos (by omega), rd_in hi, wrap_in (x := l[i]) (by omega), wrap_in (by omega)]; rfl
  exact h l.length 0 [(l.length : Int)] (by omega) (by simp)
theorem e_impl_BoxMAC (key a b : Int) (l : List Int) (c : Int) (hl : l.length < 17592180000000) (hw : ∀ x ∈ l, 0 ≤ x ∧ x ≤ 255) : Ev (fun k => impl_BoxMAC.f k key a b l c) (bmac key a b l) := by
  unfold impl_BoxMAC.f bmac
  refine Ev.bind (e_impl_BytesToInts l (by omega) hw) (Ev.bind (e_impl_joined _ _ (by simp) (by simp; omega)) (Ev.bind (e_impl_KeyedHash _ _ (by simp; omega)) (ev_now (by simp))))
theorem e_impl_Decrypt (key : Int) (l : List Int) (hl : l.length ≤ 1048576) (hw : ∀ x ∈ l, 0 ≤ x ∧ x ≤ 255) : Ev (fun k => impl_Decrypt.f k key l) (decL key l) :=
  build_loop (F := fun k o i => impl_Decrypt.l0 k key o l (l.length : Int) i) (n := l.length) (g := fun (i : Nat) => (rd l i - kh key [(i : Int)]) % 256) (fin := id)
    (fun o ho => ev1 fun k => by rw [impl_Decrypt.l0, if_neg (by omega)]; rfl)
    (fun o i hi ho r hr => by
      have hx := rd_rng hw hi
      have hk := kh_bd key [(i : Int)]
      have e : md (wrap64 ((wrap64 (rd l i)) - kh key [(i : Int)])) 256 % 256 = (rd l i - kh key [(i : Int)]) % 256 := by
        rw [md_in _ (by omega) (by omega), wrap_in (x := rd l i) (by omega), wrap_in (by omega)]; omega
      refine Ev.step (f := fun k => (impl_KeyedHash.f k key [(i : Int)]).bind fun t => (impl_Mod.f k (wrap64 ((wrap64 (rd l i)) - t)) 256).bind fun u => impl_Decrypt.l0 k key (o ++ [u % 256]) l (l.length : Int) ((i + 1 : Nat) : Int)) (fun k => ?_) ?_
      · rw [impl_Decrypt.l0, if_pos (by omega), if_pos (by omega), if_pos (by omega)]
        simp only [if_pos (show o.length < 140737488355328 by omega)]; rw [wrap_in (x := (i : Int) + 1) (by omega)]; rfl
      · refine Ev.bind (e_impl_KeyedHash _ _ (by simp)) (Ev.bind (e_impl_Mod _ _) ?_)
        rw [e]; exact hr)
theorem e_impl_OpenBox (q a b : Int) (l : List Int) (c : Int) (hl : l.length ≤ 1048576) (hw : ∀ x ∈ l, 0 ≤ x ∧ x ≤ 255) : Ev (fun k => impl_OpenBox.f k q a b l c) (opn q a b l c) := by
  unfold impl_OpenBox.f opn
  simp only [l_impl_IsValidKey, l_impl_PublicKey, Option.bind_some]
  by_cases h : vkey q = true
  · simp only [if_pos h]
    by_cases h2 : a = pubk q
    · simp only [if_pos h2]
      by_cases h3 : vkey b = true
      · simp only [if_pos h3]
        by_cases h4 : (l.length : Int) > 200
        · rw [if_neg (fun z => by have := z.2.2.2; omega)]; exact ev1 fun k => by rw [impl_OpenBox.j0, if_pos (decide_eq_true h4)]
        · rw [if_pos ⟨h, h2, h3, by omega⟩]
          refine Ev.step (fun k => by rw [impl_OpenBox.j0, if_neg (by simpa using h4)]) ?_
          refine Ev.bind (e_impl_BoxKey _ _) (Ev.bind (e_impl_BoxMAC _ _ _ _ _ (by omega) hw) ?_)
          by_cases h5 : c = bmac (dk q [163, b]) a b l
          · simp only [if_pos h5]; exact Ev.bind (e_impl_Decrypt _ l hl hw) (Ev.now _)
          · simp only [if_neg h5]; exact Ev.now _
      · simp only [if_neg h3]; rw [if_neg (fun z => h3 z.2.2.1)]; exact ev1 fun k => by rw [impl_OpenBox.j0, if_pos rfl]
    · simp only [if_neg h2]; rw [if_neg (fun z => h2 z.2.1)]; exact ev1 fun k => by rw [impl_OpenBox.j0, if_pos rfl]
  · simp only [if_neg h]; rw [if_neg (fun z => h z.1)]; exact ev1 fun k => by rw [impl_OpenBox.j0, if_pos rfl]
theorem e_laws_eqByteS (l : List Int) (hl : l.length ≤ 1048576) : Ev (fun k => laws_eqByteS.f k l l) true := by
  have h := skip_loop (F := fun k i => laws_eqByteS.l0 k l l i) (n := l.length) (r := true) (ev1 fun k => by rw [laws_eqByteS.l0, if_neg (by omega)])
    (fun i hi r hr => Ev.step (fun k => by rw [laws_eqByteS.l0, if_pos (by omega), if_pos (by omega), if_pos (by omega), if_pos rfl, wrap_in (by omega)]; rfl) hr)
  refine Ev.congr (fun k => ?_) h
  unfold laws_eqByteS.f; rw [if_pos rfl]
theorem e_laws_eqBox (a b : Int) (l : List Int) (c : Int) (hl : l.length ≤ 1048576) : Ev (fun k => laws_eqBox.f k a b l c a b l c) true := by
  unfold laws_eqBox.f
  simp only [if_true, if_pos rfl]
  exact Ev.bind (e_laws_eqByteS l hl) (Ev.now _)
theorem e_laws_markByteS (l : List Int) (hl : l.length ≤ 4194304) : Ev (fun k => laws_markByteS.f k l 1) (1 + (l.length : Int), mksB l.length) :=
  fill_loop (F := fun k o i => laws_markByteS.l0 k o (1 + i) i) (n := l.length) (g := fun (i : Nat) => (1 + (i : Int)) % 256) (fin := fun o => (1 + (l.length : Int), o))
    (fun o ho => ev1 fun k => by rw [laws_markByteS.l0, if_neg (by omega)])
    (fun o i hi ho r hr => Ev.step (fun k => by rw [laws_markByteS.l0, if_pos (by omega), if_pos (by omega), wrap_in (x := 1 + (i : Int) + 1) (by omega), wrap_in (x := (i : Int) + 1) (by omega), show (1 + (i : Int) + 1) = 1 + ((i + 1 : Nat) : Int) by omega]; rfl) hr) l rfl
theorem e_laws_markBox (a b : Int) (l : List Int) (c : Int) (hl : l.length ≤ 4194304) : Ev (fun k => laws_markBox.f k a b l c 1) (1 + (l.length : Int), mksB l.length) := by
  unfold laws_markBox.f
  exact Ev.bind (e_laws_markByteS l hl) (Ev.now _)
theorem e_laws_heldByteS (n : Nat) (hn : n ≤ 4194304) : Ev (fun k => laws_heldByteS.f k (mksB n) 1) (1 + (n : Int)) :=
  skip_loop (F := fun k i => laws_heldByteS.l0 k (mksB n) (1 + i) i) (n := n) (r := 1 + (n : Int)) (ev1 fun k => by rw [laws_heldByteS.l0, mksB_length, if_neg (by omega)])
    (fun i hi r hr => Ev.step (fun k => by rw [laws_heldByteS.l0, mksB_length, if_pos (by omega), if_pos (by omega), rd_mksB hi, if_pos rfl, wrap_in (x := 1 + (i : Int) + 1) (by omega), wrap_in (x := (i : Int) + 1) (by omega), show (1 + (i : Int) + 1) = 1 + ((i + 1 : Nat) : Int) by omega]; rfl) hr)
theorem p_FnExactOpenBox (q a b : Int) (l : List Int) (c : Int) (_ : (Lit.int .i64 q).wf = true) (_ : (Lit.int .i64 a).wf = true) (_ : (Lit.int .i64 b).wf = true) (h : l.length ≤ 9223372036854775807 ∧ ∀ x ∈ l, (Lit.int .u8 x).wf = true) (_ : (Lit.int .i64 c).wf = true) : ∃ k, laws_FnExactOpenBox.f k q a b l c = some true := by
  have hw : ∀ x ∈ l, 0 ≤ x ∧ x ≤ 255 := fun x hx => bounds_u8 (h.2 x hx)
  apply Ev.rounds
  unfold laws_FnExactOpenBox.f
  rw [l_laws_szBox a b l c _ (by omega) h.1]; simp only [Option.bind_some]
  by_cases g : szd 1048576 l.length < 0
  · simp only [if_pos g]; exact Ev.now _
  · simp only [if_neg g]; have hl' := (szd_len g).1
    have hl : l.length ≤ 1048576 := by omega
    have hd : (opn q a b l c).1.length ≤ 1048576 := by have := opn_len q a b l c; omega
    refine Ev.bind (e_laws_toBox a b l c hl) (Ev.bind (e_spec_OpenBox q a b l c hl hw) (Ev.bind (e_laws_toBox a b l c hl) (Ev.bind (e_impl_OpenBox q a b l c hl hw) (Ev.bind (e_laws_eqByteS _ hd) ?_))))
    simp only [if_true, bne_self_eq_false]
    refine Ev.step (fun k => by rw [laws_FnExactOpenBox.j0, if_neg (by simp)]) ?_
    refine Ev.bind (e_laws_toBox a b l c hl) (Ev.bind (e_laws_eqBox _ _ _ _ hl) ?_)
    simp only [if_true]
    refine Ev.bind (e_laws_markBox _ _ _ _ (by first | omega | (simp; omega))) ?_
    simp only [if_neg (show ¬ 1 + (l.length : Int) < 0 by omega)]
    refine Ev.bind (e_laws_eqByteS _ hd) ?_
    simp only [if_true, bne_self_eq_false]
    refine Ev.step (fun k => by rw [laws_FnExactOpenBox.j1, if_neg (by simp)]) ?_
    refine Ev.bind (e_laws_markByteS _ (by omega)) (Ev.bind (e_laws_heldByteS _ (by omega)) ?_)
    simp only [if_neg (show ¬ 1 + ((opn q a b l c).1.length : Int) < 0 by omega), if_true]
    refine Ev.bind (e_laws_toBox a b l c hl) (Ev.bind (e_impl_OpenBox q a b l c hl hw) (Ev.bind (e_laws_eqByteS _ hd) ?_))
    simp only [if_true, bne_self_eq_false]
    refine Ev.step (fun k => by rw [laws_FnExactOpenBox.j2, if_neg (by simp)]) ?_
    refine Ev.bind (e_laws_heldByteS _ (by omega)) ?_
    simp only [if_neg (show ¬ 1 + ((opn q a b l c).1.length : Int) < 0 by omega), if_true]
    exact Ev.now _
end Go.Proofs.Ytednmbifgnpkbaa.SFnExactOpenBox
