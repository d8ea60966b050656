/- The law FnExactBoxMAC, in plain numbers and lists: what its Go functions compute (as the kit's print tells it) answers true. Conditions: what the reading of the arguments gives (each number of its kind, each length a length). -/
import Derived.Test.YtimjjicbdnehlaaPFnExactBoxMACx3
import Derived.Test.YtimjjicbdnehlaaMt
namespace Go.Proofs.Ytimjjicbdnehlaa.SFnExactBoxMAC
open Go.RowKit Go.Proofs.Ytimjjicbdnehlaa.PFnExactBoxMAC Go.Proofs.YtimjjicbdnehlaaW.PrintWords Go.Proofs.YtimjjicbdnehlaaW.PrintLast Go.Proofs.Ytimjjicbdnehlaa.Mt
set_option linter.unusedVariables false
set_option linter.unusedSimpArgs false
theorem l_laws_szByteS (l : List Int) (left : Int) (hl : 0 ≤ left ∧ left ≤ 1048576) (hn : l.length ≤ 9223372036854775807) : laws_szByteS.f l left = some (szd left l.length) := szd_eq hl hn
theorem l_laws_szBox (a b : Int) (l : List Int) (c : Int) (left : Int) (hl : 0 ≤ left ∧ left ≤ 1048576) (hn : l.length ≤ 9223372036854775807) : laws_szBox.f a b l c left = some (szd left l.length) := by
  unfold laws_szBox.f
  rw [l_laws_szByteS l left hl hn]; simp only [Option.bind_some]
  by_cases h : szd left l.length < 0
  · rw [if_pos h]; have := szd_bd (n := l.length) hl; congr; omega
  · rw [if_neg h]
theorem l_spec_l1In (a0 a1 a2 : Int) : spec_l1In.f a0 a1 a2 = some (decide (a1 ≤ a0 ∧ a0 ≤ a2)) := by
  unfold spec_l1In.f
  by_cases h : a0 ≥ a1
  · rw [if_pos h]; simp [show a1 ≤ a0 from h]
  · rw [if_neg h]; simp [show ¬ a1 ≤ a0 from h]
theorem l_spec_Mod (a m : Int) : spec_Mod.f a m = some (md a m) := by
  unfold spec_Mod.f
  rw [l_spec_l1In]; simp only [Option.bind_some]
  by_cases h : 1 ≤ m ∧ m ≤ 1000000000000
  · rw [if_pos (decide_eq_true h), if_neg (by omega), md_in _ h.1 h.2]
    have := tmod_bd (a := a) (m := m) (by omega)
    rw [wrap_in (by omega), tmod_of (by omega), tmod_add]
  · rw [if_neg (by simpa using h)]; unfold md; rw [if_neg h]
theorem e_spec_Hash_l0 (l : List Int) (hl : l.length < 20000000000000) : ∀ (d i : Nat) (h : Int), i + d = l.length → 0 ≤ h → h < 2147483647 → Ev (fun k => spec_Hash.l0 k l h (i : Int)) ((l.drop i).foldl hstep h)
  | 0, i, h, hd, _, _ => by
    refine Ev.step (f := fun _ => some h) (fun k => ?_) (ev_now ?_)
    · rw [spec_Hash.l0, if_neg (by omega)]
    · rw [drop_end (by omega)]; rfl
  | d + 1, i, h, hd, h0, h1 => by
    have hi : i < l.length := by omega
    refine Ev.step (f := fun k => spec_Hash.l0 k l (hstep h l[i]) ((i + 1 : Nat) : Int)) (fun k => ?_) ?_
    · rw [spec_Hash.l0, if_pos (by omega), if_pos (by omega), rd_in hi, l_spec_Mod]; simp only [Option.bind_some]
      rw [md_in _ (by omega) (by omega), step_wrap h0 h1, wrap_in (by omega)]; rfl
    · rw [drop_at hi, List.foldl_cons]
      exact e_spec_Hash_l0 l hl d (i + 1) _ (by omega) (step_bd _ _).1 (step_bd _ _).2
theorem e_spec_Hash (l : List Int) (hl : l.length < 20000000000000) : Ev (fun k => spec_Hash.f k l) (hsh l) :=
  e_spec_Hash_l0 l hl l.length 0 11 (by omega) (by omega) (by omega)
theorem e_spec_KeyedHash (key : Int) (l : List Int) (h : l.length < 17592186044000) : Ev (fun k => spec_KeyedHash.f k key l) (kh key l) := by
  refine Ev.congr (f := fun k => spec_Hash.f k (key :: l ++ [key])) (fun k => ?_) (e_spec_Hash _ (by first | omega | (simp; omega)))
  unfold spec_KeyedHash.f; simp only [Option.bind_some]
  rw [if_pos (by first | omega | (simp; omega)), if_pos (by first | omega | (simp; omega))]
  simp
theorem e_spec_BytesToInts (l : List Int) (hl : l.length < 17592186000000) (hw : ∀ x ∈ l, 0 ≤ x ∧ x ≤ 255) : Ev (fun k => spec_BytesToInts.f k l) ((l.length : Int) :: l) := by
  have h : ∀ (d i : Nat) (acc : List Int), i + d = l.length → acc.length = i + 1 → Ev (fun k => spec_BytesToInts.l0 k l acc (i : Int)) (acc ++ l.drop i) := by
    intro d
    induction d with
    | zero => intro i acc h _; rw [drop_end (by omega), List.append_nil]; exact ev1 fun k => by rw [spec_BytesToInts.l0, if_neg (by omega)]
    | succ d ih =>
      intro i acc h ha
      have hi : i < l.length := by omega
      have hx := hw l[i] (List.getElem_mem hi)
      have hr := ih (i + 1) (acc ++ [l[i]]) (by omega) (by simp; omega)
      rw [List.append_assoc, List.singleton_append, ← drop_at hi] at hr
      refine Ev.step (fun k => ?_) hr
      rw [spec_BytesToInts.l0, if_pos (by omega), if_pos (by omega), if_pos (by omega), rd_in hi, wrap_in (x := l[i]) (by omega), wrap_in (by omega)]; rfl
  exact h l.length 0 [(l.length : Int)] (by omega) (by simp)
theorem e_spec_BoxMAC (key a b : Int) (l : List Int) (c : Int) (hl : l.length < 17592180000000) (hw : ∀ x ∈ l, 0 ≤ x ∧ x ≤ 255) : Ev (fun k => spec_BoxMAC.f k key a b l c) (bmac key a b l) := by
  unfold spec_BoxMAC.f bmac
  simp only [Option.bind_some]
  refine Ev.bind (e_spec_BytesToInts l (by omega) hw) ?_
  simp only [if_pos (show ([167, a, b] : List Int).length + ((l.length : Int) :: l).length < 17592186044416 by simp; omega)]
  exact Ev.bind (e_spec_KeyedHash _ _ (by simp; omega)) (ev_now (by simp))
theorem e_laws_toByteS (l : List Int) (hl : l.length ≤ 1048576) : Ev (fun k => laws_toByteS.f k l) l := by
  have h := copy_loop (F := fun k o i => laws_toByteS.l0 k l o i) (l := l) (conv := id) (fun o ho => ev1 fun k => by rw [laws_toByteS.l0, if_neg (by omega)])
    (fun o i hi ho r hr => Ev.step (fun k => by rw [laws_toByteS.l0, if_pos (by omega), if_pos (by omega), if_pos (by omega), rd_in hi, wrap_in (by omega)]; rfl) hr) (List.replicate l.length 0) (by simp)
  rw [List.map_id] at h
  refine Ev.congr (fun k => ?_) h
  unfold laws_toByteS.f
  rw [if_pos (by omega), if_pos (by omega)]; rfl
theorem e_laws_toBox (a b : Int) (l : List Int) (c : Int) (hl : l.length ≤ 1048576) : Ev (fun k => laws_toBox.f k a b l c) (a, b, l, c) := by
  unfold laws_toBox.f
  exact Ev.bind (e_laws_toByteS l hl) (Ev.now _)
theorem e_impl_joined_l0 (ls : List (List Int)) (hn : ls.length < 20000000000000) : ∀ (d i : Nat) (acc : List Int), i + d = ls.length → acc.length + (ls.drop i).flatten.length < 17592186044416 → Ev (fun k => impl_joined.l0 k acc ls (ls.length : Int) (i : Int)) (acc ++ (ls.drop i).flatten)
  | 0, i, acc, hd, _ => by
    refine Ev.step (f := fun _ => some acc) (fun k => ?_) (ev_now ?_)
    · rw [impl_joined.l0, if_neg (by omega)]
    · rw [drop_end (by omega)]; simp
  | d + 1, i, acc, hd, hs => by
    have hi : i < ls.length := by omega
    rw [drop_at hi, List.flatten_cons, List.length_append] at hs
    have hr : rd_L2 ls (i : Int) = ls[i] := by simp [rd_L2, List.getD, List.getElem?_eq_getElem hi]
    refine Ev.step (f := fun k => impl_joined.l0 k (acc ++ ls[i]) ls (ls.length : Int) ((i + 1 : Nat) : Int)) (fun k => ?_) ?_
    · rw [impl_joined.l0, hr, if_pos (by omega), if_pos (by omega), if_pos (by omega), if_pos (by omega), wrap_in (x := (i : Int) + 1) (by omega)]; rfl
    · rw [drop_at hi, List.flatten_cons, ← List.append_assoc]
      exact e_impl_joined_l0 ls hn d (i + 1) _ (by omega) (by rw [List.length_append]; omega)
theorem e_impl_joined (l : List Int) (ls : List (List Int)) (hn : ls.length < 20000000000000) (hs : l.length + ls.flatten.length < 17592186044416) : Ev (fun k => impl_joined.f k l ls) (l ++ ls.flatten) := by
  refine Ev.congr (f := fun k => impl_joined.l0 k l ls (ls.length : Int) ((0 : Nat) : Int)) (fun k => ?_) (e_impl_joined_l0 ls hn ls.length 0 l (by omega) hs)
  unfold impl_joined.f; simp only [Option.bind_some]
  rw [if_pos (by first | omega | (simp; omega))]; rfl
theorem k_impl_Mod (a m : Int) (k : Nat) : impl_Mod.f (k + 1) a m = some (md a m) := by
  unfold impl_Mod.f
  by_cases h1 : m < 1
  · rw [if_pos h1, impl_Mod.j0, if_pos rfl]; unfold md; rw [if_neg (by omega)]
  · rw [if_neg h1, impl_Mod.j0]
    by_cases h2 : m > 1000000000000
    · rw [if_pos (decide_eq_true h2)]; unfold md; rw [if_neg (by omega)]
    · rw [if_neg (by simpa using h2), if_neg (by omega), md_in _ (by omega) (by omega)]
      have hb := tmod_bd (a := a) (m := m) (by omega)
      have hn := tmod_neg_iff (a := a) (m := m) (by omega)
      by_cases h3 : Int.tmod a m < 0
      · rw [if_pos h3] at hn; rw [if_pos h3, wrap_in (by omega), hn]
      · rw [if_neg h3] at hn; rw [if_neg h3, hn]
theorem e_impl_Mod (a m : Int) : Ev (fun k => impl_Mod.f k a m) (md a m) := Ev.step (fun k => k_impl_Mod a m k) (Ev.now _)
theorem e_impl_Hash_l0 (l : List Int) (hl : l.length < 20000000000000) : ∀ (d i : Nat) (h : Int), i + d = l.length → 0 ≤ h → h < 2147483647 → Ev (fun k => impl_Hash.l0 k h l (l.length : Int) (i : Int)) ((l.drop i).foldl hstep h)
  | 0, i, h, hd, _, _ => by
    refine Ev.step (f := fun _ => some h) (fun k => ?_) (ev_now ?_)
    · rw [impl_Hash.l0, if_neg (by omega)]
    · rw [drop_end (by omega)]; rfl
  | d + 1, i, h, hd, h0, h1 => by
    have hi : i < l.length := by omega
    refine Ev.step (f := fun k => (impl_Mod.f k l[i] 2147483647).bind fun t => impl_Hash.l0 k (Int.tmod (wrap64 ((wrap64 ((wrap64 (h * 1000003)) + t)) + 13)) 2147483647) l (l.length : Int) ((i + 1 : Nat) : Int)) (fun k => ?_) ?_
    · rw [impl_Hash.l0, if_pos (by omega), if_pos (by omega), if_pos (by omega), rd_in hi, wrap_in (x := (i : Int) + 1) (by omega)]; rfl
    · refine Ev.bind (e_impl_Mod _ _) ?_
      rw [md_in _ (by omega) (by omega), step_wrap h0 h1, drop_at hi, List.foldl_cons]
      exact e_impl_Hash_l0 l hl d (i + 1) _ (by omega) (step_bd _ _).1 (step_bd _ _).2
theorem e_impl_Hash (l : List Int) (hl : l.length < 20000000000000) : Ev (fun k => impl_Hash.f k l) (hsh l) :=
  e_impl_Hash_l0 l hl l.length 0 11 (by omega) (by omega) (by omega)
theorem e_impl_KeyedHash (key : Int) (l : List Int) (h : l.length < 17592186044000) : Ev (fun k => impl_KeyedHash.f k key l) (kh key l) := by
  unfold impl_KeyedHash.f
  refine Ev.bind (e_impl_joined _ _ (by simp) (by first | omega | (simp; omega))) ?_
  refine Ev.bind (e_impl_Hash _ (by first | omega | (simp; omega))) ?_
  exact ev_now (by simp [kh])
theorem e_impl_BytesToInts (l : List Int) (hl : l.length < 17592186000000) (hw : ∀ x ∈ l, 0 ≤ x ∧ x ≤ 255) : Ev (fun k => impl_BytesToInts.f k l) ((l.length : Int) :: l) := by
  have h : ∀ (d i : Nat) (acc : List Int), i + d = l.length → acc.length = i + 1 → Ev (fun k => impl_BytesToInts.l0 k acc l (l.length : Int) (i : Int)) (acc ++ l.drop i) := by
    intro d
    induction d with
    | zero => intro i acc h _; rw [drop_end (by omega), List.append_nil]; exact ev1 fun k => by rw [impl_BytesToInts.l0, if_neg (by omega)]
    | succ d ih =>
      intro i acc h ha
      have hi : i < l.length := by omega
      have hx := hw l[i] (List.getElem_mem hi)
      have hr := ih (i + 1) (acc ++ [l[i]]) (by omega) (by simp; omega)
      rw [List.append_assoc, List.singleton_append, ← drop_at hi] at hr
      refine Ev.step (fun k => ?_) hr
      rw [impl_BytesToInts.l0, if_pos (by omega), if_pos (by omega), if_pos (by omega), if_pos (by omega), rd_in hi, wrap_in (x := l[i]) (by omega), wrap_in (by omega)]; rfl
  exact h l.length 0 [(l.length : Int)] (by omega) (by simp)
theorem e_impl_BoxMAC (key a b : Int) (l : List Int) (c : Int) (hl : l.length < 17592180000000) (hw : ∀ x ∈ l, 0 ≤ x ∧ x ≤ 255) : Ev (fun k => impl_BoxMAC.f k key a b l c) (bmac key a b l) := by
  unfold impl_BoxMAC.f bmac
  refine Ev.bind (e_impl_BytesToInts l (by omega) hw) (Ev.bind (e_impl_joined _ _ (by simp) (by simp; omega)) (Ev.bind (e_impl_KeyedHash _ _ (by simp; omega)) (ev_now (by simp))))
theorem e_laws_eqByteS (l : List Int) (hl : l.length ≤ 1048576) : Ev (fun k => laws_eqByteS.f k l l) true := by
  have h := skip_loop (F := fun k i => laws_eqByteS.l0 k l l i) (n := l.length) (r := true) (ev1 fun k => by rw [laws_eqByteS.l0, if_neg (by omega)])
    (fun i hi r hr => Ev.step (fun k => by rw [laws_eqByteS.l0, if_pos (by omega), if_pos (by omega), if_pos (by omega), if_pos rfl, wrap_in (by omega)]; rfl) hr)
  refine Ev.congr (fun k => ?_) h
  unfold laws_eqByteS.f; rw [if_pos rfl]
theorem e_laws_eqBox (a b : Int) (l : List Int) (c : Int) (hl : l.length ≤ 1048576) : Ev (fun k => laws_eqBox.f k a b l c a b l c) true := by
  unfold laws_eqBox.f
  simp only [if_true, if_pos rfl]
  exact Ev.bind (e_laws_eqByteS l hl) (Ev.now _)
theorem p_FnExactBoxMAC (key a b : Int) (l : List Int) (c : Int) (_ : (Lit.int .i64 key).wf = true) (_ : (Lit.int .i64 a).wf = true) (_ : (Lit.int .i64 b).wf = true) (h : l.length ≤ 9223372036854775807 ∧ ∀ x ∈ l, (Lit.int .u8 x).wf = true) (_ : (Lit.int .i64 c).wf = true) : ∃ k, laws_FnExactBoxMAC.f k key a b l c = some true := by
  apply Ev.rounds
  unfold laws_FnExactBoxMAC.f
  rw [l_laws_szBox a b l c _ (by omega) h.1]; simp only [Option.bind_some]
  by_cases g : szd 1048576 l.length < 0
  · simp only [if_pos g]; exact Ev.now _
  · simp only [if_neg g]; have hl := (szd_len g).1
    have hw : ∀ x ∈ l, 0 ≤ x ∧ x ≤ 255 := fun x hx => bounds_u8 (h.2 x hx)
    refine Ev.bind (e_laws_toBox a b l c (by omega)) (Ev.bind (e_spec_BoxMAC _ _ _ _ _ (by first | omega | (simp; omega)) hw) (Ev.bind (e_laws_toBox a b l c (by omega)) (Ev.bind (e_impl_BoxMAC _ _ _ _ _ (by first | omega | (simp; omega)) hw) ?_)))
    simp only [if_true]
    exact Ev.bind (e_laws_toBox a b l c (by omega)) (Ev.bind (e_laws_eqBox _ _ _ _ (by first | omega | (simp; omega))) (Ev.now _))
end Go.Proofs.Ytimjjicbdnehlaa.SFnExactBoxMAC
