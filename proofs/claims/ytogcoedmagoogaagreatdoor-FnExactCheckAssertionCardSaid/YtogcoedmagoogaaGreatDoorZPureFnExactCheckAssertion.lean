/- Helping lemmas of the law FnExactCheckAssertion, in so far as it needs them; conditions: each lemma's own. -/
import Derived.Test.YtogcoedmagoogaaGreatDoorZPFnExactCheckAssertionx13
import Derived.Test.YtogcoedmagoogaaGreatDoorZMt
import Derived.Lib.ItoaNum
namespace Go.Proofs.YtogcoedmagoogaaGreatDoor.SFnExactCheckAssertion
open Go.RowKit Go.Proofs.YtogcoedmagoogaaGreatDoor.PFnExactCheckAssertion Go.Proofs.YtogcoedmagoogaaGreatDoorW.PrintWords Go.Proofs.YtogcoedmagoogaaGreatDoorW.PrintLast Go.Proofs.YtogcoedmagoogaaGreatDoor.Mt
set_option linter.unusedVariables false
set_option linter.unusedSimpArgs false
theorem l_impl_orOne (x : Int) : impl_orOne.f x = some (one x) := by
  unfold impl_orOne.f one; split <;> rfl
theorem e_impl_joined_l0 (ls : List (List Int)) (hn : ls.length < 20000000000000) : ∀ (d i : Nat) (acc : List Int), i + d = ls.length → acc.length + (ls.drop i).flatten.length < 17592186044416 → Ev (fun k => impl_joined.l0 k acc ls (ls.length : Int) (i : Int)) (acc ++ (ls.drop i).flatten)
  | 0, i, acc, hd, _ => by
    refine Ev.step (f := fun _ => some acc) (fun k => ?_) (ev_now ?_)
    · rw [impl_joined.l0, if_neg (by omega)]
    · rw [drop_end (by omega)]; simp
  | d + 1, i, acc, hd, hs => by
    have hi : i < ls.length := by omega
    rw [drop_at hi, List.flatten_cons, List.length_append] at hs
    have hr : rd_L1 ls (i : Int) = ls[i] := by simp [rd_L1, List.getD, List.getElem?_eq_getElem hi]
    refine Ev.step (f := fun k => impl_joined.l0 k (acc ++ ls[i]) ls (ls.length : Int) ((i + 1 : Nat) : Int)) (fun k => ?_) ?_
    · rw [impl_joined.l0, hr, if_pos (by omega), if_pos (by omega), if_pos (by omega), if_pos (by omega), wrap_in (x := (i : Int) + 1) (by omega)]; rfl
    · rw [drop_at hi, List.flatten_cons, ← List.append_assoc]
      exact e_impl_joined_l0 ls hn d (i + 1) _ (by omega) (by rw [List.length_append]; omega)
theorem e_impl_joined (l : List Int) (ls : List (List Int)) (hn : ls.length < 20000000000000) (hs : l.length + ls.flatten.length < 17592186044416) : Ev (fun k => impl_joined.f k l ls) (l ++ ls.flatten) := by
  refine Ev.congr (f := fun k => impl_joined.l0 k l ls (ls.length : Int) ((0 : Nat) : Int)) (fun k => ?_) (e_impl_joined_l0 ls hn ls.length 0 l (by omega) hs)
  unfold impl_joined.f; simp only [Option.bind_some]
  rw [if_pos (by first | omega | (simp; omega))]; rfl
theorem k_impl_Mod (a m : Int) (k : Nat) : impl_Mod.f (k + 1) a m = some (md a m) := by
  unfold impl_Mod.f
  by_cases h1 : m < 1
  · rw [if_pos h1, impl_Mod.j0, if_pos rfl]; unfold md; rw [if_neg (by omega)]
  · rw [if_neg h1, impl_Mod.j0]
    by_cases h2 : m > 1000000000000
    · rw [if_pos (decide_eq_true h2)]; unfold md; rw [if_neg (by omega)]
    · rw [if_neg (by simpa using h2), if_neg (by omega), md_in _ (by omega) (by omega)]
      have hb := tmod_bd (a := a) (m := m) (by omega)
      have hn := tmod_neg_iff (a := a) (m := m) (by omega)
      by_cases h3 : Int.tmod a m < 0
      · rw [if_pos h3] at hn; rw [if_pos h3, wrap_in (by omega), hn]
      · rw [if_neg h3] at hn; rw [if_neg h3, hn]
theorem e_impl_Mod (a m : Int) : Ev (fun k => impl_Mod.f k a m) (md a m) := Ev.step (fun k => k_impl_Mod a m k) (Ev.now _)
theorem e_impl_Hash_l0 (l : List Int) (hl : l.length < 20000000000000) : ∀ (d i : Nat) (h : Int), i + d = l.length → 0 ≤ h → h < 2147483647 → Ev (fun k => impl_Hash.l0 k h l (l.length : Int) (i : Int)) ((l.drop i).foldl hstep h)
  | 0, i, h, hd, _, _ => by
    refine Ev.step (f := fun _ => some h) (fun k => ?_) (ev_now ?_)
    · rw [impl_Hash.l0, if_neg (by omega)]
    · rw [drop_end (by omega)]; rfl
  | d + 1, i, h, hd, h0, h1 => by
    have hi : i < l.length := by omega
    refine Ev.step (f := fun k => (impl_Mod.f k l[i] 2147483647).bind fun t => impl_Hash.l0 k (Int.tmod (wrap64 ((wrap64 ((wrap64 (h * 1000003)) + t)) + 13)) 2147483647) l (l.length : Int) ((i + 1 : Nat) : Int)) (fun k => ?_) ?_
    · rw [impl_Hash.l0, if_pos (by omega), if_pos (by omega), if_pos (by omega), rd_in hi, wrap_in (x := (i : Int) + 1) (by omega)]; rfl
    · refine Ev.bind (e_impl_Mod _ _) ?_
      rw [md_in _ (by omega) (by omega), step_wrap h0 h1, drop_at hi, List.foldl_cons]
      exact e_impl_Hash_l0 l hl d (i + 1) _ (by omega) (step_bd _ _).1 (step_bd _ _).2
theorem e_impl_Hash (l : List Int) (hl : l.length < 20000000000000) : Ev (fun k => impl_Hash.f k l) (hsh l) :=
  e_impl_Hash_l0 l hl l.length 0 11 (by omega) (by omega) (by omega)
theorem e_impl_KeyedHash (key : Int) (l : List Int) (h : l.length < 17592186044000) : Ev (fun k => impl_KeyedHash.f k key l) (kh key l) := by
  unfold impl_KeyedHash.f
  refine Ev.bind (e_impl_joined _ _ (by simp) (by first | omega | (simp; omega))) ?_
  refine Ev.bind (e_impl_Hash _ (by first | omega | (simp; omega))) ?_
  exact ev_now (by simp [kh])
theorem e_impl_BytesToInts (l : List Int) (hl : l.length < 17592186000000) (hw : ∀ x ∈ l, 0 ≤ x ∧ x ≤ 255) : Ev (fun k => impl_BytesToInts.f k l) ((l.length : Int) :: l) := by
  have h : ∀ (d i : Nat) (acc : List Int), i + d = l.length → acc.length = i + 1 → Ev (fun k => impl_BytesToInts.l0 k acc l (l.length : Int) (i : Int)) (acc ++ l.drop i) := by
    intro d
    induction d with
    | zero => intro i acc h _; rw [drop_end (by omega), List.append_nil]; exact ev1 fun k => by rw [impl_BytesToInts.l0, if_neg (by omega)]
    | succ d ih =>
      intro i acc h ha
      have hi : i < l.length := by omega
      have hx := hw l[i] (List.getElem_mem hi)
      have hr := ih (i + 1) (acc ++ [l[i]]) (by omega) (by simp; omega)
      rw [List.append_assoc, List.singleton_append, ← drop_at hi] at hr
      refine Ev.step (fun k => ?_) hr
      rw [impl_BytesToInts.l0, if_pos (by omega), if_pos (by omega), if_pos (by omega), if_pos (by omega), rd_in hi, wrap_in (x := l[i]) (by omega), wrap_in (by omega)]; rfl
  exact h l.length 0 [(l.length : Int)] (by omega) (by simp)
theorem e_impl_DeriveFromString (key : Int) (s : ByteArray) (hs : s.size < 17592180000000) : Ev (fun k => impl_DeriveFromString.f k key s) (dfs key s) := by
  unfold impl_DeriveFromString.f
  simp only [if_pos (show s.size < 17592186044416 by omega)]
  refine Ev.bind (e_impl_BytesToInts _ (by rw [bytesOf_length]; omega) bytesOf_rng) (Ev.bind (e_impl_KeyedHash _ _ (by rw [List.length_cons, bytesOf_length]; omega)) (ev_of fun _ => ?_))
  rw [l_impl_orOne]; rfl
theorem e_impl_SiteHash (s : ByteArray) (hs : s.size < 17592180000000) : Ev (fun k => impl_SiteHash.f k s) (dfs 173 s) := by
  unfold impl_SiteHash.f
  exact Ev.bind (e_impl_DeriveFromString _ _ hs) (Ev.now _)
theorem l_impl_bit (p : Bool) : impl_bit.f p = some (if p = true then 1 else 0) := by
  unfold impl_bit.f; split <;> rfl
theorem e_impl_AssertionMessage (s o : ByteArray) (a b : Int) (p : Bool) (c d : Int) (hs : s.size < 17592180000000) (ho : o.size < 17592180000000) : Ev (fun k => impl_AssertionMessage.f k s o a b p c d) (amsg s o a b p) := by
  unfold impl_AssertionMessage.f amsg
  refine Ev.bind (e_impl_SiteHash s hs) (Ev.bind (e_impl_DeriveFromString _ o ho) (ev_of fun _ => ?_))
  rw [l_impl_bit]; rfl
def okc (c : Int) : Bool := (decide (97 ≤ c) && decide (c ≤ 122)) || (decide (48 ≤ c) && decide (c ≤ 57)) || decide (c = 45)
def okl (s : ByteArray) (d i : Nat) : Bool := srch (fun j => !okc (bt s j)) (fun _ => false) true d i
def ends (s : ByteArray) : Bool := decide (1 ≤ (s.size : Int) ∧ (s.size : Int) ≤ 20) && (!decide (bt s 0 = 45) && (bt s ((s.size : Int) - 1) != 45))
def vlb (s : ByteArray) : Bool := okl s s.size 0 && ends s
def vhost (s : ByteArray) : Bool := (Man.labB s).all vlb && decide ((s.size : Int) ≤ 60)
theorem okl_cases (s : ByteArray) (d i : Nat) : okl s (d + 1) i = if okc (bt s i) = true then okl s d (i + 1) else false := by
  unfold okl
  conv => lhs; unfold srch
  cases okc (bt s i) <;> simp
theorem okc_tree {α : Type} (c : Int) (A B : α) : (if c ≥ 97 then (if c ≤ 122 then A else (if c ≥ 48 then (if c ≤ 57 then A else (if (c = 45) then A else B)) else (if (c = 45) then A else B))) else (if c ≥ 48 then (if c ≤ 57 then A else (if (c = 45) then A else B)) else (if (c = 45) then A else B))) = if okc c = true then A else B := by
  unfold okc
  by_cases h1 : 97 ≤ c <;> by_cases h2 : c ≤ 122 <;> by_cases h3 : 48 ≤ c <;> by_cases h4 : c ≤ 57 <;> by_cases h5 : c = 45 <;> simp [h1, h2, h3, h4, h5]
theorem bt_at (s : ByteArray) (i : Nat) (h : i < s.size) : ∃ c : UInt8, s.data.toList.drop i = c :: s.data.toList.drop (i + 1) ∧ bt s (i : Int) = (c.toNat : Int) := by
  have hl : i < s.data.toList.length := by rw [← Lib.size_eq]; exact h
  refine ⟨s.data.toList[i], List.drop_eq_getElem_cons hl, ?_⟩
  unfold bt
  have e : ((i : Nat) : Int).toNat = i := by omega
  rw [dif_pos (by rw [e]; exact h)]
  rfl
theorem l_strings_Split (s : ByteArray) (hs : s.size < 4294967281) : strings_Split.f s ⟨#[46]⟩ = some (Man.labB s) := by
  unfold strings_Split.f
  rw [if_pos ⟨rfl, hs⟩]
theorem l_spec_l1In (a0 a1 a2 : Int) : spec_l1In.f a0 a1 a2 = some (decide (a1 ≤ a0 ∧ a0 ≤ a2)) := by
  unfold spec_l1In.f
  by_cases h : a0 ≥ a1
  · rw [if_pos h]; simp [show a1 ≤ a0 from h]
  · rw [if_neg h]; simp [show ¬ a1 ≤ a0 from h]
theorem e_spec_l9Label (s : ByteArray) (hs : s.size < 4000000000000000000) : Ev (fun k => spec_l9Label.f k s) (vlb s) := by
  unfold spec_l9Label.f
  have hend : Ev (fun k => spec_l9Label.l0 k s ((s.size : Nat) : Int)) (ends s) := by
    refine ev1 (fun k => ?_)
    rw [spec_l9Label.l0, if_neg (by omega), l_spec_l1In]
    unfold ends
    simp only [Option.bind_some]
    by_cases h : 1 ≤ (s.size : Int) ∧ (s.size : Int) ≤ 20
    · rw [if_pos (decide_eq_true h), if_pos (by omega), decide_eq_true h, wrap_in (by omega), if_pos (show 0 ≤ (s.size : Int) - 1 by omega), if_pos (show (s.size : Int) - 1 < s.size by omega)]
      by_cases h0 : bt s 0 = 45
      · rw [if_pos h0]; simp [h0]
      · rw [if_neg h0]; simp [h0]
    · rw [if_neg (by simpa using h), decide_eq_false h]; rfl
  have h : ∀ d i : Nat, i + d = s.size → Ev (fun k => spec_l9Label.l0 k s (i : Int)) (okl s d i && ends s) := by
    intro d
    induction d with
    | zero =>
      intro i h
      have : i = s.size := by omega
      subst this
      have e : (okl s 0 s.size && ends s) = ends s := by simp [okl, srch]
      rw [e]; exact hend
    | succ d ih =>
      intro i h
      have e0 : ∀ k, spec_l9Label.l0 (k + 1) s (i : Int) = if okc (bt s i) = true then spec_l9Label.l0 k s ((i + 1 : Nat) : Int) else some false := by
        intro k
        rw [spec_l9Label.l0, if_pos (show (i : Int) < s.size by omega), if_pos (show (0 : Int) ≤ i by omega), wrap_in (by omega), okc_tree]
        rfl
      rw [okl_cases]
      by_cases hc : okc (bt s i) = true
      · rw [if_pos hc]
        exact Ev.step (fun k => by rw [e0, if_pos hc]) (ih (i + 1) (by omega))
      · rw [if_neg hc]
        exact ev1 (fun k => by rw [e0, if_neg hc]; rfl)
  exact h s.size 0 (by omega)
def labFrom (p q : List UInt8) : List (List UInt8) := match Man.lab q with | h :: r => (p ++ h) :: r | [] => [p]
theorem lab_ne (q : List UInt8) : Man.lab q ≠ [] := by
  cases q with
  | nil => simp [Man.lab]
  | cons c t => unfold Man.lab; split
                · simp
                · split <;> simp
theorem labFrom_dot (p t : List UInt8) : labFrom p (46 :: t) = p :: labFrom [] t := by
  unfold labFrom
  have e : Man.lab (46 :: t) = [] :: Man.lab t := by rw [Man.lab, if_pos rfl]
  rw [e]
  have := lab_ne t
  cases h : Man.lab t with
  | nil => exact absurd h this
  | cons a b => simp
theorem labFrom_go (p t : List UInt8) (c : UInt8) (hc : c ≠ 46) : labFrom p (c :: t) = labFrom (p ++ [c]) t := by
  unfold labFrom
  have := lab_ne t
  have e : Man.lab (c :: t) = match Man.lab t with | h :: r => (c :: h) :: r | [] => [[c]] := by rw [Man.lab, if_neg hc]; rfl
  rw [e]
  cases h : Man.lab t with
  | nil => exact absurd h this
  | cons a b => simp
def mkB (ls : List (List UInt8)) : List ByteArray := ls.map fun l => ⟨l.toArray⟩
theorem mkB_lab (s : ByteArray) : mkB (Man.lab s.data.toList) = Man.labB s := by
  rw [← Man.labB_data]
  unfold mkB
  rw [List.map_map]
  have : ((fun l : List UInt8 => (⟨l.toArray⟩ : ByteArray)) ∘ fun b : ByteArray => b.data.toList) = id := by funext b; simp
  rw [this, List.map_id]
theorem e_spec_l9Labels (s : ByteArray) (hs : s.size ≤ 1048576) : Ev (fun k => spec_l9Labels.f k s) (Man.labB s) := by
  unfold spec_l9Labels.f
  have h : ∀ (d i g : Nat) (out : List ByteArray), i + d = s.size → g ≤ i → out.length ≤ i → Ev (fun k => spec_l9Labels.l0 k s out (g : Int) (i : Int)) (out ++ mkB (labFrom ((s.data.toList.drop g).take (i - g)) (s.data.toList.drop i))) := by
    intro d
    induction d with
    | zero =>
      intro i g out h hg ho
      have hi : i = s.size := by omega
      subst hi
      refine Ev.step (f := fun k => spec_l9Labels.l0 k s (out ++ [s.extract g s.size]) ((s.size + 1 : Nat) : Int) ((s.size + 1 : Nat) : Int)) (fun k => ?_) (ev1 (fun k => ?_))
      · rw [spec_l9Labels.l0, if_pos (by omega), if_pos rfl, if_pos (show (0 : Int) ≤ g by omega), if_pos (show (g : Int) ≤ s.size by omega), if_pos (by omega), wrap_in (by omega)]
        rfl
      · rw [spec_l9Labels.l0, if_neg (by omega)]
        have e : s.data.toList.drop s.size = [] := List.drop_eq_nil_of_le (by rw [← Lib.size_eq]; exact Nat.le_refl _)
        rw [e]
        have e2 : labFrom ((s.data.toList.drop g).take (s.size - g)) [] = [(s.data.toList.drop g).take (s.size - g)] := by simp [labFrom, Man.lab]
        rw [e2, Lib.extract_eq]
        rfl
    | succ d ih =>
      intro i g out h hg ho
      obtain ⟨c, hc1, hc2⟩ := bt_at s i (by omega)
      by_cases hc : c = 46
      · subst hc
        refine Ev.step (f := fun k => spec_l9Labels.l0 k s (out ++ [s.extract g i]) ((i + 1 : Nat) : Int) ((i + 1 : Nat) : Int)) (fun k => ?_) ?_
        · rw [spec_l9Labels.l0, if_pos (by omega), if_neg (by omega), if_pos (show (0 : Int) ≤ i by omega), if_pos (show (i : Int) < s.size by omega), if_pos (by rw [hc2]; rfl), if_pos (show (0 : Int) ≤ g by omega), if_pos (show (g : Int) ≤ i by omega), if_pos (by omega), wrap_in (by omega)]
          rfl
        · have := ih (i + 1) (i + 1) (out ++ [s.extract g i]) (by omega) (by omega) (by simp; omega)
          rw [hc1, labFrom_dot]
          have e : (s.data.toList.drop (i + 1)).take (i + 1 - (i + 1)) = [] := by simp
          rw [e] at this
          have e2 : mkB (((s.data.toList.drop g).take (i - g)) :: labFrom [] (s.data.toList.drop (i + 1))) = s.extract g i :: mkB (labFrom [] (s.data.toList.drop (i + 1))) := by rw [Lib.extract_eq]; rfl
          rw [e2]
          simpa using this
      · have hne : ¬ bt s (i : Int) = 46 := by
          rw [hc2]
          intro e
          have h46 : (46 : UInt8).toNat = 46 := rfl
          have h47 : c.toNat = (46 : UInt8).toNat := by omega
          exact hc (UInt8.toNat_inj.1 h47)
        refine Ev.step (f := fun k => spec_l9Labels.l0 k s out (g : Int) ((i + 1 : Nat) : Int)) (fun k => ?_) ?_
        · rw [spec_l9Labels.l0, if_pos (by omega), if_neg (by omega), if_pos (show (0 : Int) ≤ i by omega), if_pos (show (i : Int) < s.size by omega), if_neg hne, wrap_in (by omega)]
          rfl
        · have := ih (i + 1) g out (by omega) (by omega) (by omega)
          rw [hc1, labFrom_go _ _ _ hc]
          have e : (s.data.toList.drop g).take (i + 1 - g) = (s.data.toList.drop g).take (i - g) ++ [c] := by
            have e1 : i + 1 - g = (i - g) + 1 := by omega
            have hl : i - g < (s.data.toList.drop g).length := by rw [List.length_drop, ← Lib.size_eq]; omega
            rw [e1, List.take_succ_eq_append_getElem hl]
            congr 2
            rw [List.getElem_drop]
            have h2 : s.data.toList.drop i = s.data.toList[i]'(by rw [← Lib.size_eq]; omega) :: s.data.toList.drop (i + 1) := List.drop_eq_getElem_cons _
            rw [hc1] at h2
            have h3 := (List.cons.inj h2).1
            rw [h3]
            congr 1
            omega
          rw [e] at this
          exact this
  have h0 := h s.size 0 0 [] (by omega) (Nat.le_refl _) (by simp)
  have e : labFrom ((s.data.toList.drop 0).take (0 - 0)) (s.data.toList.drop 0) = Man.lab s.data.toList := by
    unfold labFrom
    simp only [List.drop_zero, Nat.sub_self, List.take_zero, List.nil_append]
    have := lab_ne s.data.toList
    cases h : Man.lab s.data.toList with
    | nil => exact absurd h this
    | cons a b => rfl
  rw [e, mkB_lab] at h0
  exact h0
theorem labB_small (s : ByteArray) (b : ByteArray) (h : b ∈ Man.labB s) : b.size ≤ s.size := by
  have hm : ∀ l : List UInt8, ∀ x ∈ Man.lab l, x.length ≤ l.length := by
    intro l
    induction l with
    | nil => intro x hx; simp [Man.lab] at hx; subst hx; simp
    | cons c t ih =>
      intro x hx
      unfold Man.lab at hx
      split at hx
      · rcases List.mem_cons.1 hx with rfl | h
        · simp
        · have := ih x h; simp; omega
      · split at hx
        · rename_i a b e
          rcases List.mem_cons.1 hx with rfl | h
          · have := ih a (by rw [e]; exact List.mem_cons_self); simp; omega
          · have := ih x (by rw [e]; exact List.mem_cons_of_mem _ h); simp; omega
        · simp at hx; subst hx; simp
  have h1 : b.data.toList ∈ Man.lab s.data.toList := by rw [← Man.labB_data]; exact List.mem_map.2 ⟨b, h, rfl⟩
  have := hm _ _ h1
  rw [Lib.size_eq, Lib.size_eq]; exact this
theorem labB_count (s : ByteArray) : (Man.labB s).length ≤ s.size + 1 := by
  rw [Man.labB_len]
  have := Lib.countB_le ⟨#[46]⟩ (by decide) s.size s (Nat.le_refl _)
  omega
theorem e_spec_IsHost (s : ByteArray) (hs : s.size ≤ 1048576) : Ev (fun k => spec_IsHost.f k s) (vhost s) := by
  unfold spec_IsHost.f
  refine Ev.bind (e_spec_l9Labels s hs) ?_
  have hb := labB_small s
  have hcnt := labB_count s
  unfold vhost
  generalize Man.labB s = ls at hb hcnt
  have h : ∀ d i : Nat, i + d = ls.length → Ev (fun k => spec_IsHost.l0 k s ls (i : Int)) ((ls.drop i).all vlb && decide ((s.size : Int) ≤ 60)) := by
    intro d
    induction d with
    | zero =>
      intro i h
      refine ev1 (fun k => ?_)
      rw [spec_IsHost.l0, if_neg (by omega), drop_end (by omega)]; simp
    | succ d ih =>
      intro i h
      have hi : i < ls.length := by omega
      have er : rdOf ByteArray.empty ls (i : Int) = ls[i] := rdOf_in _ hi
      have hsz : ls[i].size ≤ s.size := hb _ (List.getElem_mem hi)
      rw [drop_at hi]
      have hv := e_spec_l9Label ls[i] (by omega)
      cases hvb : vlb ls[i] with
      | true =>
        rw [hvb] at hv
        refine Ev.step (f := fun k => (spec_l9Label.f k ls[i]).bind fun t => if t = true then spec_IsHost.l0 k s ls ((i + 1 : Nat) : Int) else some false) (fun k => ?_) (Ev.bind hv ?_)
        · rw [spec_IsHost.l0, if_pos (by omega), if_pos (by omega), er, wrap_in (by omega)]; rfl
        · have := ih (i + 1) (by omega)
          rw [List.all_cons, hvb, Bool.true_and]
          simp only [if_true]
          exact this
      | false =>
        rw [hvb] at hv
        refine Ev.step (f := fun k => (spec_l9Label.f k ls[i]).bind fun t => if t = true then spec_IsHost.l0 k s ls ((i + 1 : Nat) : Int) else some false) (fun k => ?_) (Ev.bind hv ?_)
        · rw [spec_IsHost.l0, if_pos (by omega), if_pos (by omega), er, wrap_in (by omega)]; rfl
        · rw [List.all_cons, hvb, Bool.false_and, Bool.false_and]
          simp only [Bool.false_eq_true, if_false]
          exact Ev.now _
  have := h ls.length 0 (by omega)
  simpa using this
theorem e_impl_IsHost (s : ByteArray) : Ev (fun k => impl_IsHost.f k s) (vhost s) := by
  unfold impl_IsHost.f
  by_cases h60 : (s.size : Int) > 60
  · refine ev_of (fun k => ?_)
    rw [if_pos h60]
    unfold vhost
    rw [decide_eq_false (show ¬ (s.size : Int) ≤ 60 by omega), Bool.and_false]
  simp only [if_neg h60]
  rw [show vhost s = (Man.labB s).all vlb by unfold vhost; rw [decide_eq_true (show (s.size : Int) ≤ 60 by omega), Bool.and_true]]
  rw [l_strings_Split s (by omega)]
  simp only [Option.bind_some]
  have hb := labB_small s
  have hcnt := labB_count s
  generalize Man.labB s = ls at hb hcnt
  have h : ∀ d i : Nat, i + d = ls.length → Ev (fun k => impl_IsHost.l0 k ls (ls.length : Int) (i : Int)) ((ls.drop i).all vlb) := by
    intro d
    induction d with
    | zero =>
      intro i h
      refine ev1 (fun k => ?_)
      rw [impl_IsHost.l0, if_neg (by omega), drop_end (by omega)]; simp
    | succ d ih =>
      intro i h
      have hi : i < ls.length := by omega
      have er : rdOf ByteArray.empty ls (i : Int) = ls[i] := rdOf_in _ hi
      have hsz : ls[i].size ≤ s.size := hb _ (List.getElem_mem hi)
      rw [drop_at hi, List.all_cons]
      have hnext := ih (i + 1) (by omega)
      generalize (ls.drop (i + 1)).all vlb = rest at hnext
      generalize ls[i] = b at er hsz
      have hloop : ∀ d j : Nat, j + d = b.size → Ev (fun k => impl_IsHost.l1 k b (j : Int) ls (ls.length : Int) (i : Int)) (okl b d j && rest) := by
        intro d
        induction d with
        | zero =>
          intro j hj
          have e : (okl b 0 j && rest) = rest := by simp [okl, srch]
          rw [e]
          refine Ev.step (fun k => ?_) hnext
          rw [impl_IsHost.l1, if_neg (by omega), wrap_in (by omega)]; rfl
        | succ d ihd =>
          intro j hj
          have e0 : ∀ k, impl_IsHost.l1 (k + 1) b (j : Int) ls (ls.length : Int) (i : Int) = if okc (bt b j) = true then impl_IsHost.l1 k b ((j + 1 : Nat) : Int) ls (ls.length : Int) (i : Int) else some false := by
            intro k
            rw [impl_IsHost.l1, if_pos (show (j : Int) < b.size by omega), if_pos (show (0 : Int) ≤ j by omega), wrap_in (by omega), okc_tree]
            rfl
          rw [okl_cases]
          by_cases hc : okc (bt b j) = true
          · rw [if_pos hc]
            exact Ev.step (fun k => by rw [e0, if_pos hc]) (ihd (j + 1) (by omega))
          · rw [if_neg hc]
            exact ev1 (fun k => by rw [e0, if_neg hc]; rfl)
      have hj1 : ∀ x : Bool, Ev (fun k => impl_IsHost.j1 k b ls (ls.length : Int) (i : Int) x) (if x = true then false else (okl b b.size 0 && rest)) := by
        intro x
        cases x with
        | true => exact ev1 (fun k => by rw [impl_IsHost.j1, if_pos rfl]; rfl)
        | false =>
          refine Ev.step (f := fun k => impl_IsHost.l1 k b 0 ls (ls.length : Int) (i : Int)) (fun k => ?_) ?_
          · rw [impl_IsHost.j1, if_neg (by simp)]
          · simpa using hloop b.size 0 (by omega)
      by_cases h1 : (b.size : Int) < 1
      · refine Ev.step (f := fun k => impl_IsHost.j1 k b ls (ls.length : Int) (i : Int) true) (fun k => ?_) ?_
        · rw [impl_IsHost.l0, if_pos (by omega), if_pos (by omega), if_pos (by omega), er, if_pos h1]
        · have e : (vlb b && rest) = false := by unfold vlb ends; rw [decide_eq_false (by omega)]; simp
          rw [e]; exact hj1 true
      by_cases h2 : (b.size : Int) > 20
      · refine Ev.step (f := fun k => impl_IsHost.j1 k b ls (ls.length : Int) (i : Int) true) (fun k => ?_) ?_
        · rw [impl_IsHost.l0, if_pos (by omega), if_pos (by omega), if_pos (by omega), er, if_neg h1, if_pos h2]
        · have e : (vlb b && rest) = false := by unfold vlb ends; rw [decide_eq_false (by omega)]; simp
          rw [e]; exact hj1 true
      by_cases h3 : bt b 0 = 45
      · refine Ev.step (f := fun k => impl_IsHost.j1 k b ls (ls.length : Int) (i : Int) true) (fun k => ?_) ?_
        · rw [impl_IsHost.l0, if_pos (by omega), if_pos (by omega), if_pos (by omega), er, if_neg h1, if_neg h2, if_pos (by omega), if_pos h3]
        · have e : (vlb b && rest) = false := by unfold vlb ends; rw [decide_eq_true h3]; simp
          rw [e]; exact hj1 true
      refine Ev.step (f := fun k => impl_IsHost.j1 k b ls (ls.length : Int) (i : Int) (bt b ((b.size : Int) - 1) == 45)) (fun k => ?_) ?_
      · rw [impl_IsHost.l0, if_pos (by omega), if_pos (by omega), if_pos (by omega), er, if_neg h1, if_neg h2, if_pos (by omega), if_neg h3, wrap_in (by omega), if_pos (show 0 ≤ (b.size : Int) - 1 by omega), if_pos (show (b.size : Int) - 1 < b.size by omega)]
      · have e : (vlb b && rest) = (if (bt b ((b.size : Int) - 1) == 45) = true then false else (okl b b.size 0 && rest)) := by
          unfold vlb ends
          rw [decide_eq_true (show 1 ≤ (b.size : Int) ∧ (b.size : Int) ≤ 20 by omega), decide_eq_false h3]
          by_cases h4 : bt b ((b.size : Int) - 1) = 45
          · rw [h4]; simp
          · have h5 : (bt b ((b.size : Int) - 1) != 45) = true := bne_iff_ne.2 h4
            have h6 : (bt b ((b.size : Int) - 1) == 45) = false := beq_eq_false_iff_ne.2 h4
            rw [h5, h6]; simp
        rw [e]; exact hj1 _
  have := h ls.length 0 (by omega)
  simpa using this
theorem l_impl_InRange (a0 a1 a2 : Int) : impl_InRange.f a0 a1 a2 = some (decide (a1 ≤ a0 ∧ a0 ≤ a2)) := by
  unfold impl_InRange.f
  by_cases h : a1 ≤ a0
  · rw [if_pos h]; simp [h]
  · rw [if_neg h]; simp [h]
def org (h : ByteArray) (p : Int) : Bool := vhost h && decide (1 ≤ p ∧ p ≤ 65535)
theorem e_impl_IsOrigin (c : Bool) (h : ByteArray) (p : Int) : Ev (fun k => impl_IsOrigin.f k c h p) (org h p) := by
  unfold impl_IsOrigin.f org
  refine Ev.bind (e_impl_IsHost h) ?_
  cases vhost h with
  | true => simp only [if_true, l_impl_InRange, Option.bind_some, Bool.true_and]; exact Ev.now _
  | false => simp only [Bool.false_eq_true, if_false, Bool.false_and]; exact Ev.now _
def fmtB (n : Int) : ByteArray := ⟨(Lib.itoa n).toArray⟩
theorem l_strconv_Itoa {n : Int} (h0 : -9223372036854775808 ≤ n) (h1 : n ≤ 9223372036854775807) : strconv_Itoa.f n = some (fmtB n) := by
  unfold strconv_Itoa.f
  rw [if_pos ⟨h0, h1⟩]; rfl
theorem digits_len : ∀ u : Nat, (Lib.decDigits u).length ≤ u + 1 := by
  intro u
  induction u using Nat.strongRecOn with
  | _ u ih =>
    rw [Lib.decDigits]
    split
    · simp
    · have := ih (u / 10) (by omega)
      simp; omega
theorem fmtB_len {n : Int} (h : 0 ≤ n) : (fmtB n).size ≤ n.toNat + 1 := by
  have e : (fmtB n).size = (Lib.decDigits n.toNat).length := by
    unfold fmtB Lib.itoa
    rw [if_neg (by omega)]
    show ((Lib.decDigits n.toNat).toArray).size = _
    simp
  rw [e]; exact digits_len _
theorem l_impl_FormatInt {n : Int} (h0 : -9223372036854775808 ≤ n) (h1 : n ≤ 9223372036854775807) : impl_FormatInt.f n = some (fmtB n) := by
  unfold impl_FormatInt.f; rw [l_strconv_Itoa h0 h1]; rfl
def fmo (c : Bool) (h : ByteArray) (p : Int) : ByteArray := if org h p = true then (if c = true then (if p = 443 then ((⟨#[104, 116, 116, 112, 115, 58, 47, 47]⟩ : ByteArray) ++ h) else ((((⟨#[104, 116, 116, 112, 115, 58, 47, 47]⟩ : ByteArray) ++ h) ++ (⟨#[58]⟩ : ByteArray)) ++ fmtB p)) else (if p = 80 then ((⟨#[104, 116, 116, 112, 58, 47, 47]⟩ : ByteArray) ++ h) else ((((⟨#[104, 116, 116, 112, 58, 47, 47]⟩ : ByteArray) ++ h) ++ (⟨#[58]⟩ : ByteArray)) ++ fmtB p))) else (⟨#[]⟩ : ByteArray)
theorem org_port {h : ByteArray} {p : Int} (e : org h p = true) : 1 ≤ p ∧ p ≤ 65535 := by
  unfold org at e; simp only [Bool.and_eq_true, decide_eq_true_eq] at e; exact e.2
theorem s8 (h : ByteArray) : ((⟨#[104, 116, 116, 112, 115, 58, 47, 47]⟩ : ByteArray) ++ h).size = 8 + h.size := by rw [ByteArray.size_append]; rfl
theorem s7 (h : ByteArray) : ((⟨#[104, 116, 116, 112, 58, 47, 47]⟩ : ByteArray) ++ h).size = 7 + h.size := by rw [ByteArray.size_append]; rfl
theorem s1 (h : ByteArray) : (h ++ (⟨#[58]⟩ : ByteArray)).size = h.size + 1 := by rw [ByteArray.size_append]; rfl
theorem e_impl_FormatOrigin (c : Bool) (h : ByteArray) (p : Int) (hs : h.size ≤ 1048576) : Ev (fun k => impl_FormatOrigin.f k c h p) (fmo c h p) := by
  unfold impl_FormatOrigin.f fmo
  refine Ev.bind (e_impl_IsOrigin c h p) ?_
  cases ho : org h p with
  | false => simp only [Bool.false_eq_true, if_false]; exact Ev.now _
  | true =>
  have hp := org_port ho
  have hl := fmtB_len (n := p) (by omega)
  rw [l_impl_FormatInt (by omega) (by omega)]
  simp only [if_true, Option.bind_some]
  cases c with
  | true =>
    simp only [if_true]
    by_cases h4 : p = 443
    · simp only [if_pos h4, if_pos (show 8 + h.size ≤ 9223372036854775807 by omega)]; exact Ev.now _
    · simp only [if_neg h4, s1, s8, if_pos (show 8 + h.size ≤ 9223372036854775807 by omega), if_pos (show 8 + h.size + 1 ≤ 9223372036854775807 by omega), if_pos (show 8 + h.size + 1 + (fmtB p).size ≤ 9223372036854775807 by omega)]
      exact Ev.now _
  | false =>
    simp only [Bool.false_eq_true, if_false]
    by_cases h4 : p = 80
    · simp only [if_pos h4, if_pos (show 7 + h.size ≤ 9223372036854775807 by omega)]; exact Ev.now _
    · simp only [if_neg h4, s1, s7, if_pos (show 7 + h.size ≤ 9223372036854775807 by omega), if_pos (show 7 + h.size + 1 ≤ 9223372036854775807 by omega), if_pos (show 7 + h.size + 1 + (fmtB p).size ≤ 9223372036854775807 by omega)]
      exact Ev.now _
theorem decFrom_app : ∀ (l : List UInt8) (b : UInt8) (acc : Nat), Lib.decFrom acc (l ++ [b]) = (Lib.decFrom acc l).bind fun n => (Lib.digitVal b).map fun d => n * 10 + d
  | [], b, acc => by simp only [List.nil_append, Lib.decFrom, Option.bind_some]; cases Lib.digitVal b <;> rfl
  | a :: t, b, acc => by
    simp only [List.cons_append, Lib.decFrom]
    cases Lib.digitVal a with
    | none => rfl
    | some e => exact decFrom_app t b _
theorem digit_of (d : Nat) (h : d < 10) : Lib.digitVal (UInt8.ofNat (48 + d)) = some d := by
  have e : (UInt8.ofNat (48 + d)).toNat = 48 + d := by simp; omega
  unfold Lib.digitVal
  rw [e, if_pos ⟨by omega, by omega⟩]
  congr 1; omega
theorem dec_back : ∀ u : Nat, Lib.decFrom 0 (Lib.decDigits u) = some u := by
  intro u
  induction u using Nat.strongRecOn with
  | _ u ih =>
    rw [Lib.decDigits]
    by_cases h : u < 10
    · rw [dif_pos h]; simp only [Lib.decFrom, digit_of u h]; simp
    · rw [dif_neg h, decFrom_app, ih (u / 10) (by omega)]
      simp only [Option.bind_some, digit_of (u % 10) (by omega), Option.map_some]
      congr 1; omega
theorem nd_le : ∀ (k u : Nat), u < 10 ^ (k + 1) → Lib.nDigits u ≤ k + 1
  | 0, u, h => by rw [Lib.nDigits_small (by simpa using h)]; omega
  | k + 1, u, h => by
    by_cases h10 : u < 10
    · rw [Lib.nDigits_small h10]; omega
    · rw [Lib.nDigits_big h10]
      have := nd_le k (u / 10) (by rw [Nat.pow_succ] at h; omega)
      omega
theorem dec_len13 {u : Nat} (h : u ≤ 1000000000000) : (Lib.decDigits u).length ≤ 13 := by
  rw [Lib.decDigits_length]
  exact nd_le 12 u (by omega)
theorem dec_len1 (u : Nat) : 1 ≤ (Lib.decDigits u).length := by
  rw [Lib.decDigits_length]
  exact Lib.nDigits_pos u
theorem atoi_back {u : Nat} (h : u ≤ 1000000000000) : Lib.atoiAll (Lib.decDigits u) = .ok (u : Int) := by
  have hl := dec_len13 h
  rw [Lib.atoiAll_short _ (by omega)]
  have hn := dec_len1 u
  have hd := dec_back u
  generalize Lib.decDigits u = l at hn hd
  cases l with
  | nil => simp at hn
  | cons c r =>
    have hdv : ∃ d, Lib.digitVal c = some d := by
      simp only [Lib.decFrom] at hd
      cases h : Lib.digitVal c with
      | none => rw [h] at hd; cases hd
      | some d => exact ⟨d, rfl⟩
    obtain ⟨d, hdv⟩ := hdv
    have hb := Lib.digitVal_eq hdv
    have h45 : (c == 45) = false := beq_eq_false_iff_ne.2 (fun e => by subst e; have : (45 : UInt8).toNat = 45 := rfl; omega)
    have h43 : (c == 43) = false := beq_eq_false_iff_ne.2 (fun e => by subst e; have : (43 : UInt8).toNat = 43 := rfl; omega)
    have e : Lib.atoi (c :: r) = some (u : Int) := by
      unfold Lib.atoi
      simp only [h45, h43, Bool.false_eq_true, if_false]
      unfold Lib.decNat
      rw [hd]; rfl
    rw [e]; rfl
def pint (l : List UInt8) : Int × Bool := match Lib.decFrom 0 l with
  | some u => if u ≤ 1000000000000 ∧ Lib.decDigits u = l then ((u : Int), true) else (0, false)
  | none => (0, false)
theorem pint_yes {u : Nat} (h : u ≤ 1000000000000) : pint (Lib.decDigits u) = ((u : Int), true) := by unfold pint; rw [dec_back]; simp [h]
theorem pint_no {l : List UInt8} (h : ¬ ∃ u : Nat, u ≤ 1000000000000 ∧ Lib.decDigits u = l) : pint l = (0, false) := by
  unfold pint
  split
  · rw [if_neg (fun e => h ⟨_, e.1, e.2⟩)]
  · rfl
theorem itoa_nat (u : Nat) : Lib.itoa (u : Int) = Lib.decDigits u := by unfold Lib.itoa; rw [if_neg (by omega), Int.toNat_natCast]
theorem l_impl_ParseInt (s : ByteArray) (hs : s.size ≤ 281474976710656) : impl_ParseInt.f s = some (pint s.data.toList) := by
  unfold impl_ParseInt.f
  rw [if_pos hs]
  congr 1
  by_cases h : ∃ u : Nat, u ≤ 1000000000000 ∧ Lib.decDigits u = s.data.toList
  · obtain ⟨u, hu, e⟩ := h
    rw [← e, pint_yes hu, atoi_back hu]
    simp only
    rw [if_neg (by omega), if_neg (by omega), if_pos (itoa_nat u)]
  · rw [pint_no h]
    cases ha : Lib.atoiAll s.data.toList with
    | ok v =>
      simp only
      by_cases h1 : v < 0
      · rw [if_pos h1]
      · by_cases h2 : v > 1000000000000
        · rw [if_neg h1, if_pos h2]
        · rw [if_neg h1, if_neg h2, if_neg]
          intro e
          refine h ⟨v.toNat, by omega, ?_⟩
          rw [← e]; unfold Lib.itoa; rw [if_neg h1]
    | «syntax» => rfl
    | range => rfl
def finO (x : Bool) (h : ByteArray) (p : Int) (s : ByteArray) : Bool × ByteArray × Int × Bool := if org h p = true then (if (fmo x h p).toList = s.toList then (x, h, p, true) else (false, (⟨#[]⟩ : ByteArray), 0, false)) else (false, (⟨#[]⟩ : ByteArray), 0, false)
def cutO (x : Bool) (p : Int) (r s : ByteArray) : Bool × ByteArray × Int × Bool :=
  if (Lib.cut r.data.toList [58]).2.2 = true then (if (pint (Lib.cut r.data.toList [58]).2.1).2 = true then finO x ⟨(Lib.cut r.data.toList [58]).1.toArray⟩ (pint (Lib.cut r.data.toList [58]).2.1).1 s else (false, (⟨#[]⟩ : ByteArray), 0, false)) else finO x ⟨(Lib.cut r.data.toList [58]).1.toArray⟩ p s
def hp7 : List UInt8 := [104, 116, 116, 112, 58, 47, 47]
def hp8 : List UInt8 := [104, 116, 116, 112, 115, 58, 47, 47]
def parO (s : ByteArray) : Bool × ByteArray × Int × Bool := if Lib.hasPrefix s.data.toList hp7 = true then cutO false 80 ⟨(s.data.toList.drop 7).toArray⟩ s else if Lib.hasPrefix s.data.toList hp8 = true then cutO true 443 ⟨(s.data.toList.drop 8).toArray⟩ s else (false, (⟨#[]⟩ : ByteArray), 0, false)
theorem pre_take (l p : List UInt8) : Lib.hasPrefix l p = true ↔ l.take p.length = p := by
  unfold Lib.hasPrefix
  rw [List.isPrefixOf_iff_prefix, List.prefix_iff_eq_take]
  exact ⟨fun h => h.symm, fun h => h.symm⟩
theorem ib_no (c : UInt8) : ∀ l : List UInt8, (∀ b ∈ l, b ≠ c) → Lib.indexByte l c = -1
  | [], _ => rfl
  | b :: l, h => by
    unfold Lib.indexByte
    rw [beq_eq_false_iff_ne.2 (h b List.mem_cons_self), ib_no c l (fun x hx => h x (List.mem_cons_of_mem _ hx))]
    rfl
theorem ib_at (c : UInt8) : ∀ (p t : List UInt8), (∀ b ∈ p, b ≠ c) → Lib.indexByte (p ++ c :: t) c = p.length
  | [], t, _ => by simp [Lib.indexByte]
  | b :: p, t, h => by
    simp only [List.cons_append]
    unfold Lib.indexByte
    rw [beq_eq_false_iff_ne.2 (h b List.mem_cons_self), ib_at c p t (fun x hx => h x (List.mem_cons_of_mem _ hx))]
    have : ((p.length : Int) == -1) = false := beq_eq_false_iff_ne.2 (by omega)
    rw [this]; simp
theorem cut_no {l : List UInt8} (h : ∀ b ∈ l, b ≠ 58) : Lib.cut l [58] = (l, [], false) := by
  unfold Lib.cut
  rw [Lib.index_one, ib_no 58 l h, if_neg (by decide)]
theorem cut_at {l t : List UInt8} {i : Nat} (h : ∀ b ∈ l.take i, b ≠ 58) (ht : l.drop i = 58 :: t) : Lib.cut l [58] = (l.take i, t, true) := by
  have hi : i < l.length := by
    rcases Nat.lt_or_ge i l.length with h | h
    · exact h
    · rw [List.drop_eq_nil_of_le h] at ht; cases ht
  have e : l = l.take i ++ 58 :: t := by rw [← ht, List.take_append_drop]
  have hx : Lib.index l [58] = (i : Int) := by
    rw [Lib.index_one]
    conv => lhs; rw [e]
    rw [ib_at 58 _ t h, List.length_take]; congr 1; omega
  unfold Lib.cut
  rw [hx, if_pos (by omega), Int.toNat_natCast]
  have e2 : l.drop (i + ([58] : List UInt8).length) = t := by
    show l.drop (i + 1) = t
    rw [← List.drop_drop, ht]; rfl
  rw [e2]
theorem vhost_nil : vhost (⟨#[]⟩ : ByteArray) = false := by
  have h1 : (Man.labB (⟨#[]⟩ : ByteArray)).map (·.data.toList) = [[]] := by rw [Man.labB_data]; rfl
  unfold vhost
  cases hl : Man.labB (⟨#[]⟩ : ByteArray) with
  | nil => rw [hl] at h1; simp at h1
  | cons b t =>
    rw [hl] at h1
    simp only [List.map_cons] at h1
    have hb : b.data.toList = [] := (List.cons.inj h1).1
    have hz : b.size = 0 := by rw [Lib.size_eq, hb]; rfl
    have hv : vlb b = false := by unfold vlb ends; rw [decide_eq_false (by omega)]; simp
    rw [List.all_cons, hv]; rfl
theorem fin_nil (x : Bool) (p : Int) (s : ByteArray) : finO x (⟨#[]⟩ : ByteArray) p s = (false, (⟨#[]⟩ : ByteArray), 0, false) := by
  unfold finO org; rw [vhost_nil]; rfl
theorem e_impl_ParseOrigin (s : ByteArray) (hs : s.size ≤ 1048576) : Ev (fun k => impl_ParseOrigin.f k s) (parO s) := by
  have j1 : ∀ (x : Bool) (h : ByteArray) (p : Int), h.size ≤ 1048576 → Ev (fun k => impl_ParseOrigin.j1 k s x h p) (finO x h p s) := by
    intro x h p hh
    refine Ev.step (f := fun k => (impl_IsOrigin.f k x h p).bind fun t161 => (if t161 = true then ((impl_FormatOrigin.f k x h p).bind fun t162 => (if t162.toList = s.toList then (some (x, h, p, true)) else (some (false, (⟨#[]⟩ : ByteArray), 0, false)))) else (some (false, (⟨#[]⟩ : ByteArray), 0, false)))) (fun k => by rw [impl_ParseOrigin.j1]) ?_
    refine Ev.bind (e_impl_IsOrigin x h p) ?_
    unfold finO
    cases org h p with
    | false => simp only [Bool.false_eq_true, if_false]; exact Ev.now _
    | true =>
      simp only [if_true]
      refine Ev.bind (e_impl_FormatOrigin x h p hh) (ev_of fun _ => ?_)
      split <;> rfl
  have j0 : ∀ (x : Bool) (p : Int) (r : ByteArray), r.size ≤ 1048576 → Ev (fun k => impl_ParseOrigin.j0 k s r true x (⟨#[]⟩ : ByteArray) p) (cutO x p r s) := by
    intro x p r hr
    have hcut : strings_Cut.f r (⟨#[58]⟩ : ByteArray) = some (⟨(Lib.cut r.data.toList [58]).1.toArray⟩, ⟨(Lib.cut r.data.toList [58]).2.1.toArray⟩, (Lib.cut r.data.toList [58]).2.2) := by
      unfold strings_Cut.f; rw [if_pos ⟨rfl, by omega⟩]
    have hsz : (Lib.cut r.data.toList [58]).1.length ≤ r.size ∧ (Lib.cut r.data.toList [58]).2.1.length ≤ r.size := by
      rw [Lib.size_eq]
      unfold Lib.cut
      split
      · simp only [List.length_take, List.length_drop]; omega
      · simp
    have z1 : (⟨(Lib.cut r.data.toList [58]).1.toArray⟩ : ByteArray).size = (Lib.cut r.data.toList [58]).1.length := by rw [Lib.size_eq]
    have z2 : (⟨(Lib.cut r.data.toList [58]).2.1.toArray⟩ : ByteArray).size = (Lib.cut r.data.toList [58]).2.1.length := by rw [Lib.size_eq]
    have hpi := l_impl_ParseInt ⟨(Lib.cut r.data.toList [58]).2.1.toArray⟩ (by omega)
    unfold cutO
    cases hc : (Lib.cut r.data.toList [58]).2.2 with
    | false =>
      simp only [Bool.false_eq_true, if_false]
      refine Ev.step (fun k => ?_) (j1 x ⟨(Lib.cut r.data.toList [58]).1.toArray⟩ p (by omega))
      rw [impl_ParseOrigin.j0, if_pos rfl, hcut]
      simp only [Option.bind_some, hc, Bool.false_eq_true, if_false]
    | true =>
      simp only [if_true]
      cases hq : (pint (Lib.cut r.data.toList [58]).2.1).2 with
      | false =>
        refine ev1 (fun k => ?_)
        rw [impl_ParseOrigin.j0, if_pos rfl, hcut]
        simp only [Option.bind_some, hc, if_true, hpi, hq, Bool.false_eq_true, if_false]
      | true =>
        simp only [if_true]
        refine Ev.step (fun k => ?_) (j1 x ⟨(Lib.cut r.data.toList [58]).1.toArray⟩ (pint (Lib.cut r.data.toList [58]).2.1).1 (by omega))
        rw [impl_ParseOrigin.j0, if_pos rfl, hcut]
        simp only [Option.bind_some, hc, if_true, hpi, hq]
  have dsz : ∀ n : Nat, (⟨(s.data.toList.drop n).toArray⟩ : ByteArray).size ≤ 1048576 := by
    intro n
    rw [Lib.size_eq]
    simp only [List.length_drop]
    rw [← Lib.size_eq]; omega
  unfold impl_ParseOrigin.f parO strings_CutPrefix.f
  simp only [Option.bind_some]
  have e7 : ([104, 116, 116, 112, 58, 47, 47] : List UInt8) = hp7 := rfl
  have e8 : ([104, 116, 116, 112, 115, 58, 47, 47] : List UInt8) = hp8 := rfl
  rw [e7, e8]
  cases h7 : Lib.hasPrefix s.data.toList hp7 with
  | true =>
    simp only [if_true]
    have et : Lib.trimPrefix s.data.toList hp7 = s.data.toList.drop 7 := by unfold Lib.trimPrefix; rw [h7]; rfl
    rw [et]
    exact j0 false 80 _ (dsz 7)
  | false =>
    simp only [Bool.false_eq_true, if_false]
    cases h8 : Lib.hasPrefix s.data.toList hp8 with
    | true =>
      simp only [if_true]
      have et : Lib.trimPrefix s.data.toList hp8 = s.data.toList.drop 8 := by unfold Lib.trimPrefix; rw [h8]; rfl
      rw [et]
      exact j0 true 443 _ (dsz 8)
    | false =>
      simp only [Bool.false_eq_true, if_false]
      exact ev1 (fun k => by rw [impl_ParseOrigin.j0, if_neg (by simp)])
def sfx (h s : ByteArray) : Bool := decide (1 + s.size ≤ h.size) && (decide (h.data.toList.drop (h.size - s.size) = s.data.toList) && (bt h ((h.size : Int) - (s.size : Int) - 1) == 46))
def muse (c : Bool) (h : ByteArray) (p : Int) (s : ByteArray) : Bool := org h p && (c && (vhost s && (decide (2 ≤ (Man.labB s).length) && (decide (h.toList = s.toList) || sfx h s))))
theorem extract_end (h : ByteArray) (a : Nat) : (h.extract a h.size).toList = h.data.toList.drop a := by
  rw [Lib.extract_toList]
  exact List.take_of_length_le (by rw [List.length_drop, ← Lib.size_eq]; omega)
theorem idx_count (c : UInt8) : ∀ l : List UInt8, (0 ≤ Lib.indexByte l c) ↔ 0 < l.count c
  | [] => by simp [Lib.indexByte]
  | b :: l => by
    have ih := idx_count c l
    unfold Lib.indexByte
    by_cases hb : b = c
    · subst hb; simp
    · have hb' : (b == c) = false := beq_eq_false_iff_ne.2 hb
      rw [hb', List.count_cons_of_ne hb, ← ih]
      simp only [Bool.false_eq_true, if_false]
      have := Lib.indexByte_ge l c
      by_cases hm : Lib.indexByte l c = -1
      · simp [hm]
      · have hm' : (Lib.indexByte l c == -1) = false := beq_eq_false_iff_ne.2 hm
        rw [hm']; simp only [Bool.false_eq_true, if_false]
        constructor <;> intro <;> omega
theorem two_labels (s : ByteArray) : (0 ≤ Lib.indexByte s.data.toList 46) ↔ 2 ≤ (Man.labB s).length := by
  rw [idx_count, Man.labB_len]
  have : Lib.countB s ⟨#[46]⟩ = s.data.toList.count 46 := by unfold Lib.countB; exact Lib.count_one 46 s.data.toList
  rw [this]; omega
theorem l_HasSuffix (h s : ByteArray) (hh : h.size ≤ 1048576) (hs : s.size ≤ 1048576) : strings_HasSuffix.f h ((⟨#[46]⟩ : ByteArray) ++ s) = some (sfx h s) := by
  unfold strings_HasSuffix.f stringslite_HasSuffix.f
  have hsz : ((⟨#[46]⟩ : ByteArray) ++ s).size = 1 + s.size := by rw [ByteArray.size_append]; rfl
  have hl : ((⟨#[46]⟩ : ByteArray) ++ s).toList = 46 :: s.data.toList := by
    rw [Lib.toList_data]; simp [ByteArray.data_append]
  rw [hsz, hl]
  unfold sfx
  by_cases hn : 1 + s.size ≤ h.size
  · rw [if_pos (by omega), wrap_in (by omega), if_pos (by omega), if_pos (by omega), decide_eq_true hn, Option.bind_some, Bool.true_and]
    have e1 : (((h.size : Int) - ((1 + s.size : Nat) : Int)) : Int).toNat = h.size - s.size - 1 := by omega
    rw [e1, extract_end]
    obtain ⟨c, hc1, hc2⟩ := bt_at h (h.size - s.size - 1) (by omega)
    have e2 : h.size - s.size - 1 + 1 = h.size - s.size := by omega
    have e3 : ((h.size - s.size - 1 : Nat) : Int) = (h.size : Int) - (s.size : Int) - 1 := by omega
    rw [e2] at hc1
    rw [e3] at hc2
    rw [hc1, hc2]
    congr 1
    by_cases hd : h.data.toList.drop (h.size - s.size) = s.data.toList
    · rw [hd, decide_eq_true rfl]
      by_cases hc : c = 46
      · subst hc; simp
      · have h1 : (c :: s.data.toList == 46 :: s.data.toList) = false := beq_eq_false_iff_ne.2 (fun e => hc (List.cons.inj e).1)
        have h46 : (46 : UInt8).toNat = 46 := rfl
        have h2 : (((c.toNat : Int)) == 46) = false := beq_eq_false_iff_ne.2 (fun e => hc (UInt8.toNat_inj.1 (by rw [h46]; omega)))
        rw [h1, h2]; rfl
    · rw [decide_eq_false hd, Bool.false_and]
      exact beq_eq_false_iff_ne.2 (fun e => hd (List.cons.inj e).2)
  · rw [if_neg (by omega), decide_eq_false hn]; rfl
theorem l_Contains (s : ByteArray) : strings_Contains.f s ⟨#[46]⟩ = some (decide (2 ≤ (Man.labB s).length)) := by
  unfold strings_Contains.f
  rw [if_pos rfl]
  congr 1
  exact decide_eq_decide.2 (two_labels s)
theorem e_impl_MayUse (c : Bool) (h : ByteArray) (p : Int) (s : ByteArray) (hh : h.size ≤ 1048576) (hs : s.size ≤ 1048576) : Ev (fun k => impl_MayUse.f k c h p s) (muse c h p s) := by
  unfold impl_MayUse.f muse
  refine Ev.bind (e_impl_IsOrigin c h p) ?_
  cases org h p with
  | false => simp only [Bool.false_eq_true, if_false, Bool.false_and]; exact Ev.now _
  | true =>
  simp only [if_true, Bool.true_and]
  cases c with
  | false => simp only [Bool.false_eq_true, if_false, Bool.false_and]; exact Ev.now _
  | true =>
  simp only [if_true, Bool.true_and]
  refine Ev.bind (e_impl_IsHost s) ?_
  cases vhost s with
  | false => simp only [Bool.false_eq_true, if_false, Bool.false_and]; exact Ev.now _
  | true =>
  simp only [if_true, Bool.true_and, l_Contains, Option.bind_some]
  by_cases h2 : 2 ≤ (Man.labB s).length
  · rw [decide_eq_true h2]
    simp only [if_true, Bool.true_and]
    refine ev_of (fun k => ?_)
    by_cases he : h.toList = s.toList
    · rw [if_pos he, decide_eq_true he]; rfl
    · rw [if_neg he, decide_eq_false he, Bool.false_or, if_pos (by omega), l_HasSuffix h s hh hs]; rfl
  · rw [decide_eq_false h2]
    simp only [Bool.false_eq_true, if_false, Bool.false_and]
    exact Ev.now _
theorem l_impl_IsValidKey (a : Int) : impl_IsValidKey.f a = some (vkey a) := by
  unfold impl_IsValidKey.f; rw [l_impl_InRange]; rfl
theorem e_impl_SignMessage (p : Int) (m : List Int) (h : m.length < 17592186040000) : Ev (fun k => impl_SignMessage.f k p m) (sgn p m) := by
  unfold impl_SignMessage.f sgn
  simp only [l_impl_IsValidKey, Option.bind_some]
  by_cases hv : vkey p = true
  · simp only [if_pos hv]
    exact Ev.bind (e_impl_joined _ _ (by simp) (by simp; omega)) (Ev.bind (e_impl_KeyedHash _ _ (by simp; omega)) (ev_now (by simp)))
  · simp only [if_neg hv]; exact Ev.now _
theorem k_impl_power_inv : impl_power.f 40 48271 2147483645 2147483647 = some 1899818559 := by decide +kernel
theorem e_impl_PrivateKey (p : Int) : Ev (fun k => impl_PrivateKey.f k p) (prvk p) := by
  unfold impl_PrivateKey.f prvk
  simp only [l_impl_IsValidKey, Option.bind_some]
  by_cases h : vkey p = true
  · have hr := of_decide_eq_true h
    simp only [if_pos h]
    refine Ev.bind (Ev.of (impl_power.mono _ _ _) k_impl_power_inv) ?_
    have hm := mul_bd (show 0 ≤ p by omega) hr.2 (show (0 : Int) ≤ 1899818559 by omega) (Int.le_refl _)
    rw [wrap_in (x := p * 1899818559) (by omega), tmod_of (by omega)]; exact Ev.now _
  · simp only [if_neg h]; exact Ev.now _
theorem e_impl_VerifySignature (p : Int) (m : List Int) (s : Int) (hm : m.length < 17592186040000) : Ev (fun k => impl_VerifySignature.f k p m s) (vfy p m s) := by
  unfold impl_VerifySignature.f vfy
  refine Ev.bind (e_impl_PrivateKey p) ?_
  by_cases h : prvk p = 0
  · simp only [if_pos h]; exact Ev.now _
  · simp only [if_neg h]; exact Ev.bind (e_impl_SignMessage _ _ hm) (Ev.now _)
theorem finO_ok {x : Bool} {h : ByteArray} {p : Int} {s : ByteArray} (e : (finO x h p s).2.2.2 = true) : (finO x h p s).2.1.size ≤ 60 := by
  unfold finO at e ⊢
  by_cases ho : org h p = true
  · rw [if_pos ho] at e ⊢
    by_cases hf : (fmo x h p).toList = s.toList
    · rw [if_pos hf]
      unfold org vhost at ho
      simp only [Bool.and_eq_true, decide_eq_true_eq] at ho
      have := ho.1.2
      show h.size ≤ 60
      omega
    · rw [if_neg hf] at e; cases e
  · rw [if_neg ho] at e; cases e
theorem parO_ok {s : ByteArray} (e : (parO s).2.2.2 = true) : (parO s).2.1.size ≤ 60 := by
  have hc : ∀ x p r, (cutO x p r s).2.2.2 = true → (cutO x p r s).2.1.size ≤ 60 := by
    intro x p r e
    unfold cutO at e ⊢
    split at e
    · rename_i h1; rw [if_pos h1]
      split at e
      · rename_i h2; rw [if_pos h2]; exact finO_ok e
      · cases e
    · rename_i h1; rw [if_neg h1]; exact finO_ok e
  unfold parO at e ⊢
  split at e
  · rename_i h1; rw [if_pos h1]; exact hc _ _ _ e
  · rename_i h1; rw [if_neg h1]
    split at e
    · rename_i h2; rw [if_pos h2]; exact hc _ _ _ e
    · cases e
def ckj (bad : Bool) (pub : Int) (s o : ByteArray) (ch n : Int) (pr : Bool) (c sg wch cnt : Int) : Int := if bad = true then 1 else (if pr = true then (if ch = wch then (if vfy pub (amsg s o ch n pr ++ [c]) sg = true then (if c ≤ cnt then 4 else 0) else 5) else 3) else 2)
def ckb (s o site : ByteArray) : Bool := if s.toList = site.toList then (if (parO o).2.2.2 = true then !(muse (parO o).1 (parO o).2.1 (parO o).2.2.1 site) else true) else true
def cka (pub : Int) (s o : ByteArray) (ch n : Int) (pr : Bool) (c sg : Int) (site : ByteArray) (wch cnt : Int) : Int := ckj (ckb s o site) pub s o ch n pr c sg wch cnt
theorem e_impl_CheckAssertion (pub : Int) (s o : ByteArray) (ch n : Int) (pr : Bool) (c sg : Int) (site : ByteArray) (wch cnt : Int) (hs : s.size ≤ 1048576) (ho : o.size ≤ 1048576) (hi : site.size ≤ 1048576) : Ev (fun k => impl_CheckAssertion.f k pub s o ch n pr c sg site wch cnt) (cka pub s o ch n pr c sg site wch cnt) := by
  have hl : (amsg s o ch n pr).length = 6 := rfl
  have j0 : ∀ b, Ev (fun k => impl_CheckAssertion.j0 k pub wch cnt b s o ch n pr c sg) (ckj b pub s o ch n pr c sg wch cnt) := by
    intro b
    unfold ckj
    by_cases hb : b = true
    · rw [if_pos hb]; exact ev1 (fun k => by rw [impl_CheckAssertion.j0, if_pos hb])
    rw [if_neg hb]
    by_cases hp : pr = true
    rotate_left
    · rw [if_neg hp]; exact ev1 (fun k => by rw [impl_CheckAssertion.j0, if_neg hb, if_neg hp])
    rw [if_pos hp]
    by_cases hc : ch = wch
    rotate_left
    · rw [if_neg hc]; exact ev1 (fun k => by rw [impl_CheckAssertion.j0, if_neg hb, if_pos hp, if_neg hc])
    rw [if_pos hc]
    refine Ev.step (f := fun k => (impl_AssertionMessage.f k s o ch n pr c sg).bind fun t195 => ((impl_joined.f k t195 (([(([c] : List Int))] : List (List Int)))).bind fun t204 => ((impl_VerifySignature.f k pub t204 sg).bind fun t207 => (if t207 = true then (if c ≤ cnt then (some 4) else (some 0)) else (some 5))))) (fun k => by rw [impl_CheckAssertion.j0, if_neg hb, if_pos hp, if_pos hc]) ?_
    have hj := e_impl_joined (amsg s o ch n pr) [[c]] (by simp) (by simp [hl])
    have ef : amsg s o ch n pr ++ ([[c]] : List (List Int)).flatten = amsg s o ch n pr ++ [c] := by simp
    rw [ef] at hj
    refine Ev.bind (e_impl_AssertionMessage s o ch n pr c sg (by omega) (by omega)) (Ev.bind hj (Ev.bind (e_impl_VerifySignature pub _ sg (by rw [List.length_append, hl]; simp)) (ev_of fun _ => ?_)))
    split
    · split <;> rfl
    · rfl
  unfold impl_CheckAssertion.f cka ckb
  refine Ev.bind (e_impl_ParseOrigin o ho) ?_
  by_cases h1 : s.toList = site.toList
  · simp only [if_pos h1]
    by_cases h2 : (parO o).2.2.2 = true
    · simp only [if_pos h2]
      have hz := parO_ok h2
      exact Ev.bind (e_impl_MayUse _ _ _ site (by omega) hi) (j0 _)
    · simp only [if_neg h2]; exact j0 true
  · simp only [if_neg h1]; exact j0 true
theorem l_laws_szAssertion (s0 s1 : ByteArray) (a b : Int) (p : Bool) (c d left : Int) (h0 : s0.size ≤ 9223372036854775807) (h1 : s1.size ≤ 9223372036854775807) (hl : 0 ≤ left ∧ left ≤ 1048576) :
    (∃ r, laws_szAssertion.f s0 s1 a b p c d left = some r ∧ r < 0) ∨ (laws_szAssertion.f s0 s1 a b p c d left = some (left - s0.size - s1.size) ∧ (s0.size : Int) + s1.size ≤ left) := by
  unfold laws_szAssertion.f
  rw [wrap_in (x := left - (s0.size : Int)) (by omega)]
  by_cases g : left - (s0.size : Int) < 0
  · exact .inl ⟨-1, by rw [if_pos g], by omega⟩
  · rw [if_neg g, wrap_in (by omega)]
    by_cases g2 : left - (s0.size : Int) - (s1.size : Int) < 0
    · exact .inl ⟨-1, by rw [if_pos g2], by omega⟩
    · exact .inr ⟨by rw [if_neg g2], by omega⟩
theorem e_spec_IsOrigin (c : Bool) (h : ByteArray) (p : Int) (hs : h.size ≤ 1048576) : Ev (fun k => spec_IsOrigin.f k c h p) (org h p) := by
  unfold spec_IsOrigin.f org
  refine Ev.bind (e_spec_IsHost h hs) ?_
  cases vhost h with
  | true => simp only [if_true, l_spec_l1In, Option.bind_some, Bool.true_and]; exact Ev.now _
  | false => simp only [Bool.false_eq_true, if_false, Bool.false_and]; exact Ev.now _
theorem e_spec_MayUse (c : Bool) (h : ByteArray) (p : Int) (s : ByteArray) (hh : h.size ≤ 1048576) (hs : s.size ≤ 1048576) : Ev (fun k => spec_MayUse.f k c h p s) (muse c h p s) := by
  unfold spec_MayUse.f muse
  refine Ev.bind (e_spec_IsOrigin c h p hh) ?_
  cases org h p with
  | false => simp only [Bool.false_eq_true, if_false, Bool.false_and]; exact Ev.now _
  | true =>
  simp only [if_true, Bool.true_and]
  cases c with
  | false => simp only [Bool.false_eq_true, if_false, Bool.false_and]; exact Ev.now _
  | true =>
  simp only [if_true, Bool.true_and]
  refine Ev.bind (e_spec_IsHost s hs) ?_
  cases vhost s with
  | false => simp only [Bool.false_eq_true, if_false, Bool.false_and]; exact Ev.now _
  | true =>
  simp only [if_true, Bool.true_and]
  refine Ev.bind (e_spec_l9Labels s hs) ?_
  by_cases h2 : 2 ≤ (Man.labB s).length
  · rw [decide_eq_true h2]
    simp only [if_neg (show ¬ ((Man.labB s).length : Int) < 2 by omega), Bool.true_and]
    refine ev_of (fun k => ?_)
    by_cases he : h.toList = s.toList
    · rw [if_pos he, decide_eq_true he]; rfl
    · rw [if_neg he, decide_eq_false he, Bool.false_or, wrap_in (x := (h.size : Int) - (s.size : Int)) (by omega)]
      unfold sfx
      by_cases hn : 1 + s.size ≤ h.size
      · rw [if_pos (by omega), if_pos (show 0 ≤ (h.size : Int) - (s.size : Int) by omega), if_pos (show (h.size : Int) - (s.size : Int) ≤ (h.size : Int) by omega), decide_eq_true hn, wrap_in (by omega)]
        have e1 : (((h.size : Int) - (s.size : Int)) : Int).toNat = h.size - s.size := by omega
        rw [e1, extract_end, Lib.toList_data]
        by_cases hd : h.data.toList.drop (h.size - s.size) = s.data.toList
        · rw [if_pos hd, decide_eq_true hd, if_pos (by omega), if_pos (by omega)]; rfl
        · rw [if_neg hd, decide_eq_false hd]; rfl
      · rw [if_neg (by omega), decide_eq_false hn]; rfl
  · rw [decide_eq_false h2]
    simp only [if_pos (show ((Man.labB s).length : Int) < 2 by omega), Bool.false_and]
    exact Ev.now _
theorem l_spec_Max1 {x : Int} (h : 0 ≤ x) : spec_Max.f 1 x = some (one x) := by
  unfold spec_Max.f one
  by_cases h1 : x = 0
  · subst h1; rfl
  · rw [if_neg h1]
    by_cases h2 : x > 1
    · rw [if_pos h2]
    · rw [if_neg h2]; congr; omega
theorem l_spec_Mod (a m : Int) : spec_Mod.f a m = some (md a m) := by
  unfold spec_Mod.f
  rw [l_spec_l1In]; simp only [Option.bind_some]
  by_cases h : 1 ≤ m ∧ m ≤ 1000000000000
  · rw [if_pos (decide_eq_true h), if_neg (by omega), md_in _ h.1 h.2]
    have := tmod_bd (a := a) (m := m) (by omega)
    rw [wrap_in (by omega), tmod_of (by omega), tmod_add]
  · rw [if_neg (by simpa using h)]; unfold md; rw [if_neg h]
theorem e_spec_Hash_l0 (l : List Int) (hl : l.length < 20000000000000) : ∀ (d i : Nat) (h : Int), i + d = l.length → 0 ≤ h → h < 2147483647 → Ev (fun k => spec_Hash.l0 k l h (i : Int)) ((l.drop i).foldl hstep h)
  | 0, i, h, hd, _, _ => by
    refine Ev.step (f := fun _ => some h) (fun k => ?_) (ev_now ?_)
    · rw [spec_Hash.l0, if_neg (by omega)]
    · rw [drop_end (by omega)]; rfl
  | d + 1, i, h, hd, h0, h1 => by
    have hi : i < l.length := by omega
    refine Ev.step (f := fun k => spec_Hash.l0 k l (hstep h l[i]) ((i + 1 : Nat) : Int)) (fun k => ?_) ?_
    · rw [spec_Hash.l0, if_pos (by omega), if_pos (by omega), rd_in hi, l_spec_Mod]; simp only [Option.bind_some]
      rw [md_in _ (by omega) (by omega), step_wrap h0 h1, wrap_in (by omega)]; rfl
    · rw [drop_at hi, List.foldl_cons]
      exact e_spec_Hash_l0 l hl d (i + 1) _ (by omega) (step_bd _ _).1 (step_bd _ _).2
theorem e_spec_Hash (l : List Int) (hl : l.length < 20000000000000) : Ev (fun k => spec_Hash.f k l) (hsh l) :=
  e_spec_Hash_l0 l hl l.length 0 11 (by omega) (by omega) (by omega)
theorem e_spec_KeyedHash (key : Int) (l : List Int) (h : l.length < 17592186044000) : Ev (fun k => spec_KeyedHash.f k key l) (kh key l) := by
  refine Ev.congr (f := fun k => spec_Hash.f k (key :: l ++ [key])) (fun k => ?_) (e_spec_Hash _ (by first | omega | (simp; omega)))
  unfold spec_KeyedHash.f; simp only [Option.bind_some]
  rw [if_pos (by first | omega | (simp; omega)), if_pos (by first | omega | (simp; omega))]
  simp
theorem e_spec_BytesToInts (l : List Int) (hl : l.length < 17592186000000) (hw : ∀ x ∈ l, 0 ≤ x ∧ x ≤ 255) : Ev (fun k => spec_BytesToInts.f k l) ((l.length : Int) :: l) := by
  have h : ∀ (d i : Nat) (acc : List Int), i + d = l.length → acc.length = i + 1 → Ev (fun k => spec_BytesToInts.l0 k l acc (i : Int)) (acc ++ l.drop i) := by
    intro d
    induction d with
    | zero => intro i acc h _; rw [drop_end (by omega), List.append_nil]; exact ev1 fun k => by rw [spec_BytesToInts.l0, if_neg (by omega)]
    | succ d ih =>
      intro i acc h ha
      have hi : i < l.length := by omega
      have hx := hw l[i] (List.getElem_mem hi)
      have hr := ih (i + 1) (acc ++ [l[i]]) (by omega) (by simp; omega)
      rw [List.append_assoc, List.singleton_append, ← drop_at hi] at hr
      refine Ev.step (fun k => ?_) hr
      rw [spec_BytesToInts.l0, if_pos (by omega), if_pos (by omega), if_pos (by omega), rd_in hi, wrap_in (x := l[i]) (by omega), wrap_in (by omega)]; rfl
  exact h l.length 0 [(l.length : Int)] (by omega) (by simp)
theorem e_spec_DeriveFromString (key : Int) (s : ByteArray) (hs : s.size < 17592180000000) : Ev (fun k => spec_DeriveFromString.f k key s) (dfs key s) := by
  unfold spec_DeriveFromString.f
  simp only [if_pos (show s.size < 17592186044416 by omega)]
  refine Ev.bind (e_spec_BytesToInts _ (by rw [bytesOf_length]; omega) bytesOf_rng) (Ev.bind (e_spec_KeyedHash _ _ (by rw [List.length_cons, bytesOf_length]; omega)) (ev_of fun _ => ?_))
  rw [l_spec_Max1 (kh_bd _ _).1]; rfl
theorem e_spec_SiteHash (s : ByteArray) (hs : s.size < 17592180000000) : Ev (fun k => spec_SiteHash.f k s) (dfs 173 s) := by
  unfold spec_SiteHash.f
  exact Ev.bind (e_spec_DeriveFromString _ _ hs) (Ev.now _)
theorem e_spec_AssertionMessage (s o : ByteArray) (a b : Int) (p : Bool) (c d : Int) (hs : s.size < 17592180000000) (ho : o.size < 17592180000000) : Ev (fun k => spec_AssertionMessage.f k s o a b p c d) (amsg s o a b p) := by
  unfold spec_AssertionMessage.f amsg
  cases p with
  | true => simp only [if_true]; exact Ev.bind (e_spec_SiteHash s hs) (Ev.bind (e_spec_DeriveFromString _ o ho) (Ev.now _))
  | false => simp only [Bool.false_eq_true, if_false]; exact Ev.bind (e_spec_SiteHash s hs) (Ev.bind (e_spec_DeriveFromString _ o ho) (Ev.now _))
theorem one_digit (d : Int) (h0 : 0 ≤ d) (h1 : d < 10) : strOfNums [(wrap64 (48 + d)) % 256] = ⟨#[UInt8.ofNat (48 + d.toNat)]⟩ := by
  rw [wrap_in (by omega)]
  unfold strOfNums
  have e : ((48 + d) % 256).toNat = 48 + d.toNat := by omega
  simp [e]
theorem e_spec_FormatInt {n : Int} (h0 : 1 ≤ n) (h1 : n ≤ 1000000000000000000) : Ev (fun k => spec_FormatInt.f k n) (fmtB n) := by
  unfold spec_FormatInt.f
  simp only [if_neg (show ¬ n = 0 by omega)]
  have hz : ∀ acc : ByteArray, Ev (fun k => spec_FormatInt.l0 k n acc 0) acc := fun acc => ev1 (fun k => by rw [spec_FormatInt.l0, if_pos rfl, if_neg (by omega)])
  have h : ∀ (x : Nat) (acc : ByteArray), 0 < x → acc.size + x ≤ 1000000000000000001 → Ev (fun k => spec_FormatInt.l0 k n acc (x : Int)) (⟨(Lib.decDigits x).toArray⟩ ++ acc) := by
    intro x
    induction x using Nat.strongRecOn with
    | _ x ih =>
      intro acc hx hc
      have ht : Int.tmod (x : Int) 10 = ((x % 10 : Nat) : Int) := by rw [tmod_of (by omega)]; omega
      have hq : Int.tdiv (x : Int) 10 = ((x / 10 : Nat) : Int) := by rw [Int.tdiv_eq_ediv_of_nonneg (by omega)]; omega
      have hs1 : (⟨#[UInt8.ofNat (48 + x % 10)]⟩ : ByteArray).size = 1 := rfl
      have hd : strOfNums [(wrap64 (48 + ((x % 10 : Nat) : Int))) % 256] = ⟨#[UInt8.ofNat (48 + x % 10)]⟩ := by
        rw [one_digit _ (by omega) (by omega)]
        have e : (((x % 10 : Nat) : Int)).toNat = x % 10 := by omega
        rw [e]
      have step : ∀ k, spec_FormatInt.l0 (k + 1) n acc (x : Int) = spec_FormatInt.l0 k n ((⟨#[UInt8.ofNat (48 + x % 10)]⟩ : ByteArray) ++ acc) ((x / 10 : Nat) : Int) := by
        intro k
        rw [spec_FormatInt.l0, if_neg (by omega), ht, if_neg (by omega), hq, wrap_in (x := ((x / 10 : Nat) : Int)) (by omega)]
        simp only [Option.bind_some]
        rw [hd, if_pos (by rw [hs1]; omega)]
      refine Ev.step step ?_
      rw [Lib.decDigits]
      by_cases h10 : x < 10
      · rw [dif_pos h10]
        have e1 : x / 10 = 0 := by omega
        have e2 : x % 10 = x := by omega
        rw [e1, e2]
        exact hz _
      · rw [dif_neg h10]
        have hi := ih (x / 10) (by omega) ((⟨#[UInt8.ofNat (48 + x % 10)]⟩ : ByteArray) ++ acc) (by omega) (by rw [ByteArray.size_append, hs1]; omega)
        have e : (⟨(Lib.decDigits (x / 10) ++ [UInt8.ofNat (48 + x % 10)]).toArray⟩ : ByteArray) ++ acc = (⟨(Lib.decDigits (x / 10)).toArray⟩ : ByteArray) ++ ((⟨#[UInt8.ofNat (48 + x % 10)]⟩ : ByteArray) ++ acc) := by
          apply ByteArray.ext
          simp [ByteArray.data_append]
        rw [e]
        exact hi
  have hn := h n.toNat (⟨#[]⟩ : ByteArray) (by omega) (by show 0 + n.toNat ≤ _; omega)
  have e1 : ((n.toNat : Nat) : Int) = n := by omega
  rw [e1] at hn
  have e2 : (⟨(Lib.decDigits n.toNat).toArray⟩ : ByteArray) ++ (⟨#[]⟩ : ByteArray) = fmtB n := by
    unfold fmtB Lib.itoa
    rw [if_neg (by omega)]
    apply ByteArray.ext
    simp [ByteArray.data_append]
  rw [e2] at hn
  exact hn
theorem e_spec_FormatOrigin (c : Bool) (h : ByteArray) (p : Int) (hs : h.size ≤ 1048576) : Ev (fun k => spec_FormatOrigin.f k c h p) (fmo c h p) := by
  unfold spec_FormatOrigin.f fmo
  refine Ev.bind (e_spec_IsOrigin c h p hs) ?_
  cases ho : org h p with
  | false => simp only [Bool.false_eq_true, if_false]; exact Ev.now _
  | true =>
  have hp := org_port ho
  have hl := fmtB_len (n := p) (by omega)
  simp only [if_true]
  cases c with
  | true =>
    simp only [if_true]
    by_cases h4 : p = 443
    · simp only [if_pos h4, if_pos (show 8 + h.size ≤ 9223372036854775807 by omega)]; exact Ev.now _
    · simp only [if_neg h4, s8, if_pos (show 8 + h.size ≤ 9223372036854775807 by omega), if_pos (show 8 + h.size + 1 ≤ 9223372036854775807 by omega)]
      refine Ev.bind (e_spec_FormatInt hp.1 (by omega)) ?_
      simp only [s1, s8, if_pos (show 8 + h.size + 1 + (fmtB p).size ≤ 9223372036854775807 by omega)]
      exact Ev.now _
  | false =>
    simp only [Bool.false_eq_true, if_false]
    by_cases h4 : p = 80
    · simp only [if_pos h4, if_pos (show 7 + h.size ≤ 9223372036854775807 by omega)]; exact Ev.now _
    · simp only [if_neg h4, s7, if_pos (show 7 + h.size ≤ 9223372036854775807 by omega), if_pos (show 7 + h.size + 1 ≤ 9223372036854775807 by omega)]
      refine Ev.bind (e_spec_FormatInt hp.1 (by omega)) ?_
      simp only [s1, s7, if_pos (show 7 + h.size + 1 + (fmtB p).size ≤ 9223372036854775807 by omega)]
      exact Ev.now _
theorem fmtB_zero : fmtB 0 = (⟨#[48]⟩ : ByteArray) := by
  unfold fmtB Lib.itoa
  rw [if_neg (by omega), Lib.decDigits_one (i := (0 : Int).toNat) (by decide)]
  rfl
theorem fmt0 {n : Int} (h0 : 0 ≤ n) (h1 : n ≤ 1000000000000) : Ev (fun k => spec_FormatInt.f k n) (fmtB n) := by
  by_cases h : n = 0
  · subst h
    rw [fmtB_zero]
    unfold spec_FormatInt.f
    simp only [if_true]
    exact Ev.now _
  · exact e_spec_FormatInt (by omega) (by omega)
theorem e_spec_ParseInt (s : ByteArray) (hs : s.size ≤ 1048576) : Ev (fun k => spec_ParseInt.f k s) (pint s.data.toList) := by
  unfold spec_ParseInt.f
  simp only [l_spec_l1In, Option.bind_some]
  by_cases hl : 1 ≤ (s.size : Int) ∧ (s.size : Int) ≤ 13
  case neg =>
    simp only [if_neg (show ¬ decide (1 ≤ (s.size : Int) ∧ (s.size : Int) ≤ 13) = true by simpa using hl)]
    rw [pint_no]
    · exact Ev.now _
    · rintro ⟨u, hu, e⟩
      have h1 := dec_len1 u
      have h2 := dec_len13 hu
      rw [e, ← Lib.size_eq] at h1 h2
      omega
  simp only [if_pos (show decide (1 ≤ (s.size : Int) ∧ (s.size : Int) ≤ 13) = true by simpa using hl)]
  have h : ∀ d i acc : Nat, i + d = s.size → Lib.decFrom 0 (s.data.toList.take i) = some acc → acc < 10 ^ i → Ev (fun k => spec_ParseInt.l0 k s (acc : Int) (i : Int)) (pint s.data.toList) := by
    intro d
    induction d with
    | zero =>
      intro i acc h hd hb
      have hi : i = s.size := by omega
      subst hi
      have et : s.data.toList.take s.size = s.data.toList := List.take_of_length_le (by rw [← Lib.size_eq]; exact Nat.le_refl _)
      rw [et] at hd
      by_cases hm : (acc : Int) > 1000000000000
      · refine ev1 (fun k => ?_)
        rw [spec_ParseInt.l0, if_neg (by omega), if_pos hm]
        unfold pint; rw [hd]
        simp only
        rw [if_neg (fun q => by have := q.1; omega)]
      · have hm' : acc ≤ 1000000000000 := by omega
        refine Ev.step (f := fun k => (spec_FormatInt.f k (acc : Int)).bind fun t131 => (if t131.toList = s.toList then (some ((acc : Int), true)) else (some (0, false)))) (fun k => by rw [spec_ParseInt.l0, if_neg (by omega), if_neg hm]) (Ev.bind (fmt0 (by omega) (by omega)) ?_)
        refine ev_of (fun _ => ?_)
        have ef : (fmtB (acc : Int)).toList = Lib.decDigits acc := by
          unfold fmtB; rw [Lib.toList_data, itoa_nat]
        rw [ef, Lib.toList_data]
        unfold pint; rw [hd]
        simp only
        by_cases he : Lib.decDigits acc = s.data.toList
        · rw [if_pos he, if_pos ⟨hm', he⟩]
        · rw [if_neg he, if_neg (fun q => he q.2)]
    | succ d ih =>
      intro i acc h hd hb
      obtain ⟨c, hc1, hc2⟩ := bt_at s i (by omega)
      have hp : (10 : Nat) ^ i ≤ 10 ^ 13 := Nat.pow_le_pow_right (by decide) (by omega)
      have hp' : (10 : Nat) ^ 13 = 10000000000000 := by decide
      have hlt := UInt8.toNat_lt c
      have hget : s.data.toList[i]? = some c := by
        have : (s.data.toList.drop i)[0]? = some c := by rw [hc1]; rfl
        rwa [List.getElem?_drop, Nat.add_zero] at this
      by_cases hdig : 48 ≤ c.toNat ∧ c.toNat ≤ 57
      · have hv : Lib.digitVal c = some (c.toNat - 48) := by unfold Lib.digitVal; rw [if_pos hdig]
        have hn := Lib.decFrom_take _ i 0 acc c _ hd hget hv
        refine Ev.step (f := fun k => spec_ParseInt.l0 k s ((acc * 10 + (c.toNat - 48) : Nat) : Int) ((i + 1 : Nat) : Int)) (fun k => ?_) (ih (i + 1) _ (by omega) hn (by rw [Nat.pow_succ]; omega))
        rw [spec_ParseInt.l0, if_pos (by omega), if_pos (by omega), l_spec_l1In, Option.bind_some, hc2, wrap_in (x := (c.toNat : Int)) (by omega), if_pos (by simp; omega)]
        have e1 : ((c.toNat : Int) - 48) % 256 = (c.toNat : Int) - 48 := by omega
        rw [e1, wrap_in (x := 10 * (acc : Int)) (by omega), wrap_in (x := 10 * (acc : Int) + ((c.toNat : Int) - 48)) (by omega), wrap_in (x := (i : Int) + 1) (by omega)]
        congr 1
        omega
      · refine ev1 (fun k => ?_)
        rw [spec_ParseInt.l0, if_pos (by omega), if_pos (by omega), l_spec_l1In, Option.bind_some, hc2, wrap_in (x := (c.toNat : Int)) (by omega), if_neg (by simp; omega)]
        unfold pint
        cases hx : Lib.decFrom 0 s.data.toList with
        | none => rfl
        | some u =>
          obtain ⟨v, hv⟩ := Lib.digit_of_decFrom _ _ _ hx i c hget
          have := Lib.digitVal_eq hv
          omega
  exact h s.size 0 0 (by omega) rfl (by decide)
theorem e_spec_ParseOrigin (s : ByteArray) (hs : s.size ≤ 1048576) : Ev (fun k => spec_ParseOrigin.f k s) (parO s) := by
  have j3 : ∀ (x : Bool) (h : ByteArray) (p : Int), h.size ≤ 1048576 → Ev (fun k => spec_ParseOrigin.j3 k s x h p) (finO x h p s) := by
    intro x h p hh
    refine Ev.step (f := fun k => (spec_IsOrigin.f k x h p).bind fun t136 => (if t136 = true then ((spec_FormatOrigin.f k x h p).bind fun t137 => (if t137.toList = s.toList then (some (x, h, p, true)) else (some (false, (⟨#[]⟩ : ByteArray), 0, false)))) else (some (false, (⟨#[]⟩ : ByteArray), 0, false)))) (fun k => by rw [spec_ParseOrigin.j3]) ?_
    refine Ev.bind (e_spec_IsOrigin x h p hh) ?_
    unfold finO
    cases org h p with
    | false => simp only [Bool.false_eq_true, if_false]; exact Ev.now _
    | true =>
      simp only [if_true]
      refine Ev.bind (e_spec_FormatOrigin x h p hh) (ev_of fun _ => ?_)
      split <;> rfl
  have l0 : ∀ (x : Bool) (p : Int) (r : ByteArray), r.size ≤ 1048576 → ∀ d i : Nat, i + d = r.size → (∀ b ∈ r.data.toList.take i, b ≠ 58) → Ev (fun k => spec_ParseOrigin.l0 k s r (i : Int) x r p) (cutO x p r s) := by
    intro x p r hr d
    induction d with
    | zero =>
      intro i hi hb
      have hi' : i = r.size := by omega
      subst hi'
      rw [List.take_of_length_le (by rw [← Lib.size_eq]; exact Nat.le_refl _)] at hb
      unfold cutO
      rw [cut_no hb]
      simp only [Bool.false_eq_true, if_false]
      exact Ev.step (fun k => by rw [spec_ParseOrigin.l0, if_neg (by omega)]) (j3 x r p hr)
    | succ d ih =>
      intro i hi hb
      obtain ⟨c, hc1, hc2⟩ := bt_at r i (by omega)
      by_cases hc : c = 58
      · subst hc
        unfold cutO
        rw [cut_at hb hc1]
        simp only [if_true]
        have ex1 : r.extract (i + 1) r.size = ⟨(r.data.toList.drop (i + 1)).toArray⟩ := by
          rw [Lib.extract_eq, List.take_of_length_le (by rw [List.length_drop, ← Lib.size_eq]; exact Nat.le_refl _)]
        have ex0 : r.extract 0 i = ⟨(r.data.toList.take i).toArray⟩ := by
          rw [Lib.extract_eq]; simp
        have hsz1 : (⟨(r.data.toList.drop (i + 1)).toArray⟩ : ByteArray).size ≤ 1048576 := by
          rw [Lib.size_eq]; simp only [List.length_drop]; rw [← Lib.size_eq]; omega
        have hsz0 : (⟨(r.data.toList.take i).toArray⟩ : ByteArray).size ≤ 1048576 := by
          rw [Lib.size_eq]; simp only [List.length_take]; rw [← Lib.size_eq]; omega
        have hp := e_spec_ParseInt ⟨(r.data.toList.drop (i + 1)).toArray⟩ hsz1
        refine Ev.step (f := fun k => (spec_ParseInt.f k (⟨(r.data.toList.drop (i + 1)).toArray⟩ : ByteArray)).bind fun bt134 => (if bt134.2 = true then (spec_ParseOrigin.j3 k s x (⟨(r.data.toList.take i).toArray⟩ : ByteArray) bt134.1) else (some (false, (⟨#[]⟩ : ByteArray), 0, false)))) (fun k => ?_) (Ev.bind hp ?_)
        · rw [spec_ParseOrigin.l0, if_pos (by omega), if_pos (by omega), if_pos (by rw [hc2]; rfl), wrap_in (x := (i : Int) + 1) (by omega), if_pos (by omega), if_pos (by omega)]
          have e1 : ((i : Int) + 1).toNat = i + 1 := by omega
          have e0 : ((i : Int)).toNat = i := by omega
          rw [e1, e0, ex1, ex0]
          simp only [if_pos (show (i : Int) ≤ (r.size : Int) by omega)]
        · show Ev (fun k => if (pint (r.data.toList.drop (i + 1))).2 = true then (spec_ParseOrigin.j3 k s x (⟨(r.data.toList.take i).toArray⟩ : ByteArray) (pint (r.data.toList.drop (i + 1))).1) else (some (false, (⟨#[]⟩ : ByteArray), 0, false))) _
          cases hq : (pint (r.data.toList.drop (i + 1))).2 with
          | true => simp only [if_true]; exact j3 x _ _ hsz0
          | false => simp only [Bool.false_eq_true, if_false]; exact Ev.now _
      · have hne : ¬ bt r (i : Int) = 58 := by
          rw [hc2]
          intro e
          have h58 : (58 : UInt8).toNat = 58 := rfl
          exact hc (UInt8.toNat_inj.1 (by omega))
        refine Ev.step (f := fun k => spec_ParseOrigin.l0 k s r ((i + 1 : Nat) : Int) x r p) (fun k => ?_) (ih (i + 1) (by omega) ?_)
        · rw [spec_ParseOrigin.l0, if_pos (by omega), if_pos (by omega), if_neg hne, wrap_in (x := (i : Int) + 1) (by omega)]
          rfl
        · intro b hbm
          have hl : i < r.data.toList.length := by rw [← Lib.size_eq]; omega
          rw [List.take_succ_eq_append_getElem hl] at hbm
          rcases List.mem_append.1 hbm with h | h
          · exact hb b h
          · have hg : r.data.toList.drop i = r.data.toList[i] :: r.data.toList.drop (i + 1) := List.drop_eq_getElem_cons hl
            rw [hc1] at hg
            have := (List.cons.inj hg).1
            rw [List.mem_singleton] at h
            rw [h, ← this]; exact hc
  have j1 : ∀ (x : Bool) (p : Int) (r h : ByteArray), r.size ≤ 1048576 → Ev (fun k => spec_ParseOrigin.j1 k s r x h p) (cutO x p r s) := fun x p r h hr => Ev.step (fun k => by rw [spec_ParseOrigin.j1]; rfl) (l0 x p r hr r.size 0 (by omega) (by simp))
  have hz : ∀ x p, cutO x p (⟨#[]⟩ : ByteArray) s = (false, (⟨#[]⟩ : ByteArray), 0, false) := by
    intro x p
    have e : Lib.cut (⟨#[]⟩ : ByteArray).data.toList [58] = ([], [], false) := cut_no (by simp)
    unfold cutO
    rw [e]
    simp only [Bool.false_eq_true, if_false]
    exact fin_nil x p s
  have exd : ∀ n : Nat, s.extract n s.size = ⟨(s.data.toList.drop n).toArray⟩ := by
    intro n
    rw [Lib.extract_eq, List.take_of_length_le (by rw [List.length_drop, ← Lib.size_eq]; exact Nat.le_refl _)]
  have ext : ∀ n : Nat, (s.extract 0 n).toList = s.data.toList.take n := by
    intro n; rw [Lib.extract_toList]; simp
  have dsz : ∀ n : Nat, (⟨(s.data.toList.drop n).toArray⟩ : ByteArray).size ≤ 1048576 := by
    intro n
    rw [Lib.size_eq]
    simp only [List.length_drop]
    rw [← Lib.size_eq]; omega
  have nil8 : s.size ≤ 8 → s.data.toList.take 8 = hp8 → (⟨(s.data.toList.drop 8).toArray⟩ : ByteArray) = (⟨#[]⟩ : ByteArray) := by
    intro h _; rw [List.drop_eq_nil_of_le (by rw [← Lib.size_eq]; exact h)]
  have both : s.data.toList.take 8 = hp8 → ¬ s.data.toList.take 7 = hp7 := by
    intro h h'
    have : (s.data.toList.take 8).take 7 = s.data.toList.take 7 := by rw [List.take_take]; rfl
    rw [h, h'] at this
    exact absurd this (by decide)
  have z0 : (⟨#[]⟩ : ByteArray).size ≤ 1048576 := by show 0 ≤ _; omega
  have jF : Ev (fun k => spec_ParseOrigin.j0 k s (⟨#[]⟩ : ByteArray) false false (⟨#[]⟩ : ByteArray) 0) (if s.data.toList.take 7 = hp7 then cutO false 80 ⟨(s.data.toList.drop 7).toArray⟩ s else (false, (⟨#[]⟩ : ByteArray), 0, false)) := by
    by_cases h7 : (s.size : Int) > 7
    · by_cases he : s.data.toList.take 7 = hp7
      · rw [if_pos he]
        refine Ev.step (fun k => ?_) (j1 false 80 ⟨(s.data.toList.drop 7).toArray⟩ (⟨#[]⟩ : ByteArray) (dsz 7))
        rw [spec_ParseOrigin.j0, if_neg (by simp), if_pos h7, if_pos (by omega), if_pos (by omega), if_pos (by rw [ext]; exact he), exd]
      · rw [if_neg he]
        have := j1 false 0 (⟨#[]⟩ : ByteArray) (⟨#[]⟩ : ByteArray) z0
        rw [hz] at this
        refine Ev.step (fun k => ?_) this
        rw [spec_ParseOrigin.j0, if_neg (by simp), if_pos h7, if_pos (by omega), if_pos (by omega), if_neg (by rw [ext]; exact he)]
    · have e : (if s.data.toList.take 7 = hp7 then cutO false 80 ⟨(s.data.toList.drop 7).toArray⟩ s else (false, (⟨#[]⟩ : ByteArray), 0, false)) = (false, (⟨#[]⟩ : ByteArray), 0, false) := by
        have en : s.data.toList.drop 7 = [] := List.drop_eq_nil_of_le (by rw [← Lib.size_eq]; omega)
        rw [en]
        split
        · exact hz false 80
        · rfl
      rw [e]
      have := j1 false 0 (⟨#[]⟩ : ByteArray) (⟨#[]⟩ : ByteArray) z0
      rw [hz] at this
      refine Ev.step (fun k => ?_) this
      rw [spec_ParseOrigin.j0, if_neg (by simp), if_neg h7]
  have ep : parO s = (if s.data.toList.take 8 = hp8 then cutO true 443 ⟨(s.data.toList.drop 8).toArray⟩ s else (if s.data.toList.take 7 = hp7 then cutO false 80 ⟨(s.data.toList.drop 7).toArray⟩ s else (false, (⟨#[]⟩ : ByteArray), 0, false))) := by
    unfold parO
    have i7 := pre_take s.data.toList hp7
    have i8 := pre_take s.data.toList hp8
    have l7 : hp7.length = 7 := rfl
    have l8 : hp8.length = 8 := rfl
    rw [l7] at i7
    rw [l8] at i8
    by_cases h8 : s.data.toList.take 8 = hp8
    · rw [if_pos h8, if_neg (fun q => both h8 (i7.1 q)), if_pos (i8.2 h8)]
    · rw [if_neg h8]
      by_cases h7 : s.data.toList.take 7 = hp7
      · rw [if_pos h7, if_pos (i7.2 h7)]
      · rw [if_neg h7, if_neg (fun q => h7 (i7.1 q)), if_neg (fun q => h8 (i8.1 q))]
  rw [ep]
  unfold spec_ParseOrigin.f
  by_cases h8 : (s.size : Int) > 8
  · simp only [if_pos h8, if_pos (show (0 : Int) ≤ 8 by omega), if_pos (show (8 : Int) ≤ (s.size : Int) by omega), ext]
    by_cases he : s.data.toList.take 8 = hp8
    · rw [if_pos he]
      have eb : (s.data.toList.take 8 == ([104, 116, 116, 112, 115, 58, 47, 47] : List UInt8)) = true := beq_iff_eq.2 he
      simp only [eb]
      refine Ev.step (fun k => ?_) (j1 true 443 ⟨(s.data.toList.drop 8).toArray⟩ (⟨#[]⟩ : ByteArray) (dsz 8))
      rw [spec_ParseOrigin.j0, if_pos rfl, exd]
      repeat (first | rfl | rw [if_pos (by omega)])
    · rw [if_neg he]
      have eb : (s.data.toList.take 8 == ([104, 116, 116, 112, 115, 58, 47, 47] : List UInt8)) = false := beq_eq_false_iff_ne.2 he
      simp only [eb]
      exact jF
  · simp only [if_neg h8]
    by_cases he : s.data.toList.take 8 = hp8
    · rw [if_pos he, nil8 (by omega) he, hz]
      rw [if_neg (both he)] at jF
      exact jF
    · rw [if_neg he]; exact jF
theorem l_spec_IsValidKey (a : Int) : spec_IsValidKey.f a = some (vkey a) := by
  unfold spec_IsValidKey.f; rw [l_spec_l1In]; rfl
theorem l_spec_PublicKey (a : Int) : spec_PublicKey.f a = some (pubk a) := by
  unfold spec_PublicKey.f pubk; rw [l_spec_IsValidKey]; simp only [Option.bind_some]
  by_cases h : vkey a = true
  · rw [if_pos h, if_pos h]; have := of_decide_eq_true h; rw [wrap_in (by omega), tmod_of (by omega)]
  · rw [if_neg h, if_neg h]
theorem k_spec_l6Power : spec_l6Power.f 40 48271 2147483645 = some 1899818559 := by decide +kernel
theorem e_spec_l6Power : Ev (fun k => spec_l6Power.f k 48271 2147483645) 1899818559 := Ev.of (spec_l6Power.mono _ _) k_spec_l6Power
theorem e_spec_PrivateKey (p : Int) : Ev (fun k => spec_PrivateKey.f k p) (prvk p) := by
  unfold spec_PrivateKey.f prvk
  simp only [l_spec_l1In, Option.bind_some]
  by_cases h : vkey p = true
  · have hr := of_decide_eq_true h
    simp only [if_pos h, if_pos (show decide (1 ≤ p ∧ p ≤ 2147483646) = true from h)]
    refine Ev.bind e_spec_l6Power ?_
    have hm := mul_bd (show 0 ≤ p by omega) hr.2 (show (0 : Int) ≤ 1899818559 by omega) (Int.le_refl _)
    rw [wrap_in (x := p * 1899818559) (by omega), tmod_of (by omega)]
    simp only [l_spec_PublicKey, Option.bind_some]
    have e : pubk (p * 1899818559 % 2147483647) = p := by
      have := pubk_prvk h; unfold prvk at this; rw [if_pos h] at this; exact this
    simp only [e, if_true]; exact Ev.now _
  · simp only [if_neg h, if_neg (show ¬ decide (1 ≤ p ∧ p ≤ 2147483646) = true from h)]; exact Ev.now _
theorem e_spec_SignMessage (p : Int) (m : List Int) (h : m.length < 17592186040000) : Ev (fun k => spec_SignMessage.f k p m) (sgn p m) := by
  unfold spec_SignMessage.f sgn
  simp only [l_spec_IsValidKey, Option.bind_some]
  by_cases hv : vkey p = true
  · simp only [if_pos hv]
    simp only [if_pos (show ([139, (m.length : Int)] : List Int).length + m.length < 17592186044416 by simp; omega)]
    exact Ev.bind (e_spec_KeyedHash _ _ (by simp; omega)) (ev_now rfl)
  · simp only [if_neg hv]; exact Ev.now _
theorem e_spec_VerifySignature (p : Int) (m : List Int) (s : Int) (hm : m.length < 17592186040000) : Ev (fun k => spec_VerifySignature.f k p m s) (vfy p m s) := by
  unfold spec_VerifySignature.f vfy
  refine Ev.bind (e_spec_PrivateKey p) ?_
  by_cases h : prvk p = 0
  · simp only [if_pos h]; exact Ev.now _
  · simp only [if_neg h]; exact Ev.bind (e_spec_SignMessage _ _ hm) (Ev.now _)
theorem e_spec_CheckAssertion (pub : Int) (s o : ByteArray) (ch n : Int) (pr : Bool) (c sg : Int) (site : ByteArray) (wch cnt : Int) (hs : s.size ≤ 1048576) (ho : o.size ≤ 1048576) (hi : site.size ≤ 1048576) : Ev (fun k => spec_CheckAssertion.f k pub s o ch n pr c sg site wch cnt) (cka pub s o ch n pr c sg site wch cnt) := by
  have hl : (amsg s o ch n pr).length = 6 := rfl
  have j0 : ∀ b, Ev (fun k => spec_CheckAssertion.j0 k pub wch cnt b s o ch n pr c sg) (ckj b pub s o ch n pr c sg wch cnt) := by
    intro b
    unfold ckj
    by_cases hb : b = true
    · rw [if_pos hb]; exact ev1 (fun k => by rw [spec_CheckAssertion.j0, if_pos hb])
    rw [if_neg hb]
    by_cases hp : pr = true
    rotate_left
    · rw [if_neg hp]; exact ev1 (fun k => by rw [spec_CheckAssertion.j0, if_neg hb, if_neg hp])
    rw [if_pos hp]
    by_cases hc : ch = wch
    rotate_left
    · rw [if_neg hc]; exact ev1 (fun k => by rw [spec_CheckAssertion.j0, if_neg hb, if_pos hp, if_neg hc])
    rw [if_pos hc]
    refine Ev.step (f := fun k => (spec_AssertionMessage.f k s o ch n pr c sg).bind fun t306 => ((some (([c] : List Int) : List Int)).bind fun y309 => (if t306.length + y309.length < 17592186044416 then ((spec_VerifySignature.f k pub (t306 ++ y309) sg).bind fun t315 => (if t315 = true then (if c ≤ cnt then (some 4) else (some 0)) else (some 5))) else (none)))) (fun k => by rw [spec_CheckAssertion.j0, if_neg hb, if_pos hp, if_pos hc]) ?_
    refine Ev.bind (e_spec_AssertionMessage s o ch n pr c sg (by omega) (by omega)) ?_
    simp only [Option.bind_some, if_pos (show (amsg s o ch n pr).length + [c].length < 17592186044416 by rw [hl]; simp)]
    refine Ev.bind (e_spec_VerifySignature pub _ sg (by rw [List.length_append, hl]; simp)) (ev_of fun _ => ?_)
    split
    · split <;> rfl
    · rfl
  unfold spec_CheckAssertion.f cka ckb
  refine Ev.bind (e_spec_ParseOrigin o ho) ?_
  by_cases h1 : s.toList = site.toList
  · simp only [if_pos h1]
    by_cases h2 : (parO o).2.2.2 = true
    · simp only [if_pos h2]
      have hz := parO_ok h2
      exact Ev.bind (e_spec_MayUse _ _ _ site (by omega) hi) (j0 _)
    · simp only [if_neg h2]; exact j0 true
  · simp only [if_neg h1]; exact j0 true
theorem p_FnExactCheckAssertion (pub : Int) (s o : ByteArray) (ch n : Int) (pr : Bool) (c sg : Int) (site : ByteArray) (wch cnt : Int) (_ : (Lit.int .i64 pub).wf = true) (h0 : s.size ≤ 9223372036854775807) (h1 : o.size ≤ 9223372036854775807) (_ : (Lit.int .i64 ch).wf = true) (_ : (Lit.int .i64 n).wf = true) (_ : True) (_ : (Lit.int .i64 c).wf = true) (_ : (Lit.int .i64 sg).wf = true) (_ : site.size ≤ 9223372036854775807) (_ : (Lit.int .i64 wch).wf = true) (_ : (Lit.int .i64 cnt).wf = true) :
    ∃ k, laws_FnExactCheckAssertion.f k pub s o ch n pr c sg site wch cnt = some true := by
  refine ev_k ?_
  unfold laws_FnExactCheckAssertion.f laws_toAssertion.f
  by_cases hb : (site.size : Int) > 1048576
  · exact ev_of (fun k => by rw [if_pos hb])
  simp only [if_neg hb]
  rcases l_laws_szAssertion s o ch n pr c sg 1048576 h0 h1 (by omega) with ⟨r, e, hr⟩ | ⟨e, hr⟩
  · rw [e]; simp only [Option.bind_some, if_pos hr]; exact Ev.now _
  · rw [e]; simp only [Option.bind_some]; simp only [if_neg (show ¬ (1048576 : Int) - s.size - o.size < 0 by omega)]
    refine Ev.bind (e_spec_CheckAssertion pub s o ch n pr c sg site wch cnt (by omega) (by omega) (by omega)) (Ev.bind (e_impl_CheckAssertion pub s o ch n pr c sg site wch cnt (by omega) (by omega) (by omega)) ?_)
    simp only [if_true]
    exact Ev.now _
end Go.Proofs.YtogcoedmagoogaaGreatDoor.SFnExactCheckAssertion

