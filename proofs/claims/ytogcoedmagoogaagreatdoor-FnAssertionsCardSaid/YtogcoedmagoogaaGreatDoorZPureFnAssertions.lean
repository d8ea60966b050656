/- Helping lemmas of the law FnAssertions, in so far as it needs them; conditions: each lemma's own. -/
import Derived.Test.YtogcoedmagoogaaGreatDoorZPFnAssertionsx10
import Derived.Test.YtogcoedmagoogaaGreatDoorZMt
import Derived.Lib.ItoaNum
namespace Go.Proofs.YtogcoedmagoogaaGreatDoor.SFnAssertions
open Go.RowKit Go.Proofs.YtogcoedmagoogaaGreatDoor.PFnAssertions Go.Proofs.YtogcoedmagoogaaGreatDoorW.PrintWords Go.Proofs.YtogcoedmagoogaaGreatDoorW.PrintLast Go.Proofs.YtogcoedmagoogaaGreatDoor.Mt
set_option linter.unusedVariables false
set_option linter.unusedSimpArgs false
theorem l_laws_big (L : List Int) : laws_big.f L = some (decide ((L.length : Int) > 1048576)) := rfl
theorem u8_bd {x : Int} (h : (Lit.int .u8 x).wf = true) : 0 ≤ x ∧ x ≤ 255 := bounds_u8 h
theorem tmod_bd' {a m : Int} (ha : 0 ≤ a) (hm : 0 < m) : 0 ≤ Int.tmod a m ∧ Int.tmod a m < m := by
  rw [tmod_of ha]; exact ⟨Int.emod_nonneg _ (by omega), Int.emod_lt_of_pos _ hm⟩
theorem d_laws_at (L : List Int) (i : Int) (h0 : 0 ≤ i) (h1 : i ≤ 1000) (hL : L.length ≤ 1048576) (hw : ∀ x ∈ L, (Lit.int .u8 x).wf = true) : ∃ t, laws_at.f L i = some t ∧ 0 ≤ t ∧ t ≤ 255 := by
  unfold laws_at.f
  by_cases h : i < (L.length : Int)
  · rw [if_pos h, if_pos h0]
    obtain ⟨n, rfl⟩ := Int.eq_ofNat_of_zero_le h0
    have hn : n < L.length := by omega
    have hr : rd L ((n : Nat) : Int) = L[n] := rd_in hn
    have hb := u8_bd (hw _ (List.getElem_mem hn))
    rw [hr, wrap_in (by omega)]
    exact ⟨_, rfl, hb.1, hb.2⟩
  · rw [if_neg h]
    have hlen : 0 ≤ (L.length : Int) := by omega
    rw [wrap_in (x := i * 31) (by omega), wrap_in (x := (L.length : Int) * 7) (by omega), wrap_in (x := i * 31 + (L.length : Int) * 7) (by omega)]
    have := tmod_bd' (a := i * 31 + (L.length : Int) * 7) (m := 256) (by omega) (by omega)
    exact ⟨_, rfl, this.1, by omega⟩
theorem l_impl_orOne (x : Int) : impl_orOne.f x = some (one x) := by
  unfold impl_orOne.f one; split <;> rfl
theorem e_impl_joined_l0 (ls : List (List Int)) (hn : ls.length < 20000000000000) : ∀ (d i : Nat) (acc : List Int), i + d = ls.length → acc.length + (ls.drop i).flatten.length < 17592186044416 → Ev (fun k => impl_joined.l0 k acc ls (ls.length : Int) (i : Int)) (acc ++ (ls.drop i).flatten)
  | 0, i, acc, hd, _ => by
    refine Ev.step (f := fun _ => some acc) (fun k => ?_) (ev_now ?_)
    · rw [impl_joined.l0, if_neg (by omega)]
    · rw [drop_end (by omega)]; simp
  | d + 1, i, acc, hd, hs => by
    have hi : i < ls.length := by omega
    rw [drop_at hi, List.flatten_cons, List.length_append] at hs
    have hr : rd_L2 ls (i : Int) = ls[i] := by simp [rd_L2, List.getD, List.getElem?_eq_getElem hi]
    refine Ev.step (f := fun k => impl_joined.l0 k (acc ++ ls[i]) ls (ls.length : Int) ((i + 1 : Nat) : Int)) (fun k => ?_) ?_
    · rw [impl_joined.l0, hr, if_pos (by omega), if_pos (by omega), if_pos (by omega), if_pos (by omega), wrap_in (x := (i : Int) + 1) (by omega)]; rfl
    · rw [drop_at hi, List.flatten_cons, ← List.append_assoc]
      exact e_impl_joined_l0 ls hn d (i + 1) _ (by omega) (by rw [List.length_append]; omega)
theorem e_impl_joined (l : List Int) (ls : List (List Int)) (hn : ls.length < 20000000000000) (hs : l.length + ls.flatten.length < 17592186044416) : Ev (fun k => impl_joined.f k l ls) (l ++ ls.flatten) := by
  refine Ev.congr (f := fun k => impl_joined.l0 k l ls (ls.length : Int) ((0 : Nat) : Int)) (fun k => ?_) (e_impl_joined_l0 ls hn ls.length 0 l (by omega) hs)
  unfold impl_joined.f; simp only [Option.bind_some]
  rw [if_pos (by first | omega | (simp; omega))]; rfl
theorem k_impl_Mod (a m : Int) (k : Nat) : impl_Mod.f (k + 1) a m = some (md a m) := by
  unfold impl_Mod.f
  by_cases h1 : m < 1
  · rw [if_pos h1, impl_Mod.j0, if_pos rfl]; unfold md; rw [if_neg (by omega)]
  · rw [if_neg h1, impl_Mod.j0]
    by_cases h2 : m > 1000000000000
    · rw [if_pos (decide_eq_true h2)]; unfold md; rw [if_neg (by omega)]
    · rw [if_neg (by simpa using h2), if_neg (by omega), md_in _ (by omega) (by omega)]
      have hb := tmod_bd (a := a) (m := m) (by omega)
      have hn := tmod_neg_iff (a := a) (m := m) (by omega)
      by_cases h3 : Int.tmod a m < 0
      · rw [if_pos h3] at hn; rw [if_pos h3, wrap_in (by omega), hn]
      · rw [if_neg h3] at hn; rw [if_neg h3, hn]
theorem e_impl_Mod (a m : Int) : Ev (fun k => impl_Mod.f k a m) (md a m) := Ev.step (fun k => k_impl_Mod a m k) (Ev.now _)
theorem e_impl_Hash_l0 (l : List Int) (hl : l.length < 20000000000000) : ∀ (d i : Nat) (h : Int), i + d = l.length → 0 ≤ h → h < 2147483647 → Ev (fun k => impl_Hash.l0 k h l (l.length : Int) (i : Int)) ((l.drop i).foldl hstep h)
  | 0, i, h, hd, _, _ => by
    refine Ev.step (f := fun _ => some h) (fun k => ?_) (ev_now ?_)
    · rw [impl_Hash.l0, if_neg (by omega)]
    · rw [drop_end (by omega)]; rfl
  | d + 1, i, h, hd, h0, h1 => by
    have hi : i < l.length := by omega
    refine Ev.step (f := fun k => (impl_Mod.f k l[i] 2147483647).bind fun t => impl_Hash.l0 k (Int.tmod (wrap64 ((wrap64 ((wrap64 (h * 1000003)) + t)) + 13)) 2147483647) l (l.length : Int) ((i + 1 : Nat) : Int)) (fun k => ?_) ?_
    · rw [impl_Hash.l0, if_pos (by omega), if_pos (by omega), if_pos (by omega), rd_in hi, wrap_in (x := (i : Int) + 1) (by omega)]; rfl
    · refine Ev.bind (e_impl_Mod _ _) ?_
      rw [md_in _ (by omega) (by omega), step_wrap h0 h1, drop_at hi, List.foldl_cons]
      exact e_impl_Hash_l0 l hl d (i + 1) _ (by omega) (step_bd _ _).1 (step_bd _ _).2
theorem e_impl_Hash (l : List Int) (hl : l.length < 20000000000000) : Ev (fun k => impl_Hash.f k l) (hsh l) :=
  e_impl_Hash_l0 l hl l.length 0 11 (by omega) (by omega) (by omega)
theorem e_impl_KeyedHash (key : Int) (l : List Int) (h : l.length < 17592186044000) : Ev (fun k => impl_KeyedHash.f k key l) (kh key l) := by
  unfold impl_KeyedHash.f
  refine Ev.bind (e_impl_joined _ _ (by simp) (by first | omega | (simp; omega))) ?_
  refine Ev.bind (e_impl_Hash _ (by first | omega | (simp; omega))) ?_
  exact ev_now (by simp [kh])
theorem e_impl_BytesToInts (l : List Int) (hl : l.length < 17592186000000) (hw : ∀ x ∈ l, 0 ≤ x ∧ x ≤ 255) : Ev (fun k => impl_BytesToInts.f k l) ((l.length : Int) :: l) := by
  have h : ∀ (d i : Nat) (acc : List Int), i + d = l.length → acc.length = i + 1 → Ev (fun k => impl_BytesToInts.l0 k acc l (l.length : Int) (i : Int)) (acc ++ l.drop i) := by
    intro d
    induction d with
    | zero => intro i acc h _; rw [drop_end (by omega), List.append_nil]; exact ev1 fun k => by rw [impl_BytesToInts.l0, if_neg (by omega)]
    | succ d ih =>
      intro i acc h ha
      have hi : i < l.length := by omega
      have hx := hw l[i] (List.getElem_mem hi)
      have hr := ih (i + 1) (acc ++ [l[i]]) (by omega) (by simp; omega)
      rw [List.append_assoc, List.singleton_append, ← drop_at hi] at hr
      refine Ev.step (fun k => ?_) hr
      rw [impl_BytesToInts.l0, if_pos (by omega), if_pos (by omega), if_pos (by omega), if_pos (by omega), rd_in hi, wrap_in (x := l[i]) (by omega), wrap_in (by omega)]; rfl
  exact h l.length 0 [(l.length : Int)] (by omega) (by simp)
theorem e_impl_DeriveFromString (key : Int) (s : ByteArray) (hs : s.size < 17592180000000) : Ev (fun k => impl_DeriveFromString.f k key s) (dfs key s) := by
  unfold impl_DeriveFromString.f
  simp only [if_pos (show s.size < 17592186044416 by omega)]
  refine Ev.bind (e_impl_BytesToInts _ (by rw [bytesOf_length]; omega) bytesOf_rng) (Ev.bind (e_impl_KeyedHash _ _ (by rw [List.length_cons, bytesOf_length]; omega)) (ev_of fun _ => ?_))
  rw [l_impl_orOne]; rfl
theorem e_impl_SiteHash (s : ByteArray) (hs : s.size < 17592180000000) : Ev (fun k => impl_SiteHash.f k s) (dfs 173 s) := by
  unfold impl_SiteHash.f
  exact Ev.bind (e_impl_DeriveFromString _ _ hs) (Ev.now _)
theorem l_impl_bit (p : Bool) : impl_bit.f p = some (if p = true then 1 else 0) := by
  unfold impl_bit.f; split <;> rfl
theorem e_impl_AssertionMessage (s o : ByteArray) (a b : Int) (p : Bool) (c d : Int) (hs : s.size < 17592180000000) (ho : o.size < 17592180000000) : Ev (fun k => impl_AssertionMessage.f k s o a b p c d) (amsg s o a b p) := by
  unfold impl_AssertionMessage.f amsg
  refine Ev.bind (e_impl_SiteHash s hs) (Ev.bind (e_impl_DeriveFromString _ o ho) (ev_of fun _ => ?_))
  rw [l_impl_bit]; rfl
def okc (c : Int) : Bool := (decide (97 ≤ c) && decide (c ≤ 122)) || (decide (48 ≤ c) && decide (c ≤ 57)) || decide (c = 45)
def okl (s : ByteArray) (d i : Nat) : Bool := srch (fun j => !okc (bt s j)) (fun _ => false) true d i
def ends (s : ByteArray) : Bool := decide (1 ≤ (s.size : Int) ∧ (s.size : Int) ≤ 20) && (!decide (bt s 0 = 45) && (bt s ((s.size : Int) - 1) != 45))
def vlb (s : ByteArray) : Bool := okl s s.size 0 && ends s
def vhost (s : ByteArray) : Bool := (Man.labB s).all vlb && decide ((s.size : Int) ≤ 60)
theorem okl_cases (s : ByteArray) (d i : Nat) : okl s (d + 1) i = if okc (bt s i) = true then okl s d (i + 1) else false := by
  unfold okl
  conv => lhs; unfold srch
  cases okc (bt s i) <;> simp
theorem okc_tree {α : Type} (c : Int) (A B : α) : (if c ≥ 97 then (if c ≤ 122 then A else (if c ≥ 48 then (if c ≤ 57 then A else (if (c = 45) then A else B)) else (if (c = 45) then A else B))) else (if c ≥ 48 then (if c ≤ 57 then A else (if (c = 45) then A else B)) else (if (c = 45) then A else B))) = if okc c = true then A else B := by
  unfold okc
  by_cases h1 : 97 ≤ c <;> by_cases h2 : c ≤ 122 <;> by_cases h3 : 48 ≤ c <;> by_cases h4 : c ≤ 57 <;> by_cases h5 : c = 45 <;> simp [h1, h2, h3, h4, h5]
theorem bt_at (s : ByteArray) (i : Nat) (h : i < s.size) : ∃ c : UInt8, s.data.toList.drop i = c :: s.data.toList.drop (i + 1) ∧ bt s (i : Int) = (c.toNat : Int) := by
  have hl : i < s.data.toList.length := by rw [← Lib.size_eq]; exact h
  refine ⟨s.data.toList[i], List.drop_eq_getElem_cons hl, ?_⟩
  unfold bt
  have e : ((i : Nat) : Int).toNat = i := by omega
  rw [dif_pos (by rw [e]; exact h)]
  rfl
theorem l_strings_Split (s : ByteArray) (hs : s.size < 4294967281) : strings_Split.f s ⟨#[46]⟩ = some (Man.labB s) := by
  unfold strings_Split.f
  rw [if_pos ⟨rfl, hs⟩]
theorem lab_ne (q : List UInt8) : Man.lab q ≠ [] := by
  cases q with
  | nil => simp [Man.lab]
  | cons c t => unfold Man.lab; split
                · simp
                · split <;> simp
theorem labB_small (s : ByteArray) (b : ByteArray) (h : b ∈ Man.labB s) : b.size ≤ s.size := by
  have hm : ∀ l : List UInt8, ∀ x ∈ Man.lab l, x.length ≤ l.length := by
    intro l
    induction l with
    | nil => intro x hx; simp [Man.lab] at hx; subst hx; simp
    | cons c t ih =>
      intro x hx
      unfold Man.lab at hx
      split at hx
      · rcases List.mem_cons.1 hx with rfl | h
        · simp
        · have := ih x h; simp; omega
      · split at hx
        · rename_i a b e
          rcases List.mem_cons.1 hx with rfl | h
          · have := ih a (by rw [e]; exact List.mem_cons_self); simp; omega
          · have := ih x (by rw [e]; exact List.mem_cons_of_mem _ h); simp; omega
        · simp at hx; subst hx; simp
  have h1 : b.data.toList ∈ Man.lab s.data.toList := by rw [← Man.labB_data]; exact List.mem_map.2 ⟨b, h, rfl⟩
  have := hm _ _ h1
  rw [Lib.size_eq, Lib.size_eq]; exact this
theorem labB_count (s : ByteArray) : (Man.labB s).length ≤ s.size + 1 := by
  rw [Man.labB_len]
  have := Lib.countB_le ⟨#[46]⟩ (by decide) s.size s (Nat.le_refl _)
  omega
theorem e_impl_IsHost (s : ByteArray) : Ev (fun k => impl_IsHost.f k s) (vhost s) := by
  unfold impl_IsHost.f
  by_cases h60 : (s.size : Int) > 60
  · refine ev_of (fun k => ?_)
    rw [if_pos h60]
    unfold vhost
    rw [decide_eq_false (show ¬ (s.size : Int) ≤ 60 by omega), Bool.and_false]
  simp only [if_neg h60]
  rw [show vhost s = (Man.labB s).all vlb by unfold vhost; rw [decide_eq_true (show (s.size : Int) ≤ 60 by omega), Bool.and_true]]
  rw [l_strings_Split s (by omega)]
  simp only [Option.bind_some]
  have hb := labB_small s
  have hcnt := labB_count s
  generalize Man.labB s = ls at hb hcnt
  have h : ∀ d i : Nat, i + d = ls.length → Ev (fun k => impl_IsHost.l0 k ls (ls.length : Int) (i : Int)) ((ls.drop i).all vlb) := by
    intro d
    induction d with
    | zero =>
      intro i h
      refine ev1 (fun k => ?_)
      rw [impl_IsHost.l0, if_neg (by omega), drop_end (by omega)]; simp
    | succ d ih =>
      intro i h
      have hi : i < ls.length := by omega
      have er : rdOf ByteArray.empty ls (i : Int) = ls[i] := rdOf_in _ hi
      have hsz : ls[i].size ≤ s.size := hb _ (List.getElem_mem hi)
      rw [drop_at hi, List.all_cons]
      have hnext := ih (i + 1) (by omega)
      generalize (ls.drop (i + 1)).all vlb = rest at hnext
      generalize ls[i] = b at er hsz
      have hloop : ∀ d j : Nat, j + d = b.size → Ev (fun k => impl_IsHost.l1 k b (j : Int) ls (ls.length : Int) (i : Int)) (okl b d j && rest) := by
        intro d
        induction d with
        | zero =>
          intro j hj
          have e : (okl b 0 j && rest) = rest := by simp [okl, srch]
          rw [e]
          refine Ev.step (fun k => ?_) hnext
          rw [impl_IsHost.l1, if_neg (by omega), wrap_in (by omega)]; rfl
        | succ d ihd =>
          intro j hj
          have e0 : ∀ k, impl_IsHost.l1 (k + 1) b (j : Int) ls (ls.length : Int) (i : Int) = if okc (bt b j) = true then impl_IsHost.l1 k b ((j + 1 : Nat) : Int) ls (ls.length : Int) (i : Int) else some false := by
            intro k
            rw [impl_IsHost.l1, if_pos (show (j : Int) < b.size by omega), if_pos (show (0 : Int) ≤ j by omega), wrap_in (by omega), okc_tree]
            rfl
          rw [okl_cases]
          by_cases hc : okc (bt b j) = true
          · rw [if_pos hc]
            exact Ev.step (fun k => by rw [e0, if_pos hc]) (ihd (j + 1) (by omega))
          · rw [if_neg hc]
            exact ev1 (fun k => by rw [e0, if_neg hc]; rfl)
      have hj1 : ∀ x : Bool, Ev (fun k => impl_IsHost.j1 k b ls (ls.length : Int) (i : Int) x) (if x = true then false else (okl b b.size 0 && rest)) := by
        intro x
        cases x with
        | true => exact ev1 (fun k => by rw [impl_IsHost.j1, if_pos rfl]; rfl)
        | false =>
          refine Ev.step (f := fun k => impl_IsHost.l1 k b 0 ls (ls.length : Int) (i : Int)) (fun k => ?_) ?_
          · rw [impl_IsHost.j1, if_neg (by simp)]
          · simpa using hloop b.size 0 (by omega)
      by_cases h1 : (b.size : Int) < 1
      · refine Ev.step (f := fun k => impl_IsHost.j1 k b ls (ls.length : Int) (i : Int) true) (fun k => ?_) ?_
        · rw [impl_IsHost.l0, if_pos (by omega), if_pos (by omega), if_pos (by omega), er, if_pos h1]
        · have e : (vlb b && rest) = false := by unfold vlb ends; rw [decide_eq_false (by omega)]; simp
          rw [e]; exact hj1 true
      by_cases h2 : (b.size : Int) > 20
      · refine Ev.step (f := fun k => impl_IsHost.j1 k b ls (ls.length : Int) (i : Int) true) (fun k => ?_) ?_
        · rw [impl_IsHost.l0, if_pos (by omega), if_pos (by omega), if_pos (by omega), er, if_neg h1, if_pos h2]
        · have e : (vlb b && rest) = false := by unfold vlb ends; rw [decide_eq_false (by omega)]; simp
          rw [e]; exact hj1 true
      by_cases h3 : bt b 0 = 45
      · refine Ev.step (f := fun k => impl_IsHost.j1 k b ls (ls.length : Int) (i : Int) true) (fun k => ?_) ?_
        · rw [impl_IsHost.l0, if_pos (by omega), if_pos (by omega), if_pos (by omega), er, if_neg h1, if_neg h2, if_pos (by omega), if_pos h3]
        · have e : (vlb b && rest) = false := by unfold vlb ends; rw [decide_eq_true h3]; simp
          rw [e]; exact hj1 true
      refine Ev.step (f := fun k => impl_IsHost.j1 k b ls (ls.length : Int) (i : Int) (bt b ((b.size : Int) - 1) == 45)) (fun k => ?_) ?_
      · rw [impl_IsHost.l0, if_pos (by omega), if_pos (by omega), if_pos (by omega), er, if_neg h1, if_neg h2, if_pos (by omega), if_neg h3, wrap_in (by omega), if_pos (show 0 ≤ (b.size : Int) - 1 by omega), if_pos (show (b.size : Int) - 1 < b.size by omega)]
      · have e : (vlb b && rest) = (if (bt b ((b.size : Int) - 1) == 45) = true then false else (okl b b.size 0 && rest)) := by
          unfold vlb ends
          rw [decide_eq_true (show 1 ≤ (b.size : Int) ∧ (b.size : Int) ≤ 20 by omega), decide_eq_false h3]
          by_cases h4 : bt b ((b.size : Int) - 1) = 45
          · rw [h4]; simp
          · have h5 : (bt b ((b.size : Int) - 1) != 45) = true := bne_iff_ne.2 h4
            have h6 : (bt b ((b.size : Int) - 1) == 45) = false := beq_eq_false_iff_ne.2 h4
            rw [h5, h6]; simp
        rw [e]; exact hj1 _
  have := h ls.length 0 (by omega)
  simpa using this
theorem l_impl_InRange (a0 a1 a2 : Int) : impl_InRange.f a0 a1 a2 = some (decide (a1 ≤ a0 ∧ a0 ≤ a2)) := by
  unfold impl_InRange.f
  by_cases h : a1 ≤ a0
  · rw [if_pos h]; simp [h]
  · rw [if_neg h]; simp [h]
def org (h : ByteArray) (p : Int) : Bool := vhost h && decide (1 ≤ p ∧ p ≤ 65535)
theorem e_impl_IsOrigin (c : Bool) (h : ByteArray) (p : Int) : Ev (fun k => impl_IsOrigin.f k c h p) (org h p) := by
  unfold impl_IsOrigin.f org
  refine Ev.bind (e_impl_IsHost h) ?_
  cases vhost h with
  | true => simp only [if_true, l_impl_InRange, Option.bind_some, Bool.true_and]; exact Ev.now _
  | false => simp only [Bool.false_eq_true, if_false, Bool.false_and]; exact Ev.now _
def fmtB (n : Int) : ByteArray := ⟨(Lib.itoa n).toArray⟩
theorem l_strconv_Itoa {n : Int} (h0 : -9223372036854775808 ≤ n) (h1 : n ≤ 9223372036854775807) : strconv_Itoa.f n = some (fmtB n) := by
  unfold strconv_Itoa.f
  rw [if_pos ⟨h0, h1⟩]; rfl
theorem digits_len : ∀ u : Nat, (Lib.decDigits u).length ≤ u + 1 := by
  intro u
  induction u using Nat.strongRecOn with
  | _ u ih =>
    rw [Lib.decDigits]
    split
    · simp
    · have := ih (u / 10) (by omega)
      simp; omega
theorem fmtB_len {n : Int} (h : 0 ≤ n) : (fmtB n).size ≤ n.toNat + 1 := by
  have e : (fmtB n).size = (Lib.decDigits n.toNat).length := by
    unfold fmtB Lib.itoa
    rw [if_neg (by omega)]
    show ((Lib.decDigits n.toNat).toArray).size = _
    simp
  rw [e]; exact digits_len _
theorem l_impl_FormatInt {n : Int} (h0 : -9223372036854775808 ≤ n) (h1 : n ≤ 9223372036854775807) : impl_FormatInt.f n = some (fmtB n) := by
  unfold impl_FormatInt.f; rw [l_strconv_Itoa h0 h1]; rfl
def fmo (c : Bool) (h : ByteArray) (p : Int) : ByteArray := if org h p = true then (if c = true then (if p = 443 then ((⟨#[104, 116, 116, 112, 115, 58, 47, 47]⟩ : ByteArray) ++ h) else ((((⟨#[104, 116, 116, 112, 115, 58, 47, 47]⟩ : ByteArray) ++ h) ++ (⟨#[58]⟩ : ByteArray)) ++ fmtB p)) else (if p = 80 then ((⟨#[104, 116, 116, 112, 58, 47, 47]⟩ : ByteArray) ++ h) else ((((⟨#[104, 116, 116, 112, 58, 47, 47]⟩ : ByteArray) ++ h) ++ (⟨#[58]⟩ : ByteArray)) ++ fmtB p))) else (⟨#[]⟩ : ByteArray)
theorem org_port {h : ByteArray} {p : Int} (e : org h p = true) : 1 ≤ p ∧ p ≤ 65535 := by
  unfold org at e; simp only [Bool.and_eq_true, decide_eq_true_eq] at e; exact e.2
theorem s8 (h : ByteArray) : ((⟨#[104, 116, 116, 112, 115, 58, 47, 47]⟩ : ByteArray) ++ h).size = 8 + h.size := by rw [ByteArray.size_append]; rfl
theorem s7 (h : ByteArray) : ((⟨#[104, 116, 116, 112, 58, 47, 47]⟩ : ByteArray) ++ h).size = 7 + h.size := by rw [ByteArray.size_append]; rfl
theorem s1 (h : ByteArray) : (h ++ (⟨#[58]⟩ : ByteArray)).size = h.size + 1 := by rw [ByteArray.size_append]; rfl
theorem e_impl_FormatOrigin (c : Bool) (h : ByteArray) (p : Int) (hs : h.size ≤ 1048576) : Ev (fun k => impl_FormatOrigin.f k c h p) (fmo c h p) := by
  unfold impl_FormatOrigin.f fmo
  refine Ev.bind (e_impl_IsOrigin c h p) ?_
  cases ho : org h p with
  | false => simp only [Bool.false_eq_true, if_false]; exact Ev.now _
  | true =>
  have hp := org_port ho
  have hl := fmtB_len (n := p) (by omega)
  rw [l_impl_FormatInt (by omega) (by omega)]
  simp only [if_true, Option.bind_some]
  cases c with
  | true =>
    simp only [if_true]
    by_cases h4 : p = 443
    · simp only [if_pos h4, if_pos (show 8 + h.size ≤ 9223372036854775807 by omega)]; exact Ev.now _
    · simp only [if_neg h4, s1, s8, if_pos (show 8 + h.size ≤ 9223372036854775807 by omega), if_pos (show 8 + h.size + 1 ≤ 9223372036854775807 by omega), if_pos (show 8 + h.size + 1 + (fmtB p).size ≤ 9223372036854775807 by omega)]
      exact Ev.now _
  | false =>
    simp only [Bool.false_eq_true, if_false]
    by_cases h4 : p = 80
    · simp only [if_pos h4, if_pos (show 7 + h.size ≤ 9223372036854775807 by omega)]; exact Ev.now _
    · simp only [if_neg h4, s1, s7, if_pos (show 7 + h.size ≤ 9223372036854775807 by omega), if_pos (show 7 + h.size + 1 ≤ 9223372036854775807 by omega), if_pos (show 7 + h.size + 1 + (fmtB p).size ≤ 9223372036854775807 by omega)]
      exact Ev.now _
def sfx (h s : ByteArray) : Bool := decide (1 + s.size ≤ h.size) && (decide (h.data.toList.drop (h.size - s.size) = s.data.toList) && (bt h ((h.size : Int) - (s.size : Int) - 1) == 46))
def muse (c : Bool) (h : ByteArray) (p : Int) (s : ByteArray) : Bool := org h p && (c && (vhost s && (decide (2 ≤ (Man.labB s).length) && (decide (h.toList = s.toList) || sfx h s))))
theorem extract_end (h : ByteArray) (a : Nat) : (h.extract a h.size).toList = h.data.toList.drop a := by
  rw [Lib.extract_toList]
  exact List.take_of_length_le (by rw [List.length_drop, ← Lib.size_eq]; omega)
theorem idx_count (c : UInt8) : ∀ l : List UInt8, (0 ≤ Lib.indexByte l c) ↔ 0 < l.count c
  | [] => by simp [Lib.indexByte]
  | b :: l => by
    have ih := idx_count c l
    unfold Lib.indexByte
    by_cases hb : b = c
    · subst hb; simp
    · have hb' : (b == c) = false := beq_eq_false_iff_ne.2 hb
      rw [hb', List.count_cons_of_ne hb, ← ih]
      simp only [Bool.false_eq_true, if_false]
      have := Lib.indexByte_ge l c
      by_cases hm : Lib.indexByte l c = -1
      · simp [hm]
      · have hm' : (Lib.indexByte l c == -1) = false := beq_eq_false_iff_ne.2 hm
        rw [hm']; simp only [Bool.false_eq_true, if_false]
        constructor <;> intro <;> omega
theorem two_labels (s : ByteArray) : (0 ≤ Lib.indexByte s.data.toList 46) ↔ 2 ≤ (Man.labB s).length := by
  rw [idx_count, Man.labB_len]
  have : Lib.countB s ⟨#[46]⟩ = s.data.toList.count 46 := by unfold Lib.countB; exact Lib.count_one 46 s.data.toList
  rw [this]; omega
theorem l_HasSuffix (h s : ByteArray) (hh : h.size ≤ 1048576) (hs : s.size ≤ 1048576) : strings_HasSuffix.f h ((⟨#[46]⟩ : ByteArray) ++ s) = some (sfx h s) := by
  unfold strings_HasSuffix.f stringslite_HasSuffix.f
  have hsz : ((⟨#[46]⟩ : ByteArray) ++ s).size = 1 + s.size := by rw [ByteArray.size_append]; rfl
  have hl : ((⟨#[46]⟩ : ByteArray) ++ s).toList = 46 :: s.data.toList := by
    rw [Lib.toList_data]; simp [ByteArray.data_append]
  rw [hsz, hl]
  unfold sfx
  by_cases hn : 1 + s.size ≤ h.size
  · rw [if_pos (by omega), wrap_in (by omega), if_pos (by omega), if_pos (by omega), decide_eq_true hn, Option.bind_some, Bool.true_and]
    have e1 : (((h.size : Int) - ((1 + s.size : Nat) : Int)) : Int).toNat = h.size - s.size - 1 := by omega
    rw [e1, extract_end]
    obtain ⟨c, hc1, hc2⟩ := bt_at h (h.size - s.size - 1) (by omega)
    have e2 : h.size - s.size - 1 + 1 = h.size - s.size := by omega
    have e3 : ((h.size - s.size - 1 : Nat) : Int) = (h.size : Int) - (s.size : Int) - 1 := by omega
    rw [e2] at hc1
    rw [e3] at hc2
    rw [hc1, hc2]
    congr 1
    by_cases hd : h.data.toList.drop (h.size - s.size) = s.data.toList
    · rw [hd, decide_eq_true rfl]
      by_cases hc : c = 46
      · subst hc; simp
      · have h1 : (c :: s.data.toList == 46 :: s.data.toList) = false := beq_eq_false_iff_ne.2 (fun e => hc (List.cons.inj e).1)
        have h46 : (46 : UInt8).toNat = 46 := rfl
        have h2 : (((c.toNat : Int)) == 46) = false := beq_eq_false_iff_ne.2 (fun e => hc (UInt8.toNat_inj.1 (by rw [h46]; omega)))
        rw [h1, h2]; rfl
    · rw [decide_eq_false hd, Bool.false_and]
      exact beq_eq_false_iff_ne.2 (fun e => hd (List.cons.inj e).2)
  · rw [if_neg (by omega), decide_eq_false hn]; rfl
theorem l_Contains (s : ByteArray) : strings_Contains.f s ⟨#[46]⟩ = some (decide (2 ≤ (Man.labB s).length)) := by
  unfold strings_Contains.f
  rw [if_pos rfl]
  congr 1
  exact decide_eq_decide.2 (two_labels s)
theorem e_impl_MayUse (c : Bool) (h : ByteArray) (p : Int) (s : ByteArray) (hh : h.size ≤ 1048576) (hs : s.size ≤ 1048576) : Ev (fun k => impl_MayUse.f k c h p s) (muse c h p s) := by
  unfold impl_MayUse.f muse
  refine Ev.bind (e_impl_IsOrigin c h p) ?_
  cases org h p with
  | false => simp only [Bool.false_eq_true, if_false, Bool.false_and]; exact Ev.now _
  | true =>
  simp only [if_true, Bool.true_and]
  cases c with
  | false => simp only [Bool.false_eq_true, if_false, Bool.false_and]; exact Ev.now _
  | true =>
  simp only [if_true, Bool.true_and]
  refine Ev.bind (e_impl_IsHost s) ?_
  cases vhost s with
  | false => simp only [Bool.false_eq_true, if_false, Bool.false_and]; exact Ev.now _
  | true =>
  simp only [if_true, Bool.true_and, l_Contains, Option.bind_some]
  by_cases h2 : 2 ≤ (Man.labB s).length
  · rw [decide_eq_true h2]
    simp only [if_true, Bool.true_and]
    refine ev_of (fun k => ?_)
    by_cases he : h.toList = s.toList
    · rw [if_pos he, decide_eq_true he]; rfl
    · rw [if_neg he, decide_eq_false he, Bool.false_or, if_pos (by omega), l_HasSuffix h s hh hs]; rfl
  · rw [decide_eq_false h2]
    simp only [Bool.false_eq_true, if_false, Bool.false_and]
    exact Ev.now _
theorem l_impl_IsValidKey (a : Int) : impl_IsValidKey.f a = some (vkey a) := by
  unfold impl_IsValidKey.f; rw [l_impl_InRange]; rfl
theorem l_impl_IsValidStore (a b c d : Int) : impl_IsValidStore.f a b c d = some (vstore a b c d) := by
  unfold impl_IsValidStore.f vstore
  simp only [l_impl_InRange, l_impl_IsValidKey, Option.bind_some]
  cases decide (1 ≤ a ∧ a ≤ 9) <;> cases decide (0 ≤ b ∧ b ≤ 1000000) <;> cases vkey c <;> simp
theorem e_impl_SignMessage (p : Int) (m : List Int) (h : m.length < 17592186040000) : Ev (fun k => impl_SignMessage.f k p m) (sgn p m) := by
  unfold impl_SignMessage.f sgn
  simp only [l_impl_IsValidKey, Option.bind_some]
  by_cases hv : vkey p = true
  · simp only [if_pos hv]
    exact Ev.bind (e_impl_joined _ _ (by simp) (by simp; omega)) (Ev.bind (e_impl_KeyedHash _ _ (by simp; omega)) (ev_now (by simp)))
  · simp only [if_neg hv]; exact Ev.now _
theorem e_impl_DeriveKey (seed : Int) (l : List Int) (h : l.length < 17592186043000) : Ev (fun k => impl_DeriveKey.f k seed l) (dk seed l) := by
  unfold impl_DeriveKey.f
  refine Ev.bind (e_impl_joined _ _ (by simp) (by first | omega | (simp; omega))) ?_
  refine Ev.bind (e_impl_KeyedHash _ _ (by first | omega | (simp; omega))) ?_
  refine ev_of (fun _ => ?_)
  rw [l_impl_orOne]; simp [dk]
theorem e_impl_SitePrivate (a b c d : Int) (s : ByteArray) (h : Int) (hs : s.size < 17592180000000) : Ev (fun k => impl_SitePrivate.f k a b c d s h) (dk c [179, dfs 173 s, h]) := by
  unfold impl_SitePrivate.f
  exact Ev.bind (e_impl_SiteHash s hs) (Ev.bind (e_impl_DeriveKey _ _ (by simp)) (Ev.now _))
theorem e_impl_SignWithStore (a b c d : Int) (s : ByteArray) (h : Int) (m : List Int) (hs : s.size < 17592180000000) (hm : m.length < 17592180000000) (hd : -9223372036854775808 ≤ d ∧ d ≤ 9223372036854775807) : Ev (fun k => impl_SignWithStore.f k a b c d s h m) (sws a b c d s h m) := by
  unfold impl_SignWithStore.f sws
  simp only [l_impl_IsValidStore, Option.bind_some]
  by_cases hv : vstore a b c d = true
  · simp only [hv, if_true, true_and]
    have hb := vstore_d hv
    by_cases h1 : d = 1000000
    · rw [if_neg (fun e => e h1)]; exact ev1 fun k => by rw [impl_SignWithStore.j0, if_pos (by simp [h1])]
    · rw [if_pos h1]
      refine Ev.step (fun k => by rw [impl_SignWithStore.j0, if_neg (by simpa using h1), wrap_in (x := d + 1) (by omega)]) ?_
      refine Ev.bind (e_impl_SitePrivate a b c (d + 1) s h hs) (Ev.bind (e_impl_joined m [[d + 1]] (by simp) (by simp; omega)) (Ev.bind (e_impl_SignMessage _ _ (by simp; omega)) (ev_now (by simp))))
  · rw [if_neg (fun q => hv q.1)]
    simp only [if_neg hv]
    exact ev1 fun k => by rw [impl_SignWithStore.j0, if_pos rfl]
theorem fmo_size (c : Bool) (h : ByteArray) (p : Int) : (fmo c h p).size ≤ h.size + 65546 := by
  unfold fmo
  cases ho : org h p with
  | false => simp only [Bool.false_eq_true, if_false]; show 0 ≤ _; omega
  | true =>
  have hp := org_port ho
  have hl := fmtB_len (n := p) (by omega)
  have hs1 : (⟨#[58]⟩ : ByteArray).size = 1 := rfl
  simp only [if_true]
  split <;> split <;> (simp only [ByteArray.size_append, hs1]; first | (have : (⟨#[104, 116, 116, 112, 115, 58, 47, 47]⟩ : ByteArray).size = 8 := rfl; omega) | (have : (⟨#[104, 116, 116, 112, 58, 47, 47]⟩ : ByteArray).size = 7 := rfl; omega))
def mka (a b c d : Int) (x : Bool) (h : ByteArray) (p : Int) (s : ByteArray) (n ch : Int) (pr : Bool) : Int × Int × Int × Int × ByteArray × ByteArray × Int × Int × Bool × Int × Int × Bool :=
  if muse x h p s = true then
    (if (sws a b c d s n (amsg s (fmo x h p) ch n pr)).2.2.2.2.2 = true then
      ((sws a b c d s n (amsg s (fmo x h p) ch n pr)).1, (sws a b c d s n (amsg s (fmo x h p) ch n pr)).2.1, (sws a b c d s n (amsg s (fmo x h p) ch n pr)).2.2.1, (sws a b c d s n (amsg s (fmo x h p) ch n pr)).2.2.2.1, s, fmo x h p, ch, n, pr, (sws a b c d s n (amsg s (fmo x h p) ch n pr)).2.2.2.1, (sws a b c d s n (amsg s (fmo x h p) ch n pr)).2.2.2.2.1, true)
    else (a, b, c, d, (⟨#[]⟩ : ByteArray), (⟨#[]⟩ : ByteArray), 0, 0, false, 0, 0, false))
  else (a, b, c, d, (⟨#[]⟩ : ByteArray), (⟨#[]⟩ : ByteArray), 0, 0, false, 0, 0, false)
theorem e_impl_MakeAssertion (a b c d : Int) (x : Bool) (h : ByteArray) (p : Int) (s : ByteArray) (n ch : Int) (pr : Bool) (hh : h.size ≤ 1048576) (hs : s.size ≤ 1048576) (hd : -9223372036854775808 ≤ d ∧ d ≤ 9223372036854775807) : Ev (fun k => impl_MakeAssertion.f k a b c d x h p s n ch pr) (mka a b c d x h p s n ch pr) := by
  unfold impl_MakeAssertion.f mka
  have hf := fmo_size x h p
  refine Ev.bind (e_impl_MayUse x h p s hh hs) ?_
  cases muse x h p s with
  | false => simp only [Bool.false_eq_true, if_false]; exact Ev.now _
  | true =>
    simp only [if_true]
    refine Ev.bind (e_impl_FormatOrigin x h p hh) (Ev.bind (e_impl_AssertionMessage s _ ch n pr 0 0 (by omega) (by omega)) (Ev.bind (e_impl_SignWithStore a b c d s n _ (by omega) (by show 6 < _; omega) hd) ?_))
    refine ev_of (fun _ => ?_)
    split <;> rfl
theorem l_spec_l1In (a0 a1 a2 : Int) : spec_l1In.f a0 a1 a2 = some (decide (a1 ≤ a0 ∧ a0 ≤ a2)) := by
  unfold spec_l1In.f
  by_cases h : a0 ≥ a1
  · rw [if_pos h]; simp [show a1 ≤ a0 from h]
  · rw [if_neg h]; simp [show ¬ a1 ≤ a0 from h]
theorem l_spec_IsValidKey (a : Int) : spec_IsValidKey.f a = some (vkey a) := by
  unfold spec_IsValidKey.f; rw [l_spec_l1In]; rfl
theorem l_spec_PublicKey (a : Int) : spec_PublicKey.f a = some (pubk a) := by
  unfold spec_PublicKey.f pubk; rw [l_spec_IsValidKey]; simp only [Option.bind_some]
  by_cases h : vkey a = true
  · rw [if_pos h, if_pos h]; have := of_decide_eq_true h; rw [wrap_in (by omega), tmod_of (by omega)]
  · rw [if_neg h, if_neg h]
theorem l_spec_Max1 {x : Int} (h : 0 ≤ x) : spec_Max.f 1 x = some (one x) := by
  unfold spec_Max.f one
  by_cases h1 : x = 0
  · subst h1; rfl
  · rw [if_neg h1]
    by_cases h2 : x > 1
    · rw [if_pos h2]
    · rw [if_neg h2]; congr; omega
theorem l_spec_Mod (a m : Int) : spec_Mod.f a m = some (md a m) := by
  unfold spec_Mod.f
  rw [l_spec_l1In]; simp only [Option.bind_some]
  by_cases h : 1 ≤ m ∧ m ≤ 1000000000000
  · rw [if_pos (decide_eq_true h), if_neg (by omega), md_in _ h.1 h.2]
    have := tmod_bd (a := a) (m := m) (by omega)
    rw [wrap_in (by omega), tmod_of (by omega), tmod_add]
  · rw [if_neg (by simpa using h)]; unfold md; rw [if_neg h]
theorem e_spec_Hash_l0 (l : List Int) (hl : l.length < 20000000000000) : ∀ (d i : Nat) (h : Int), i + d = l.length → 0 ≤ h → h < 2147483647 → Ev (fun k => spec_Hash.l0 k l h (i : Int)) ((l.drop i).foldl hstep h)
  | 0, i, h, hd, _, _ => by
    refine Ev.step (f := fun _ => some h) (fun k => ?_) (ev_now ?_)
    · rw [spec_Hash.l0, if_neg (by omega)]
    · rw [drop_end (by omega)]; rfl
  | d + 1, i, h, hd, h0, h1 => by
    have hi : i < l.length := by omega
    refine Ev.step (f := fun k => spec_Hash.l0 k l (hstep h l[i]) ((i + 1 : Nat) : Int)) (fun k => ?_) ?_
    · rw [spec_Hash.l0, if_pos (by omega), if_pos (by omega), rd_in hi, l_spec_Mod]; simp only [Option.bind_some]
      rw [md_in _ (by omega) (by omega), step_wrap h0 h1, wrap_in (by omega)]; rfl
    · rw [drop_at hi, List.foldl_cons]
      exact e_spec_Hash_l0 l hl d (i + 1) _ (by omega) (step_bd _ _).1 (step_bd _ _).2
theorem e_spec_Hash (l : List Int) (hl : l.length < 20000000000000) : Ev (fun k => spec_Hash.f k l) (hsh l) :=
  e_spec_Hash_l0 l hl l.length 0 11 (by omega) (by omega) (by omega)
theorem e_spec_KeyedHash (key : Int) (l : List Int) (h : l.length < 17592186044000) : Ev (fun k => spec_KeyedHash.f k key l) (kh key l) := by
  refine Ev.congr (f := fun k => spec_Hash.f k (key :: l ++ [key])) (fun k => ?_) (e_spec_Hash _ (by first | omega | (simp; omega)))
  unfold spec_KeyedHash.f; simp only [Option.bind_some]
  rw [if_pos (by first | omega | (simp; omega)), if_pos (by first | omega | (simp; omega))]
  simp
theorem e_spec_BytesToInts (l : List Int) (hl : l.length < 17592186000000) (hw : ∀ x ∈ l, 0 ≤ x ∧ x ≤ 255) : Ev (fun k => spec_BytesToInts.f k l) ((l.length : Int) :: l) := by
  have h : ∀ (d i : Nat) (acc : List Int), i + d = l.length → acc.length = i + 1 → Ev (fun k => spec_BytesToInts.l0 k l acc (i : Int)) (acc ++ l.drop i) := by
    intro d
    induction d with
    | zero => intro i acc h _; rw [drop_end (by omega), List.append_nil]; exact ev1 fun k => by rw [spec_BytesToInts.l0, if_neg (by omega)]
    | succ d ih =>
      intro i acc h ha
      have hi : i < l.length := by omega
      have hx := hw l[i] (List.getElem_mem hi)
      have hr := ih (i + 1) (acc ++ [l[i]]) (by omega) (by simp; omega)
      rw [List.append_assoc, List.singleton_append, ← drop_at hi] at hr
      refine Ev.step (fun k => ?_) hr
      rw [spec_BytesToInts.l0, if_pos (by omega), if_pos (by omega), if_pos (by omega), rd_in hi, wrap_in (x := l[i]) (by omega), wrap_in (by omega)]; rfl
  exact h l.length 0 [(l.length : Int)] (by omega) (by simp)
theorem e_spec_DeriveFromString (key : Int) (s : ByteArray) (hs : s.size < 17592180000000) : Ev (fun k => spec_DeriveFromString.f k key s) (dfs key s) := by
  unfold spec_DeriveFromString.f
  simp only [if_pos (show s.size < 17592186044416 by omega)]
  refine Ev.bind (e_spec_BytesToInts _ (by rw [bytesOf_length]; omega) bytesOf_rng) (Ev.bind (e_spec_KeyedHash _ _ (by rw [List.length_cons, bytesOf_length]; omega)) (ev_of fun _ => ?_))
  rw [l_spec_Max1 (kh_bd _ _).1]; rfl
theorem e_spec_SiteHash (s : ByteArray) (hs : s.size < 17592180000000) : Ev (fun k => spec_SiteHash.f k s) (dfs 173 s) := by
  unfold spec_SiteHash.f
  exact Ev.bind (e_spec_DeriveFromString _ _ hs) (Ev.now _)
theorem e_spec_DeriveKey (seed : Int) (l : List Int) (h : l.length < 17592186043000) : Ev (fun k => spec_DeriveKey.f k seed l) (dk seed l) := by
  refine Ev.congr (f := fun k => (spec_KeyedHash.f k seed (151 :: l)).bind fun t => (spec_Max.f 1 t)) (fun k => ?_) ?_
  · unfold spec_DeriveKey.f; simp only [Option.bind_some]
    rw [if_pos (by first | omega | (simp; omega))]; simp
  · refine Ev.bind (e_spec_KeyedHash _ _ (by first | omega | (simp; omega))) ?_
    exact ev_of (fun _ => by rw [l_spec_Max1 (kh_bd _ _).1]; rfl)
theorem e_spec_SitePrivate (a b c d : Int) (s : ByteArray) (h : Int) (hs : s.size < 17592180000000) : Ev (fun k => spec_SitePrivate.f k a b c d s h) (dk c [179, dfs 173 s, h]) := by
  unfold spec_SitePrivate.f
  exact Ev.bind (e_spec_SiteHash s hs) (Ev.bind (e_spec_DeriveKey _ _ (by simp)) (Ev.now _))
theorem e_spec_SitePublic (a b c d : Int) (s : ByteArray) (h : Int) (hs : s.size < 17592180000000) : Ev (fun k => spec_SitePublic.f k a b c d s h) (pubk (dk c [179, dfs 173 s, h])) := by
  unfold spec_SitePublic.f
  exact Ev.bind (e_spec_SitePrivate _ _ _ _ s h hs) (ev_of fun _ => by rw [l_spec_PublicKey]; rfl)
theorem decFrom_app : ∀ (l : List UInt8) (b : UInt8) (acc : Nat), Lib.decFrom acc (l ++ [b]) = (Lib.decFrom acc l).bind fun n => (Lib.digitVal b).map fun d => n * 10 + d
  | [], b, acc => by simp only [List.nil_append, Lib.decFrom, Option.bind_some]; cases Lib.digitVal b <;> rfl
  | a :: t, b, acc => by
    simp only [List.cons_append, Lib.decFrom]
    cases Lib.digitVal a with
    | none => rfl
    | some e => exact decFrom_app t b _
theorem digit_of (d : Nat) (h : d < 10) : Lib.digitVal (UInt8.ofNat (48 + d)) = some d := by
  have e : (UInt8.ofNat (48 + d)).toNat = 48 + d := by simp; omega
  unfold Lib.digitVal
  rw [e, if_pos ⟨by omega, by omega⟩]
  congr 1; omega
theorem dec_back : ∀ u : Nat, Lib.decFrom 0 (Lib.decDigits u) = some u := by
  intro u
  induction u using Nat.strongRecOn with
  | _ u ih =>
    rw [Lib.decDigits]
    by_cases h : u < 10
    · rw [dif_pos h]; simp only [Lib.decFrom, digit_of u h]; simp
    · rw [dif_neg h, decFrom_app, ih (u / 10) (by omega)]
      simp only [Option.bind_some, digit_of (u % 10) (by omega), Option.map_some]
      congr 1; omega
theorem nd_le : ∀ (k u : Nat), u < 10 ^ (k + 1) → Lib.nDigits u ≤ k + 1
  | 0, u, h => by rw [Lib.nDigits_small (by simpa using h)]; omega
  | k + 1, u, h => by
    by_cases h10 : u < 10
    · rw [Lib.nDigits_small h10]; omega
    · rw [Lib.nDigits_big h10]
      have := nd_le k (u / 10) (by rw [Nat.pow_succ] at h; omega)
      omega
theorem dec_len13 {u : Nat} (h : u ≤ 1000000000000) : (Lib.decDigits u).length ≤ 13 := by
  rw [Lib.decDigits_length]
  exact nd_le 12 u (by omega)
theorem dec_len1 (u : Nat) : 1 ≤ (Lib.decDigits u).length := by
  rw [Lib.decDigits_length]
  exact Lib.nDigits_pos u
theorem atoi_back {u : Nat} (h : u ≤ 1000000000000) : Lib.atoiAll (Lib.decDigits u) = .ok (u : Int) := by
  have hl := dec_len13 h
  rw [Lib.atoiAll_short _ (by omega)]
  have hn := dec_len1 u
  have hd := dec_back u
  generalize Lib.decDigits u = l at hn hd
  cases l with
  | nil => simp at hn
  | cons c r =>
    have hdv : ∃ d, Lib.digitVal c = some d := by
      simp only [Lib.decFrom] at hd
      cases h : Lib.digitVal c with
      | none => rw [h] at hd; cases hd
      | some d => exact ⟨d, rfl⟩
    obtain ⟨d, hdv⟩ := hdv
    have hb := Lib.digitVal_eq hdv
    have h45 : (c == 45) = false := beq_eq_false_iff_ne.2 (fun e => by subst e; have : (45 : UInt8).toNat = 45 := rfl; omega)
    have h43 : (c == 43) = false := beq_eq_false_iff_ne.2 (fun e => by subst e; have : (43 : UInt8).toNat = 43 := rfl; omega)
    have e : Lib.atoi (c :: r) = some (u : Int) := by
      unfold Lib.atoi
      simp only [h45, h43, Bool.false_eq_true, if_false]
      unfold Lib.decNat
      rw [hd]; rfl
    rw [e]; rfl
def pint (l : List UInt8) : Int × Bool := match Lib.decFrom 0 l with
  | some u => if u ≤ 1000000000000 ∧ Lib.decDigits u = l then ((u : Int), true) else (0, false)
  | none => (0, false)
theorem pint_yes {u : Nat} (h : u ≤ 1000000000000) : pint (Lib.decDigits u) = ((u : Int), true) := by unfold pint; rw [dec_back]; simp [h]
theorem pint_no {l : List UInt8} (h : ¬ ∃ u : Nat, u ≤ 1000000000000 ∧ Lib.decDigits u = l) : pint l = (0, false) := by
  unfold pint
  split
  · rw [if_neg (fun e => h ⟨_, e.1, e.2⟩)]
  · rfl
theorem itoa_nat (u : Nat) : Lib.itoa (u : Int) = Lib.decDigits u := by unfold Lib.itoa; rw [if_neg (by omega), Int.toNat_natCast]
theorem l_impl_ParseInt (s : ByteArray) (hs : s.size ≤ 281474976710656) : impl_ParseInt.f s = some (pint s.data.toList) := by
  unfold impl_ParseInt.f
  rw [if_pos hs]
  congr 1
  by_cases h : ∃ u : Nat, u ≤ 1000000000000 ∧ Lib.decDigits u = s.data.toList
  · obtain ⟨u, hu, e⟩ := h
    rw [← e, pint_yes hu, atoi_back hu]
    simp only
    rw [if_neg (by omega), if_neg (by omega), if_pos (itoa_nat u)]
  · rw [pint_no h]
    cases ha : Lib.atoiAll s.data.toList with
    | ok v =>
      simp only
      by_cases h1 : v < 0
      · rw [if_pos h1]
      · by_cases h2 : v > 1000000000000
        · rw [if_neg h1, if_pos h2]
        · rw [if_neg h1, if_neg h2, if_neg]
          intro e
          refine h ⟨v.toNat, by omega, ?_⟩
          rw [← e]; unfold Lib.itoa; rw [if_neg h1]
    | «syntax» => rfl
    | range => rfl
def finO (x : Bool) (h : ByteArray) (p : Int) (s : ByteArray) : Bool × ByteArray × Int × Bool := if org h p = true then (if (fmo x h p).toList = s.toList then (x, h, p, true) else (false, (⟨#[]⟩ : ByteArray), 0, false)) else (false, (⟨#[]⟩ : ByteArray), 0, false)
def cutO (x : Bool) (p : Int) (r s : ByteArray) : Bool × ByteArray × Int × Bool :=
  if (Lib.cut r.data.toList [58]).2.2 = true then (if (pint (Lib.cut r.data.toList [58]).2.1).2 = true then finO x ⟨(Lib.cut r.data.toList [58]).1.toArray⟩ (pint (Lib.cut r.data.toList [58]).2.1).1 s else (false, (⟨#[]⟩ : ByteArray), 0, false)) else finO x ⟨(Lib.cut r.data.toList [58]).1.toArray⟩ p s
def hp7 : List UInt8 := [104, 116, 116, 112, 58, 47, 47]
def hp8 : List UInt8 := [104, 116, 116, 112, 115, 58, 47, 47]
def parO (s : ByteArray) : Bool × ByteArray × Int × Bool := if Lib.hasPrefix s.data.toList hp7 = true then cutO false 80 ⟨(s.data.toList.drop 7).toArray⟩ s else if Lib.hasPrefix s.data.toList hp8 = true then cutO true 443 ⟨(s.data.toList.drop 8).toArray⟩ s else (false, (⟨#[]⟩ : ByteArray), 0, false)
theorem ib_no (c : UInt8) : ∀ l : List UInt8, (∀ b ∈ l, b ≠ c) → Lib.indexByte l c = -1
  | [], _ => rfl
  | b :: l, h => by
    unfold Lib.indexByte
    rw [beq_eq_false_iff_ne.2 (h b List.mem_cons_self), ib_no c l (fun x hx => h x (List.mem_cons_of_mem _ hx))]
    rfl
theorem ib_at (c : UInt8) : ∀ (p t : List UInt8), (∀ b ∈ p, b ≠ c) → Lib.indexByte (p ++ c :: t) c = p.length
  | [], t, _ => by simp [Lib.indexByte]
  | b :: p, t, h => by
    simp only [List.cons_append]
    unfold Lib.indexByte
    rw [beq_eq_false_iff_ne.2 (h b List.mem_cons_self), ib_at c p t (fun x hx => h x (List.mem_cons_of_mem _ hx))]
    have : ((p.length : Int) == -1) = false := beq_eq_false_iff_ne.2 (by omega)
    rw [this]; simp
theorem cut_no {l : List UInt8} (h : ∀ b ∈ l, b ≠ 58) : Lib.cut l [58] = (l, [], false) := by
  unfold Lib.cut
  rw [Lib.index_one, ib_no 58 l h, if_neg (by decide)]
theorem cut_at {l t : List UInt8} {i : Nat} (h : ∀ b ∈ l.take i, b ≠ 58) (ht : l.drop i = 58 :: t) : Lib.cut l [58] = (l.take i, t, true) := by
  have hi : i < l.length := by
    rcases Nat.lt_or_ge i l.length with h | h
    · exact h
    · rw [List.drop_eq_nil_of_le h] at ht; cases ht
  have e : l = l.take i ++ 58 :: t := by rw [← ht, List.take_append_drop]
  have hx : Lib.index l [58] = (i : Int) := by
    rw [Lib.index_one]
    conv => lhs; rw [e]
    rw [ib_at 58 _ t h, List.length_take]; congr 1; omega
  unfold Lib.cut
  rw [hx, if_pos (by omega), Int.toNat_natCast]
  have e2 : l.drop (i + ([58] : List UInt8).length) = t := by
    show l.drop (i + 1) = t
    rw [← List.drop_drop, ht]; rfl
  rw [e2]
theorem e_impl_ParseOrigin (s : ByteArray) (hs : s.size ≤ 1048576) : Ev (fun k => impl_ParseOrigin.f k s) (parO s) := by
  have j1 : ∀ (x : Bool) (h : ByteArray) (p : Int), h.size ≤ 1048576 → Ev (fun k => impl_ParseOrigin.j1 k s x h p) (finO x h p s) := by
    intro x h p hh
    refine Ev.step (f := fun k => (impl_IsOrigin.f k x h p).bind fun t161 => (if t161 = true then ((impl_FormatOrigin.f k x h p).bind fun t162 => (if t162.toList = s.toList then (some (x, h, p, true)) else (some (false, (⟨#[]⟩ : ByteArray), 0, false)))) else (some (false, (⟨#[]⟩ : ByteArray), 0, false)))) (fun k => by rw [impl_ParseOrigin.j1]) ?_
    refine Ev.bind (e_impl_IsOrigin x h p) ?_
    unfold finO
    cases org h p with
    | false => simp only [Bool.false_eq_true, if_false]; exact Ev.now _
    | true =>
      simp only [if_true]
      refine Ev.bind (e_impl_FormatOrigin x h p hh) (ev_of fun _ => ?_)
      split <;> rfl
  have j0 : ∀ (x : Bool) (p : Int) (r : ByteArray), r.size ≤ 1048576 → Ev (fun k => impl_ParseOrigin.j0 k s r true x (⟨#[]⟩ : ByteArray) p) (cutO x p r s) := by
    intro x p r hr
    have hcut : strings_Cut.f r (⟨#[58]⟩ : ByteArray) = some (⟨(Lib.cut r.data.toList [58]).1.toArray⟩, ⟨(Lib.cut r.data.toList [58]).2.1.toArray⟩, (Lib.cut r.data.toList [58]).2.2) := by
      unfold strings_Cut.f; rw [if_pos ⟨rfl, by omega⟩]
    have hsz : (Lib.cut r.data.toList [58]).1.length ≤ r.size ∧ (Lib.cut r.data.toList [58]).2.1.length ≤ r.size := by
      rw [Lib.size_eq]
      unfold Lib.cut
      split
      · simp only [List.length_take, List.length_drop]; omega
      · simp
    have z1 : (⟨(Lib.cut r.data.toList [58]).1.toArray⟩ : ByteArray).size = (Lib.cut r.data.toList [58]).1.length := by rw [Lib.size_eq]
    have z2 : (⟨(Lib.cut r.data.toList [58]).2.1.toArray⟩ : ByteArray).size = (Lib.cut r.data.toList [58]).2.1.length := by rw [Lib.size_eq]
    have hpi := l_impl_ParseInt ⟨(Lib.cut r.data.toList [58]).2.1.toArray⟩ (by omega)
    unfold cutO
    cases hc : (Lib.cut r.data.toList [58]).2.2 with
    | false =>
      simp only [Bool.false_eq_true, if_false]
      refine Ev.step (fun k => ?_) (j1 x ⟨(Lib.cut r.data.toList [58]).1.toArray⟩ p (by omega))
      rw [impl_ParseOrigin.j0, if_pos rfl, hcut]
      simp only [Option.bind_some, hc, Bool.false_eq_true, if_false]
    | true =>
      simp only [if_true]
      cases hq : (pint (Lib.cut r.data.toList [58]).2.1).2 with
      | false =>
        refine ev1 (fun k => ?_)
        rw [impl_ParseOrigin.j0, if_pos rfl, hcut]
        simp only [Option.bind_some, hc, if_true, hpi, hq, Bool.false_eq_true, if_false]
      | true =>
        simp only [if_true]
        refine Ev.step (fun k => ?_) (j1 x ⟨(Lib.cut r.data.toList [58]).1.toArray⟩ (pint (Lib.cut r.data.toList [58]).2.1).1 (by omega))
        rw [impl_ParseOrigin.j0, if_pos rfl, hcut]
        simp only [Option.bind_some, hc, if_true, hpi, hq]
  have dsz : ∀ n : Nat, (⟨(s.data.toList.drop n).toArray⟩ : ByteArray).size ≤ 1048576 := by
    intro n
    rw [Lib.size_eq]
    simp only [List.length_drop]
    rw [← Lib.size_eq]; omega
  unfold impl_ParseOrigin.f parO strings_CutPrefix.f
  simp only [Option.bind_some]
  have e7 : ([104, 116, 116, 112, 58, 47, 47] : List UInt8) = hp7 := rfl
  have e8 : ([104, 116, 116, 112, 115, 58, 47, 47] : List UInt8) = hp8 := rfl
  rw [e7, e8]
  cases h7 : Lib.hasPrefix s.data.toList hp7 with
  | true =>
    simp only [if_true]
    have et : Lib.trimPrefix s.data.toList hp7 = s.data.toList.drop 7 := by unfold Lib.trimPrefix; rw [h7]; rfl
    rw [et]
    exact j0 false 80 _ (dsz 7)
  | false =>
    simp only [Bool.false_eq_true, if_false]
    cases h8 : Lib.hasPrefix s.data.toList hp8 with
    | true =>
      simp only [if_true]
      have et : Lib.trimPrefix s.data.toList hp8 = s.data.toList.drop 8 := by unfold Lib.trimPrefix; rw [h8]; rfl
      rw [et]
      exact j0 true 443 _ (dsz 8)
    | false =>
      simp only [Bool.false_eq_true, if_false]
      exact ev1 (fun k => by rw [impl_ParseOrigin.j0, if_neg (by simp)])
theorem k_impl_power_inv : impl_power.f 40 48271 2147483645 2147483647 = some 1899818559 := by decide +kernel
theorem e_impl_PrivateKey (p : Int) : Ev (fun k => impl_PrivateKey.f k p) (prvk p) := by
  unfold impl_PrivateKey.f prvk
  simp only [l_impl_IsValidKey, Option.bind_some]
  by_cases h : vkey p = true
  · have hr := of_decide_eq_true h
    simp only [if_pos h]
    refine Ev.bind (Ev.of (impl_power.mono _ _ _) k_impl_power_inv) ?_
    have hm := mul_bd (show 0 ≤ p by omega) hr.2 (show (0 : Int) ≤ 1899818559 by omega) (Int.le_refl _)
    rw [wrap_in (x := p * 1899818559) (by omega), tmod_of (by omega)]; exact Ev.now _
  · simp only [if_neg h]; exact Ev.now _
theorem e_impl_VerifySignature (p : Int) (m : List Int) (s : Int) (hm : m.length < 17592186040000) : Ev (fun k => impl_VerifySignature.f k p m s) (vfy p m s) := by
  unfold impl_VerifySignature.f vfy
  refine Ev.bind (e_impl_PrivateKey p) ?_
  by_cases h : prvk p = 0
  · simp only [if_pos h]; exact Ev.now _
  · simp only [if_neg h]; exact Ev.bind (e_impl_SignMessage _ _ hm) (Ev.now _)
theorem finO_ok {x : Bool} {h : ByteArray} {p : Int} {s : ByteArray} (e : (finO x h p s).2.2.2 = true) : (finO x h p s).2.1.size ≤ 60 := by
  unfold finO at e ⊢
  by_cases ho : org h p = true
  · rw [if_pos ho] at e ⊢
    by_cases hf : (fmo x h p).toList = s.toList
    · rw [if_pos hf]
      unfold org vhost at ho
      simp only [Bool.and_eq_true, decide_eq_true_eq] at ho
      have := ho.1.2
      show h.size ≤ 60
      omega
    · rw [if_neg hf] at e; cases e
  · rw [if_neg ho] at e; cases e
theorem parO_ok {s : ByteArray} (e : (parO s).2.2.2 = true) : (parO s).2.1.size ≤ 60 := by
  have hc : ∀ x p r, (cutO x p r s).2.2.2 = true → (cutO x p r s).2.1.size ≤ 60 := by
    intro x p r e
    unfold cutO at e ⊢
    split at e
    · rename_i h1; rw [if_pos h1]
      split at e
      · rename_i h2; rw [if_pos h2]; exact finO_ok e
      · cases e
    · rename_i h1; rw [if_neg h1]; exact finO_ok e
  unfold parO at e ⊢
  split at e
  · rename_i h1; rw [if_pos h1]; exact hc _ _ _ e
  · rename_i h1; rw [if_neg h1]
    split at e
    · rename_i h2; rw [if_pos h2]; exact hc _ _ _ e
    · cases e
def ckj (bad : Bool) (pub : Int) (s o : ByteArray) (ch n : Int) (pr : Bool) (c sg wch cnt : Int) : Int := if bad = true then 1 else (if pr = true then (if ch = wch then (if vfy pub (amsg s o ch n pr ++ [c]) sg = true then (if c ≤ cnt then 4 else 0) else 5) else 3) else 2)
def ckb (s o site : ByteArray) : Bool := if s.toList = site.toList then (if (parO o).2.2.2 = true then !(muse (parO o).1 (parO o).2.1 (parO o).2.2.1 site) else true) else true
def cka (pub : Int) (s o : ByteArray) (ch n : Int) (pr : Bool) (c sg : Int) (site : ByteArray) (wch cnt : Int) : Int := ckj (ckb s o site) pub s o ch n pr c sg wch cnt
theorem e_impl_CheckAssertion (pub : Int) (s o : ByteArray) (ch n : Int) (pr : Bool) (c sg : Int) (site : ByteArray) (wch cnt : Int) (hs : s.size ≤ 1048576) (ho : o.size ≤ 1048576) (hi : site.size ≤ 1048576) : Ev (fun k => impl_CheckAssertion.f k pub s o ch n pr c sg site wch cnt) (cka pub s o ch n pr c sg site wch cnt) := by
  have hl : (amsg s o ch n pr).length = 6 := rfl
  have j0 : ∀ b, Ev (fun k => impl_CheckAssertion.j0 k pub wch cnt b s o ch n pr c sg) (ckj b pub s o ch n pr c sg wch cnt) := by
    intro b
    unfold ckj
    by_cases hb : b = true
    · rw [if_pos hb]; exact ev1 (fun k => by rw [impl_CheckAssertion.j0, if_pos hb])
    rw [if_neg hb]
    by_cases hp : pr = true
    rotate_left
    · rw [if_neg hp]; exact ev1 (fun k => by rw [impl_CheckAssertion.j0, if_neg hb, if_neg hp])
    rw [if_pos hp]
    by_cases hc : ch = wch
    rotate_left
    · rw [if_neg hc]; exact ev1 (fun k => by rw [impl_CheckAssertion.j0, if_neg hb, if_pos hp, if_neg hc])
    rw [if_pos hc]
    refine Ev.step (f := fun k => (impl_AssertionMessage.f k s o ch n pr c sg).bind fun t195 => ((impl_joined.f k t195 (([(([c] : List Int))] : List (List Int)))).bind fun t204 => ((impl_VerifySignature.f k pub t204 sg).bind fun t207 => (if t207 = true then (if c ≤ cnt then (some 4) else (some 0)) else (some 5))))) (fun k => by rw [impl_CheckAssertion.j0, if_neg hb, if_pos hp, if_pos hc]) ?_
    have hj := e_impl_joined (amsg s o ch n pr) [[c]] (by simp) (by simp [hl])
    have ef : amsg s o ch n pr ++ ([[c]] : List (List Int)).flatten = amsg s o ch n pr ++ [c] := by simp
    rw [ef] at hj
    refine Ev.bind (e_impl_AssertionMessage s o ch n pr c sg (by omega) (by omega)) (Ev.bind hj (Ev.bind (e_impl_VerifySignature pub _ sg (by rw [List.length_append, hl]; simp)) (ev_of fun _ => ?_)))
    split
    · split <;> rfl
    · rfl
  unfold impl_CheckAssertion.f cka ckb
  refine Ev.bind (e_impl_ParseOrigin o ho) ?_
  by_cases h1 : s.toList = site.toList
  · simp only [if_pos h1]
    by_cases h2 : (parO o).2.2.2 = true
    · simp only [if_pos h2]
      have hz := parO_ok h2
      exact Ev.bind (e_impl_MayUse _ _ _ site (by omega) hi) (j0 _)
    · simp only [if_neg h2]; exact j0 true
  · simp only [if_neg h1]; exact j0 true
theorem l_impl_IsClone (s o : ByteArray) (a b : Int) (p : Bool) (c d cnt : Int) : impl_IsClone.f s o a b p c d cnt = some (decide (c ≤ cnt)) := rfl
theorem aff_step (h v : Int) : ∃ q : Int, hstep h v = h * 1000003 + hstep 0 v + 2147483647 * q := by
  refine ⟨(hstep h v - h * 1000003 - hstep 0 v) / 2147483647, ?_⟩
  unfold hstep
  omega
theorem aff_pow (l : List Int) : ∀ h : Int, ∃ q : Int, l.foldl hstep h = h * 1000003 ^ l.length + l.foldl hstep 0 + 2147483647 * q := by
  induction l with
  | nil => intro h; exact ⟨0, by simp⟩
  | cons v t ih =>
    intro h
    obtain ⟨q1, e1⟩ := ih (hstep h v)
    obtain ⟨q2, e2⟩ := ih (hstep 0 v)
    obtain ⟨q3, e3⟩ := aff_step h v
    refine ⟨q1 - q2 + q3 * 1000003 ^ t.length, ?_⟩
    simp only [List.foldl_cons, List.length_cons]
    rw [e1, e2, e3, Int.pow_succ]
    generalize (1000003 : Int) ^ t.length = P
    rw [Int.add_mul, Int.add_mul, Int.mul_assoc h 1000003 P, Int.mul_comm 1000003 P, Int.mul_add, Int.mul_sub, Int.mul_assoc 2147483647 q3 P]
    omega
theorem aff (l : List Int) (c : Int) (hc : (1000003 : Int) ^ l.length % 2147483647 = c) (h : Int) : ∃ q : Int, l.foldl hstep h = h * c + l.foldl hstep 0 + 2147483647 * q := by
  obtain ⟨q, e⟩ := aff_pow l h
  refine ⟨q + h * ((1000003 : Int) ^ l.length / 2147483647), ?_⟩
  have hd := Int.emod_add_mul_ediv ((1000003 : Int) ^ l.length) 2147483647
  rw [hc] at hd
  rw [e]
  have : h * 1000003 ^ l.length = h * c + 2147483647 * (h * ((1000003 : Int) ^ l.length / 2147483647)) := by
    conv => lhs; rw [← hd]
    rw [Int.mul_add]
    congr 1
    rw [← Int.mul_assoc, Int.mul_comm h 2147483647, Int.mul_assoc]
  rw [this, Int.mul_add]
  omega
theorem kh_split (a : Int) (l : List Int) : kh a l = hstep (l.foldl hstep (hstep 11 a)) a := by
  unfold kh hsh
  rw [List.cons_append, List.foldl_cons, List.foldl_append]; rfl
theorem kh_form (l : List Int) (c : Int) (hc : (1000003 : Int) ^ l.length % 2147483647 = c) (a : Int) : ∃ q : Int, kh a l = (a % 2147483647 * c) * 1000003 + a % 2147483647 + (11000046 * c * 1000003 + l.foldl hstep 0 * 1000003 + 13) + 2147483647 * q := by
  rw [kh_split]
  obtain ⟨q1, e1⟩ := aff l c hc (hstep 11 a)
  have e0 : ∃ q0 : Int, hstep 11 a = 11000046 + a % 2147483647 + 2147483647 * q0 := ⟨(hstep 11 a - 11000046 - a % 2147483647) / 2147483647, by unfold hstep; omega⟩
  obtain ⟨q0, e0⟩ := e0
  have e2 : ∃ q2 : Int, hstep (l.foldl hstep (hstep 11 a)) a = l.foldl hstep (hstep 11 a) * 1000003 + a % 2147483647 + 13 + 2147483647 * q2 := ⟨(hstep (l.foldl hstep (hstep 11 a)) a - (l.foldl hstep (hstep 11 a) * 1000003 + a % 2147483647 + 13)) / 2147483647, by unfold hstep; omega⟩
  obtain ⟨q2, e2⟩ := e2
  have e3 : hstep 11 a * c = 11000046 * c + a % 2147483647 * c + 2147483647 * (q0 * c) := by rw [e0, Int.add_mul, Int.add_mul, Int.mul_assoc]
  refine ⟨q0 * c * 1000003 + q1 * 1000003 + q2, ?_⟩
  rw [e2, e1, e3]
  generalize a % 2147483647 * c = A
  generalize q0 * c = Z
  generalize l.foldl hstep 0 = F
  omega
theorem kh_key (l : List Int) (c : Int) (hc : (1000003 : Int) ^ l.length % 2147483647 = c) {a b : Int} (h : kh a l = kh b l) : ∃ q : Int, (a % 2147483647 * c) * 1000003 + a % 2147483647 - ((b % 2147483647 * c) * 1000003 + b % 2147483647) = 2147483647 * q := by
  obtain ⟨q1, e1⟩ := kh_form l c hc a
  obtain ⟨q2, e2⟩ := kh_form l c hc b
  exact ⟨q2 - q1, by omega⟩
theorem hstep_back {h a : Int} (h0 : 0 ≤ h) (h1 : h < 2147483647) : (((h * 1000003 + a) % 2147483647 - a) * 1523789695) % 2147483647 = h := by
  have e := Int.emod_add_mul_ediv (h * 1000003 + a) 2147483647
  generalize (h * 1000003 + a) / 2147483647 = q at e
  have e2 : (h * 1000003 + a) % 2147483647 - a = h * 1000003 - 2147483647 * q := by omega
  rw [e2]
  omega
theorem hstep_inj {h h' v : Int} (h0 : 0 ≤ h) (h1 : h < 2147483647) (g0 : 0 ≤ h') (g1 : h' < 2147483647) (e : hstep h v = hstep h' v) : h = h' := by
  unfold hstep at e
  rw [Int.add_assoc, Int.add_assoc] at e
  rw [← hstep_back (a := v % 2147483647 + 13) h0 h1, ← hstep_back (a := v % 2147483647 + 13) g0 g1, e]
theorem hstep_val {h v w : Int} (e : hstep h v = hstep h w) : v % 2147483647 = w % 2147483647 := by
  unfold hstep at e; omega
theorem fl_inj (l : List Int) : ∀ {h h' : Int}, 0 ≤ h → h < 2147483647 → 0 ≤ h' → h' < 2147483647 → l.foldl hstep h = l.foldl hstep h' → h = h' := by
  induction l with
  | nil => intro h h' _ _ _ _ e; exact e
  | cons v t ih =>
    intro h h' a0 a1 b0 b1 e
    have := ih (step_bd h v).1 (step_bd h v).2 (step_bd h' v).1 (step_bd h' v).2 e
    exact hstep_inj a0 a1 b0 b1 this
theorem kh_one (a : Int) (l1 l2 : List Int) {v w : Int} (e : kh a (l1 ++ v :: l2) = kh a (l1 ++ w :: l2)) : v % 2147483647 = w % 2147483647 := by
  rw [kh_split, kh_split] at e
  have bd : ∀ v, 0 ≤ (l1 ++ v :: l2).foldl hstep (hstep 11 a) ∧ (l1 ++ v :: l2).foldl hstep (hstep 11 a) < 2147483647 := fun v => foldl_bd _ _ (step_bd _ _).1 (step_bd _ _).2
  have e1 := hstep_inj (bd v).1 (bd v).2 (bd w).1 (bd w).2 e
  rw [List.foldl_append, List.foldl_append, List.foldl_cons, List.foldl_cons] at e1
  exact hstep_val (fl_inj l2 (step_bd _ _).1 (step_bd _ _).2 (step_bd _ _).1 (step_bd _ _).2 e1)
theorem prvk_pubk {k : Int} (h : vkey k = true) : prvk (pubk k) = k := by
  have hr := of_decide_eq_true h
  have e1 : pubk k = k * 48271 % 2147483647 := by unfold pubk; rw [if_pos h]
  have hb : 1 ≤ k * 48271 % 2147483647 ∧ k * 48271 % 2147483647 ≤ 2147483646 := by omega
  have hv : vkey (pubk k) = true := by rw [e1]; exact decide_eq_true hb
  unfold prvk
  rw [if_pos hv, e1]
  omega
theorem vfy_pub {k : Int} (h : vkey k = true) (m : List Int) (s : Int) : vfy (pubk k) m s = (sgn k m == s) := by
  unfold vfy
  rw [prvk_pubk h, if_neg]
  have hr := of_decide_eq_true h
  omega
theorem dk_key (s : Int) (l : List Int) : vkey (dk s l) = true := decide_eq_true (by have := dk_bd s l; omega)
theorem sgn_kh {k : Int} (h : vkey k = true) (m : List Int) : sgn k m = kh k ([139, (m.length : Int)] ++ m) := by unfold sgn; rw [if_pos h]
theorem one_eq {x y : Int} (h : one x = one y) : x = y ∨ x = 0 ∧ y = 1 ∨ x = 1 ∧ y = 0 := by
  unfold one at h; split at h <;> split at h <;> omega
theorem mk_toList (l : List UInt8) : (⟨l.toArray⟩ : ByteArray).data.toList = l := by simp
theorem app_toList (a b : ByteArray) : (a ++ b).data.toList = a.data.toList ++ b.data.toList := by simp [ByteArray.data_append]
theorem lab_mem : ∀ (l : List UInt8) (c : UInt8), c ∈ l → c ≠ 46 → ∃ x ∈ Man.lab l, c ∈ x := by
  intro l
  induction l with
  | nil => intro c h; cases h
  | cons a t ih =>
    intro c h hc
    unfold Man.lab
    by_cases ha : a = 46
    · rw [if_pos ha]
      rcases List.mem_cons.1 h with rfl | h
      · exact absurd ha hc
      · obtain ⟨x, hx, hx2⟩ := ih c h hc; exact ⟨x, List.mem_cons_of_mem _ hx, hx2⟩
    · rw [if_neg ha]
      have hn := lab_ne t
      cases hl : Man.lab t with
      | nil => exact absurd hl hn
      | cons y r =>
        simp only
        rcases List.mem_cons.1 h with rfl | h
        · exact ⟨_, List.mem_cons_self, List.mem_cons_self⟩
        · obtain ⟨x, hx, hx2⟩ := ih c h hc
          rw [hl] at hx
          rcases List.mem_cons.1 hx with rfl | hx
          · exact ⟨_, List.mem_cons_self, List.mem_cons_of_mem _ hx2⟩
          · exact ⟨x, List.mem_cons_of_mem _ hx, hx2⟩
theorem okl_all (s : ByteArray) : ∀ d i : Nat, okl s d i = true → ∀ j, i ≤ j → j < i + d → okc (bt s (j : Int)) = true := by
  intro d
  induction d with
  | zero => intro i _ j h1 h2; omega
  | succ d ih =>
    intro i h j h1 h2
    rw [okl_cases] at h
    by_cases hc : okc (bt s (i : Int)) = true
    · rw [if_pos hc] at h
      by_cases hj : j = i
      · subst hj; exact hc
      · exact ih (i + 1) h j (by omega) (by omega)
    · rw [if_neg hc] at h; cases h
theorem vlb_okc {s : ByteArray} (h : vlb s = true) : ∀ c ∈ s.data.toList, okc (c.toNat : Int) = true := by
  intro c hc
  obtain ⟨n, hn, e⟩ := List.getElem_of_mem hc
  have hn' : n < s.size := by rw [Lib.size_eq]; exact hn
  obtain ⟨c', h1, h2⟩ := bt_at s n hn'
  have e1 : s.data.toList.drop n = s.data.toList[n] :: s.data.toList.drop (n + 1) := List.drop_eq_getElem_cons hn
  rw [h1] at e1
  have e2 := (List.cons.inj e1).1
  unfold vlb at h
  rw [Bool.and_eq_true] at h
  have := okl_all s s.size 0 h.1 n (by omega) (by omega)
  rw [h2, e2, e] at this
  exact this
theorem vhost_lab {s : ByteArray} (h : vhost s = true) : ∀ b ∈ Man.labB s, vlb b = true := by
  unfold vhost at h
  rw [Bool.and_eq_true] at h
  exact List.all_eq_true.1 h.1
theorem vhost_colon {s : ByteArray} (h : vhost s = true) : ∀ c ∈ s.data.toList, c ≠ 58 := by
  intro c hc e
  subst e
  obtain ⟨x, hx, hx2⟩ := lab_mem _ _ hc (by decide)
  rw [← Man.labB_data] at hx
  obtain ⟨b, hb, rfl⟩ := List.mem_map.1 hx
  have := vlb_okc (vhost_lab h b hb) 58 hx2
  revert this; decide
theorem cut_plain {x : Bool} {q : Int} {h s : ByteArray} (hh : ∀ b ∈ h.data.toList, b ≠ 58) : cutO x q h s = finO x h q s := by
  unfold cutO
  rw [cut_no hh]
  simp only [Bool.false_eq_true, if_false]
theorem cut_port {x : Bool} {q : Int} {h s : ByteArray} {u : Nat} (hh : ∀ b ∈ h.data.toList, b ≠ 58) (hu : u ≤ 1000000000000) : cutO x q ⟨(h.data.toList ++ 58 :: Lib.decDigits u).toArray⟩ s = finO x h (u : Int) s := by
  unfold cutO
  rw [mk_toList]
  have hc : Lib.cut (h.data.toList ++ 58 :: Lib.decDigits u) [58] = (h.data.toList, Lib.decDigits u, true) := by
    have := cut_at (l := h.data.toList ++ 58 :: Lib.decDigits u) (t := Lib.decDigits u) (i := h.data.toList.length) (by rw [List.take_left']; exact hh; rfl) (by rw [List.drop_left']; rfl)
    rw [this, List.take_left' rfl]
  rw [hc]
  simp only [if_true]
  rw [pint_yes hu]
  simp only [if_true]
theorem fin_same {x : Bool} {h : ByteArray} {p : Int} (ho : org h p = true) : finO x h p (fmo x h p) = (x, h, p, true) := by
  unfold finO; rw [if_pos ho, if_pos rfl]
theorem pre7_8 (t : List UInt8) : Lib.hasPrefix (hp8 ++ t) hp7 = false := by simp [Lib.hasPrefix, hp7, hp8, List.isPrefixOf]
theorem pre8 (t : List UInt8) : Lib.hasPrefix (hp8 ++ t) hp8 = true := by simp [Lib.hasPrefix, hp8, List.isPrefixOf]
theorem pre7 (t : List UInt8) : Lib.hasPrefix (hp7 ++ t) hp7 = true := by simp [Lib.hasPrefix, hp7, List.isPrefixOf]
theorem par_fmo (x : Bool) (h : ByteArray) (p : Int) (ho : org h p = true) : parO (fmo x h p) = (x, h, p, true) := by
  have hv : vhost h = true := by unfold org at ho; rw [Bool.and_eq_true] at ho; exact ho.1
  have hp := org_port ho
  have hh := vhost_colon hv
  have hdig : (fmtB p).data.toList = Lib.decDigits p.toNat := by
    unfold fmtB; rw [mk_toList]; unfold Lib.itoa; rw [if_neg (by omega)]
  have hpn : ((p.toNat : Nat) : Int) = p := by omega
  have hs := fin_same (x := x) ho
  cases x with
  | true =>
    by_cases h4 : p = 443
    · have e : fmo true h p = (⟨#[104, 116, 116, 112, 115, 58, 47, 47]⟩ : ByteArray) ++ h := by unfold fmo; rw [if_pos ho, if_pos rfl, if_pos h4]
      have el : (fmo true h p).data.toList = hp8 ++ h.data.toList := by rw [e, app_toList]; rfl
      unfold parO
      rw [el, pre7_8, pre8]
      simp only [Bool.false_eq_true, if_false, if_true]
      have ed : (hp8 ++ h.data.toList).drop 8 = h.data.toList := List.drop_left' rfl
      rw [ed, Lib.mk_data, cut_plain hh, ← h4]; exact hs
    · have e : fmo true h p = (((⟨#[104, 116, 116, 112, 115, 58, 47, 47]⟩ : ByteArray) ++ h) ++ (⟨#[58]⟩ : ByteArray)) ++ fmtB p := by unfold fmo; rw [if_pos ho, if_pos rfl, if_neg h4]
      have el : (fmo true h p).data.toList = hp8 ++ (h.data.toList ++ 58 :: Lib.decDigits p.toNat) := by
        rw [e, app_toList, app_toList, app_toList, hdig]
        show (hp8 ++ h.data.toList ++ [58]) ++ Lib.decDigits p.toNat = _
        simp
      unfold parO
      rw [el, pre7_8, pre8]
      simp only [Bool.false_eq_true, if_false, if_true]
      have ed : (hp8 ++ (h.data.toList ++ 58 :: Lib.decDigits p.toNat)).drop 8 = h.data.toList ++ 58 :: Lib.decDigits p.toNat := List.drop_left' rfl
      rw [ed, cut_port hh (by omega), hpn]; exact hs
  | false =>
    by_cases h4 : p = 80
    · have e : fmo false h p = (⟨#[104, 116, 116, 112, 58, 47, 47]⟩ : ByteArray) ++ h := by unfold fmo; rw [if_pos ho, if_neg (by simp), if_pos h4]
      have el : (fmo false h p).data.toList = hp7 ++ h.data.toList := by rw [e, app_toList]; rfl
      unfold parO
      rw [el, pre7]
      simp only [if_true]
      have ed : (hp7 ++ h.data.toList).drop 7 = h.data.toList := List.drop_left' rfl
      rw [ed, Lib.mk_data, cut_plain hh, ← h4]; exact hs
    · have e : fmo false h p = (((⟨#[104, 116, 116, 112, 58, 47, 47]⟩ : ByteArray) ++ h) ++ (⟨#[58]⟩ : ByteArray)) ++ fmtB p := by unfold fmo; rw [if_pos ho, if_neg (by simp), if_neg h4]
      have el : (fmo false h p).data.toList = hp7 ++ (h.data.toList ++ 58 :: Lib.decDigits p.toNat) := by
        rw [e, app_toList, app_toList, app_toList, hdig]
        show (hp7 ++ h.data.toList ++ [58]) ++ Lib.decDigits p.toNat = _
        simp
      unfold parO
      rw [el, pre7]
      simp only [if_true]
      have ed : (hp7 ++ (h.data.toList ++ 58 :: Lib.decDigits p.toNat)).drop 7 = h.data.toList ++ 58 :: Lib.decDigits p.toNat := List.drop_left' rfl
      rw [ed, cut_port hh (by omega), hpn]; exact hs
theorem labB_len' (s : ByteArray) : (Man.labB s).length = (Man.lab s.data.toList).length := by rw [← Man.labB_data, List.length_map]
theorem vhost_l (s : ByteArray) : vhost s = ((Man.lab s.data.toList).all (fun x => vlb ⟨x.toArray⟩) && decide ((s.size : Int) ≤ 60)) := by
  unfold vhost
  have e : (fun x : List UInt8 => vlb ⟨x.toArray⟩) ∘ (fun b : ByteArray => b.data.toList) = vlb := by funext b; rfl
  rw [← Man.labB_data, List.all_map, e]
abbrev wwwB : ByteArray := ⟨#[119, 119, 119, 46, 98, 97, 110, 107, 46, 99, 111, 109]⟩
abbrev bankB : ByteArray := ⟨#[98, 97, 110, 107, 46, 99, 111, 109]⟩
abbrev hbankB : ByteArray := ⟨#[104, 116, 116, 112, 115, 58, 47, 47, 98, 97, 110, 107, 46, 99, 111, 109]⟩
abbrev hwwwB : ByteArray := ⟨#[104, 116, 116, 112, 115, 58, 47, 47, 119, 119, 119, 46, 98, 97, 110, 107, 46, 99, 111, 109]⟩
theorem www_host : vhost wwwB = true := by rw [vhost_l]; decide +kernel
theorem bank_host : vhost bankB = true := by rw [vhost_l]; decide +kernel
theorem www_org : org wwwB 443 = true := by unfold org; rw [www_host]; rfl
theorem bank_org : org bankB 443 = true := by unfold org; rw [bank_host]; rfl
theorem www_may : muse true wwwB 443 bankB = true := by
  unfold muse
  rw [www_org, bank_host, labB_len']
  decide +kernel
theorem bank_may : muse true bankB 443 bankB = true := by
  unfold muse
  rw [bank_org, bank_host, labB_len']
  decide +kernel
theorem www_fmo : fmo true wwwB 443 = hwwwB := by unfold fmo; rw [if_pos www_org]; rfl
theorem bank_fmo : fmo true bankB 443 = hbankB := by unfold fmo; rw [if_pos bank_org]; rfl
theorem www_par : parO hwwwB = (true, wwwB, 443, true) := by rw [← www_fmo]; exact par_fmo _ _ _ www_org
theorem bank_par : parO hbankB = (true, bankB, 443, true) := by rw [← bank_fmo]; exact par_fmo _ _ _ bank_org
theorem www_ckb : ckb bankB hwwwB bankB = false := by
  unfold ckb; rw [if_pos rfl, www_par]
  show (if true = true then !(muse true wwwB 443 bankB) else true) = false
  rw [if_pos rfl, www_may]; rfl
theorem bank_ckb : ckb bankB hbankB bankB = false := by
  unfold ckb; rw [if_pos rfl, bank_par]
  show (if true = true then !(muse true bankB 443 bankB) else true) = false
  rw [if_pos rfl, bank_may]; rfl
theorem dfs_apart : dfs 211 hwwwB % 2147483647 ≠ dfs 211 hbankB % 2147483647 := by decide +kernel
theorem sgn_org {k : Int} (hk : vkey k = true) (s o o' : ByteArray) (ch n : Int) (pr : Bool) (c : Int) (h : dfs 211 o % 2147483647 ≠ dfs 211 o' % 2147483647) : sgn k (amsg s o' ch n pr ++ [c]) ≠ sgn k (amsg s o ch n pr ++ [c]) := by
  intro e
  rw [sgn_kh hk, sgn_kh hk] at e
  exact h (kh_one k [139, 7, 199, dfs 173 s] [ch, n, if pr = true then 1 else 0, c] e).symm
theorem sgn_cnt {k : Int} (hk : vkey k = true) (s o : ByteArray) (ch n : Int) (pr : Bool) (c c' : Int) (h : c % 2147483647 ≠ c' % 2147483647) : sgn k (amsg s o ch n pr ++ [c']) ≠ sgn k (amsg s o ch n pr ++ [c]) := by
  intro e
  rw [sgn_kh hk, sgn_kh hk] at e
  exact h (kh_one k [139, 7, 199, dfs 173 s, dfs 211 o, ch, n, if pr = true then 1 else 0] [] e).symm
theorem small_zero {d t : Int} (h0 : -2147483647 < d) (h1 : d < 2147483647) (e : d = 2147483647 * t) : d = 0 := by omega
theorem cert_inv {M D E r d q : Int} (h : d * D = M * q) (hE : D * E = 1 + M * r) : d = M * (E * q - r * d) := by
  have h2 : d * (D * E) = M * q * E := by rw [← Int.mul_assoc, h]
  rw [hE, Int.mul_add, Int.mul_one] at h2
  have e1 : M * (E * q) = M * q * E := by rw [Int.mul_comm E q, Int.mul_assoc]
  have e2 : M * (r * d) = d * (M * r) := by rw [Int.mul_comm r d, Int.mul_left_comm]
  rw [Int.mul_sub, e1, e2]
  omega
theorem two_keys (a b C K : Int) : a * C * K + a - (b * C * K + b) = (a - b) * (C * K + 1) := by
  rw [Int.mul_add, Int.mul_one, Int.sub_mul, Int.mul_assoc, Int.mul_assoc]
  omega
theorem kh_key9 {k k' : Int} (hk : vkey k = true) (hk' : vkey k' = true) (l : List Int) (hl : l.length = 9) (e : kh k' l = kh k l) : k' = k := by
  have h1 := of_decide_eq_true hk
  have h2 := of_decide_eq_true hk'
  have m1 : k % 2147483647 = k := Int.emod_eq_of_lt (by omega) (by omega)
  have m2 : k' % 2147483647 = k' := Int.emod_eq_of_lt (by omega) (by omega)
  have hp : (1000003 : Int) ^ 9 % 2147483647 = 1274554124 := by omega
  obtain ⟨q, hq⟩ := kh_key l 1274554124 (by rw [hl]; exact hp) e
  rw [m1, m2, two_keys] at hq
  have h3 := cert_inv (E := 76755781) (r := 45555499730696) hq (by decide +kernel)
  generalize 76755781 * q - 45555499730696 * (k' - k) = t at h3
  clear hq hp
  have := small_zero (by omega) (by omega) h3
  omega
theorem sgn_key {k k' : Int} (hk : vkey k = true) (hk' : vkey k' = true) (s o : ByteArray) (ch n : Int) (pr : Bool) (c : Int) (h : k ≠ k') : sgn k' (amsg s o ch n pr ++ [c]) ≠ sgn k (amsg s o ch n pr ++ [c]) := by
  intro e
  rw [sgn_kh hk, sgn_kh hk'] at e
  exact h (kh_key9 hk hk' _ rfl e).symm
theorem site_key (sd sh a b : Int) (ha : a % 2147483647 + 1 = b % 2147483647) : dk sd [179, sh, a] ≠ dk sd [179, sh, b] := by
  intro e
  unfold dk at e
  have hk : ∀ v : Int, kh sd [151, 179, sh, v] = hstep (hstep ([151, 179, sh].foldl hstep (hstep 11 sd)) v) sd := by intro v; rw [kh_split]; rfl
  rw [hk, hk] at e
  generalize [151, 179, sh].foldl hstep (hstep 11 sd) = X at e
  have h := one_eq e
  unfold hstep at h
  omega
theorem cka_of (pub : Int) {o : ByteArray} (hb : ckb bankB o bankB = false) (ch n : Int) (pr : Bool) (c sg wch cnt : Int) : cka pub bankB o ch n pr c sg bankB wch cnt = (if pr = true then (if ch = wch then (if vfy pub (amsg bankB o ch n pr ++ [c]) sg = true then (if c ≤ cnt then 4 else 0) else 5) else 3) else 2) := by
  unfold cka ckj; rw [hb, if_neg (by simp)]
theorem p_FnAssertions (L : List Int) (_ : L.length ≤ maxLen) (_ : L.length * 1 ≤ 140737488351232) (hw : ∀ x ∈ L, (Lit.int .u8 x).wf = true) : ∃ k, laws_FnAssertions.f k L = some true := by
  refine ev_k ?_
  unfold laws_FnAssertions.f
  rw [l_laws_big]
  simp only [Option.bind_some]
  by_cases hb : (L.length : Int) > 1048576
  · simp only [if_pos (decide_eq_true hb)]; exact Ev.now _
  simp only [if_neg (show ¬ decide ((L.length : Int) > 1048576) = true by simpa using hb)]
  have hL : L.length ≤ 1048576 := by omega
  obtain ⟨t0, e0, a0, b0⟩ := d_laws_at L 0 (by omega) (by omega) hL hw
  obtain ⟨t1, e1, a1, b1⟩ := d_laws_at L 1 (by omega) (by omega) hL hw
  obtain ⟨t2, e2, a2, b2⟩ := d_laws_at L 2 (by omega) (by omega) hL hw
  simp only [e0, e1, e2, Option.bind_some, wrap_in (x := 1 + t0) (by omega), wrap_in (x := t1 + 1) (by omega)]
  have hs : (⟨#[98, 97, 110, 107, 46, 99, 111, 109]⟩ : ByteArray).size ≤ 1048576 := by decide
  have hs2 : (⟨#[119, 119, 119, 46, 98, 97, 110, 107, 46, 99, 111, 109]⟩ : ByteArray).size ≤ 1048576 := by decide
  have hs3 : hwwwB.size ≤ 1048576 := by decide
  have hs4 : hbankB.size ≤ 1048576 := by decide
  have hs5 : (⟨#[115, 104, 111, 112, 46, 111, 114, 103]⟩ : ByteArray).size ≤ 1048576 := by decide
  have hs6 : (⟨#[98, 97, 110, 107, 46, 99, 111, 109]⟩ : ByteArray).size < 17592180000000 := by decide
  have hk := dk_key (1 + t0) [179, dfs 173 bankB, 3]
  have hk' := dk_key (1 + t0) [179, dfs 173 bankB, 4]
  have hvs : vstore 1 2 (1 + t0) t1 = true := by
    unfold vstore vkey
    simp only [Bool.and_eq_true, decide_eq_true_eq]; omega
  have hm : mka 1 2 (1 + t0) t1 true wwwB 443 bankB 3 t2 true = (1, 2, 1 + t0, t1 + 1, bankB, hwwwB, t2, 3, true, t1 + 1, sgn (dk (1 + t0) [179, dfs 173 bankB, 3]) (amsg bankB hwwwB t2 3 true ++ [t1 + 1]), true) := by
    have hsw : sws 1 2 (1 + t0) t1 bankB 3 (amsg bankB hwwwB t2 3 true) = (1, 2, 1 + t0, t1 + 1, sgn (dk (1 + t0) [179, dfs 173 bankB, 3]) (amsg bankB hwwwB t2 3 true ++ [t1 + 1]), true) := by
      unfold sws; exact if_pos ⟨hvs, by omega⟩
    unfold mka
    rw [if_pos www_may, www_fmo, hsw]
    rfl
  have hks : dk (1 + t0) [179, dfs 173 bankB, 3] ≠ dk (1 + t0) [179, dfs 173 bankB, 4] := site_key _ _ _ _ (by omega)
  refine Ev.bind (e_impl_MakeAssertion 1 2 (1 + t0) t1 true wwwB 443 bankB 3 t2 true hs2 hs (by omega)) (Ev.bind (e_spec_SitePublic 1 2 (1 + t0) t1 bankB 3 hs6) ?_)
  rw [hm]
  generalize dk (1 + t0) [179, dfs 173 bankB, 3] = K at hk hks
  have e4 : Ev (fun k => spec_SitePublic.f k 1 2 (1 + t0) (t1 + 1) bankB 4) (pubk (dk (1 + t0) [179, dfs 173 bankB, 4])) := e_spec_SitePublic 1 2 (1 + t0) (t1 + 1) bankB 4 hs6
  generalize dk (1 + t0) [179, dfs 173 bankB, 4] = K' at hk' hks e4
  have v0 := vfy_pub hk (amsg bankB hwwwB t2 3 true ++ [t1 + 1]) (sgn K (amsg bankB hwwwB t2 3 true ++ [t1 + 1]))
  rw [beq_self_eq_true] at v0
  simp only [if_true]
  refine Ev.bind (e_impl_CheckAssertion (pubk K) bankB hwwwB t2 3 true (t1 + 1) _ bankB t2 t1 hs hs3 hs) ?_
  have c1 : cka (pubk K) bankB hwwwB t2 3 true (t1 + 1) (sgn K (amsg bankB hwwwB t2 3 true ++ [t1 + 1])) bankB t2 t1 = 0 := by
    rw [cka_of _ www_ckb, if_pos rfl, if_pos rfl, if_pos v0, if_neg (by omega)]
  rw [c1]
  simp only [if_true, bne_self_eq_false]
  refine Ev.step (fun k => by rw [laws_FnAssertions.j0, if_neg (by simp)]) ?_
  simp only [e2, Option.bind_some, wrap_in (x := t2 + 1) (by omega), wrap_in (x := t1 + 1 + 1) (by omega)]
  refine Ev.bind (e_impl_CheckAssertion (pubk K) bankB hwwwB t2 3 true (t1 + 1) _ bankB (t2 + 1) t1 hs hs3 hs) ?_
  rw [cka_of _ www_ckb, if_pos rfl, if_neg (by omega)]
  simp only [if_true]
  refine Ev.bind (e_impl_CheckAssertion (pubk K) bankB hwwwB t2 3 true (t1 + 1) _ (⟨#[115, 104, 111, 112, 46, 111, 114, 103]⟩ : ByteArray) t2 t1 hs hs3 hs5) ?_
  have c3 : cka (pubk K) bankB hwwwB t2 3 true (t1 + 1) (sgn K (amsg bankB hwwwB t2 3 true ++ [t1 + 1])) (⟨#[115, 104, 111, 112, 46, 111, 114, 103]⟩ : ByteArray) t2 t1 = 1 := by
    unfold cka ckb
    rw [if_neg (by rw [Lib.toList_data, Lib.toList_data]; decide)]
    rfl
  rw [c3]
  simp only [if_true]
  refine Ev.bind (e_impl_CheckAssertion (pubk K) bankB hwwwB t2 3 true (t1 + 1) _ bankB t2 (t1 + 1) hs hs3 hs) ?_
  rw [cka_of _ www_ckb, if_pos rfl, if_pos rfl, if_pos v0, if_pos (Int.le_refl _)]
  simp only [if_true]
  refine Ev.bind (e_impl_CheckAssertion (pubk K) bankB hwwwB t2 3 false (t1 + 1) _ bankB t2 t1 hs hs3 hs) ?_
  rw [cka_of _ www_ckb, if_neg (by simp)]
  simp only [if_true]
  refine Ev.bind (e_impl_CheckAssertion (pubk K) bankB hbankB t2 3 true (t1 + 1) _ bankB t2 t1 hs hs4 hs) ?_
  have v5 : ¬ vfy (pubk K) (amsg bankB hbankB t2 3 true ++ [t1 + 1]) (sgn K (amsg bankB hwwwB t2 3 true ++ [t1 + 1])) = true := by
    rw [vfy_pub hk]
    intro e
    exact sgn_org hk bankB hwwwB hbankB t2 3 true (t1 + 1) dfs_apart (beq_iff_eq.1 e)
  rw [cka_of _ bank_ckb, if_pos rfl, if_pos rfl, if_neg v5]
  simp only [if_true]
  refine Ev.bind (e_impl_CheckAssertion (pubk K) bankB hwwwB t2 3 true (t1 + 1 + 1) _ bankB t2 t1 hs hs3 hs) ?_
  have v6 : ¬ vfy (pubk K) (amsg bankB hwwwB t2 3 true ++ [t1 + 1 + 1]) (sgn K (amsg bankB hwwwB t2 3 true ++ [t1 + 1])) = true := by
    rw [vfy_pub hk]
    intro e
    exact sgn_cnt hk bankB hwwwB t2 3 true (t1 + 1) (t1 + 1 + 1) (by omega) (beq_iff_eq.1 e)
  rw [cka_of _ www_ckb, if_pos rfl, if_pos rfl, if_neg v6]
  simp only [if_true]
  refine Ev.bind e4 ?_
  refine Ev.bind (e_impl_CheckAssertion (pubk K') bankB hwwwB t2 3 true (t1 + 1) _ bankB t2 t1 hs hs3 hs) ?_
  have v7 : ¬ vfy (pubk K') (amsg bankB hwwwB t2 3 true ++ [t1 + 1]) (sgn K (amsg bankB hwwwB t2 3 true ++ [t1 + 1])) = true := by
    rw [vfy_pub hk']
    intro e
    exact sgn_key hk hk' bankB hwwwB t2 3 true (t1 + 1) hks (beq_iff_eq.1 e)
  rw [cka_of _ www_ckb, if_pos rfl, if_pos rfl, if_neg v7]
  simp only [if_true]
  refine ev_of (fun _ => ?_)
  rw [l_impl_IsClone, Option.bind_some, if_pos (decide_eq_true (Int.le_refl _))]
  have hn : impl_AssertionName.f 4 = some (⟨#[99, 111, 117, 110, 116, 101, 114]⟩ : ByteArray) := by unfold impl_AssertionName.f; simp
  rw [hn, Option.bind_some, Lib.toList_data]
  rfl
end Go.Proofs.YtogcoedmagoogaaGreatDoor.SFnAssertions
namespace Go.Proofs.YtogcoedmagoogaaGreatDoor.Pure
open Go.RowKit Go.Proofs.YtogcoedmagoogaaGreatDoor.PFnAssertions Go.Proofs.YtogcoedmagoogaaGreatDoorW.PrintWords Go.Proofs.YtogcoedmagoogaaGreatDoorW.PrintLast
theorem FnAssertions : laws_FnAssertions.Pure := by
  exact SFnAssertions.p_FnAssertions
end Go.Proofs.YtogcoedmagoogaaGreatDoor.Pure

