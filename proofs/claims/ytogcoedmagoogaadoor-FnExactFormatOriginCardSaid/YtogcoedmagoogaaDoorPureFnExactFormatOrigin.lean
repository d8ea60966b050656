/- The law FnExactFormatOrigin, in plain numbers and lists: what its Go functions compute (as the kit's print tells it) answers true. Conditions: what the reading of the arguments gives (each number of its kind, each length a length). -/
import Derived.Test.YtogcoedmagoogaaDoorPFnExactFormatOriginx4
import Derived.Test.YtogcoedmagoogaaDoorMt
import Derived.Lib.ItoaNum
namespace Go.Proofs.YtogcoedmagoogaaDoor.SFnExactFormatOrigin
open Go.RowKit Go.Proofs.YtogcoedmagoogaaDoor.PFnExactFormatOrigin Go.Proofs.YtogcoedmagoogaaDoorW.PrintWords Go.Proofs.YtogcoedmagoogaaDoorW.PrintLast Go.Proofs.YtogcoedmagoogaaDoor.Mt
set_option linter.unusedVariables false
set_option linter.unusedSimpArgs false
theorem l_laws_szOrigin (c : Bool) (h : ByteArray) (p left : Int) (hl : 0 ≤ left ∧ left ≤ 1048576) (hn : h.size ≤ 9223372036854775807) : laws_szOrigin.f c h p left = some (szd left h.size) := szd_eq hl hn
def okc (c : Int) : Bool := (decide (97 ≤ c) && decide (c ≤ 122)) || (decide (48 ≤ c) && decide (c ≤ 57)) || decide (c = 45)
def okl (s : ByteArray) (d i : Nat) : Bool := srch (fun j => !okc (bt s j)) (fun _ => false) true d i
def ends (s : ByteArray) : Bool := decide (1 ≤ (s.size : Int) ∧ (s.size : Int) ≤ 20) && (!decide (bt s 0 = 45) && (bt s ((s.size : Int) - 1) != 45))
def vlb (s : ByteArray) : Bool := okl s s.size 0 && ends s
def vhost (s : ByteArray) : Bool := (Man.labB s).all vlb && decide ((s.size : Int) ≤ 60)
theorem okl_cases (s : ByteArray) (d i : Nat) : okl s (d + 1) i = if okc (bt s i) = true then okl s d (i + 1) else false := by
  unfold okl
  conv => lhs; unfold srch
  cases okc (bt s i) <;> simp
theorem okc_tree {α : Type} (c : Int) (A B : α) : (if c ≥ 97 then (if c ≤ 122 then A else (if c ≥ 48 then (if c ≤ 57 then A else (if (c = 45) then A else B)) else (if (c = 45) then A else B))) else (if c ≥ 48 then (if c ≤ 57 then A else (if (c = 45) then A else B)) else (if (c = 45) then A else B))) = if okc c = true then A else B := by
  unfold okc
  by_cases h1 : 97 ≤ c <;> by_cases h2 : c ≤ 122 <;> by_cases h3 : 48 ≤ c <;> by_cases h4 : c ≤ 57 <;> by_cases h5 : c = 45 <;> simp [h1, h2, h3, h4, h5]
theorem bt_at (s : ByteArray) (i : Nat) (h : i < s.size) : ∃ c : UInt8, s.data.toList.drop i = c :: s.data.toList.drop (i + 1) ∧ bt s (i : Int) = (c.toNat : Int) := by
  have hl : i < s.data.toList.length := by rw [← Lib.size_eq]; exact h
  refine ⟨s.data.toList[i], List.drop_eq_getElem_cons hl, ?_⟩
  unfold bt
  have e : ((i : Nat) : Int).toNat = i := by omega
  rw [dif_pos (by rw [e]; exact h)]
  rfl
def labFrom (p q : List UInt8) : List (List UInt8) := match Man.lab q with | h :: r => (p ++ h) :: r | [] => [p]
theorem lab_ne (q : List UInt8) : Man.lab q ≠ [] := by
  cases q with
  | nil => simp [Man.lab]
  | cons c t => unfold Man.lab; split
                · simp
                · split <;> simp
theorem labFrom_dot (p t : List UInt8) : labFrom p (46 :: t) = p :: labFrom [] t := by
  unfold labFrom
  have e : Man.lab (46 :: t) = [] :: Man.lab t := by rw [Man.lab, if_pos rfl]
  rw [e]
  have := lab_ne t
  cases h : Man.lab t with
  | nil => exact absurd h this
  | cons a b => simp
theorem labFrom_go (p t : List UInt8) (c : UInt8) (hc : c ≠ 46) : labFrom p (c :: t) = labFrom (p ++ [c]) t := by
  unfold labFrom
  have := lab_ne t
  have e : Man.lab (c :: t) = match Man.lab t with | h :: r => (c :: h) :: r | [] => [[c]] := by rw [Man.lab, if_neg hc]; rfl
  rw [e]
  cases h : Man.lab t with
  | nil => exact absurd h this
  | cons a b => simp
def mkB (ls : List (List UInt8)) : List ByteArray := ls.map fun l => ⟨l.toArray⟩
theorem mkB_lab (s : ByteArray) : mkB (Man.lab s.data.toList) = Man.labB s := by
  rw [← Man.labB_data]
  unfold mkB
  rw [List.map_map]
  have : ((fun l : List UInt8 => (⟨l.toArray⟩ : ByteArray)) ∘ fun b : ByteArray => b.data.toList) = id := by funext b; simp
  rw [this, List.map_id]
theorem e_spec_l9Labels (s : ByteArray) (hs : s.size ≤ 1048576) : Ev (fun k => spec_l9Labels.f k s) (Man.labB s) := by
  unfold spec_l9Labels.f
  have h : ∀ (d i g : Nat) (out : List ByteArray), i + d = s.size → g ≤ i → out.length ≤ i → Ev (fun k => spec_l9Labels.l0 k s out (g : Int) (i : Int)) (out ++ mkB (labFrom ((s.data.toList.drop g).take (i - g)) (s.data.toList.drop i))) := by
    intro d
    induction d with
    | zero =>
      intro i g out h hg ho
      have hi : i = s.size := by omega
      subst hi
      refine Ev.step (f := fun k => spec_l9Labels.l0 k s (out ++ [s.extract g s.size]) ((s.size + 1 : Nat) : Int) ((s.size + 1 : Nat) : Int)) (fun k => ?_) (ev1 (fun k => ?_))
      · rw [spec_l9Labels.l0, if_pos (by omega), if_pos rfl, if_pos (show (0 : Int) ≤ g by omega), if_pos (show (g : Int) ≤ s.size by omega), if_pos (by omega), wrap_in (by omega)]
        rfl
      · rw [spec_l9Labels.l0, if_neg (by omega)]
        have e : s.data.toList.drop s.size = [] := List.drop_eq_nil_of_le (by rw [← Lib.size_eq]; exact Nat.le_refl _)
        rw [e]
        have e2 : labFrom ((s.data.toList.drop g).take (s.size - g)) [] = [(s.data.toList.drop g).take (s.size - g)] := by simp [labFrom, Man.lab]
        rw [e2, Lib.extract_eq]
        rfl
    | succ d ih =>
      intro i g out h hg ho
      obtain ⟨c, hc1, hc2⟩ := bt_at s i (by omega)
      by_cases hc : c = 46
      · subst hc
        refine Ev.step (f := fun k => spec_l9Labels.l0 k s (out ++ [s.extract g i]) ((i + 1 : Nat) : Int) ((i + 1 : Nat) : Int)) (fun k => ?_) ?_
        · rw [spec_l9Labels.l0, if_pos (by omega), if_neg (by omega), if_pos (show (0 : Int) ≤ i by omega), if_pos (show (i : Int) < s.size by omega), if_pos (by rw [hc2]; rfl), if_pos (show (0 : Int) ≤ g by omega), if_pos (show (g : Int) ≤ i by omega), if_pos (by omega), wrap_in (by omega)]
          rfl
        · have := ih (i + 1) (i + 1) (out ++ [s.extract g i]) (by omega) (by omega) (by simp; omega)
          rw [hc1, labFrom_dot]
          have e : (s.data.toList.drop (i + 1)).take (i + 1 - (i + 1)) = [] := by simp
          rw [e] at this
          have e2 : mkB (((s.data.toList.drop g).take (i - g)) :: labFrom [] (s.data.toList.drop (i + 1))) = s.extract g i :: mkB (labFrom [] (s.data.toList.drop (i + 1))) := by rw [Lib.extract_eq]; rfl
          rw [e2]
          simpa using this
      · have hne : ¬ bt s (i : Int) = 46 := by
          rw [hc2]
          intro e
          have h46 : (46 : UInt8).toNat = 46 := rfl
          have h47 : c.toNat = (46 : UInt8).toNat := by omega
          exact hc (UInt8.toNat_inj.1 h47)
        refine Ev.step (f := fun k => spec_l9Labels.l0 k s out (g : Int) ((i + 1 : Nat) : Int)) (fun k => ?_) ?_
        · rw [spec_l9Labels.l0, if_pos (by omega), if_neg (by omega), if_pos (show (0 : Int) ≤ i by omega), if_pos (show (i : Int) < s.size by omega), if_neg hne, wrap_in (by omega)]
          rfl
        · have := ih (i + 1) g out (by omega) (by omega) (by omega)
          rw [hc1, labFrom_go _ _ _ hc]
          have e : (s.data.toList.drop g).take (i + 1 - g) = (s.data.toList.drop g).take (i - g) ++ [c] := by
            have e1 : i + 1 - g = (i - g) + 1 := by omega
            have hl : i - g < (s.data.toList.drop g).length := by rw [List.length_drop, ← Lib.size_eq]; omega
            rw [e1, List.take_succ_eq_append_getElem hl]
            congr 2
            rw [List.getElem_drop]
            have h2 : s.data.toList.drop i = s.data.toList[i]'(by rw [← Lib.size_eq]; omega) :: s.data.toList.drop (i + 1) := List.drop_eq_getElem_cons _
            rw [hc1] at h2
            have h3 := (List.cons.inj h2).1
            rw [h3]
            congr 1
            omega
          rw [e] at this
          exact this
  have h0 := h s.size 0 0 [] (by omega) (Nat.le_refl _) (by simp)
  have e : labFrom ((s.data.toList.drop 0).take (0 - 0)) (s.data.toList.drop 0) = Man.lab s.data.toList := by
    unfold labFrom
    simp only [List.drop_zero, Nat.sub_self, List.take_zero, List.nil_append]
    have := lab_ne s.data.toList
    cases h : Man.lab s.data.toList with
    | nil => exact absurd h this
    | cons a b => rfl
  rw [e, mkB_lab] at h0
  exact h0
theorem l_spec_l1In (a0 a1 a2 : Int) : spec_l1In.f a0 a1 a2 = some (decide (a1 ≤ a0 ∧ a0 ≤ a2)) := by
  unfold spec_l1In.f
  by_cases h : a0 ≥ a1
  · rw [if_pos h]; simp [show a1 ≤ a0 from h]
  · rw [if_neg h]; simp [show ¬ a1 ≤ a0 from h]
theorem e_spec_l9Label (s : ByteArray) (hs : s.size < 4000000000000000000) : Ev (fun k => spec_l9Label.f k s) (vlb s) := by
  unfold spec_l9Label.f
  have hend : Ev (fun k => spec_l9Label.l0 k s ((s.size : Nat) : Int)) (ends s) := by
    refine ev1 (fun k => ?_)
    rw [spec_l9Label.l0, if_neg (by omega), l_spec_l1In]
    unfold ends
    simp only [Option.bind_some]
    by_cases h : 1 ≤ (s.size : Int) ∧ (s.size : Int) ≤ 20
    · rw [if_pos (decide_eq_true h), if_pos (by omega), decide_eq_true h, wrap_in (by omega), if_pos (show 0 ≤ (s.size : Int) - 1 by omega), if_pos (show (s.size : Int) - 1 < s.size by omega)]
      by_cases h0 : bt s 0 = 45
      · rw [if_pos h0]; simp [h0]
      · rw [if_neg h0]; simp [h0]
    · rw [if_neg (by simpa using h), decide_eq_false h]; rfl
  have h : ∀ d i : Nat, i + d = s.size → Ev (fun k => spec_l9Label.l0 k s (i : Int)) (okl s d i && ends s) := by
    intro d
    induction d with
    | zero =>
      intro i h
      have : i = s.size := by omega
      subst this
      have e : (okl s 0 s.size && ends s) = ends s := by simp [okl, srch]
      rw [e]; exact hend
    | succ d ih =>
      intro i h
      have e0 : ∀ k, spec_l9Label.l0 (k + 1) s (i : Int) = if okc (bt s i) = true then spec_l9Label.l0 k s ((i + 1 : Nat) : Int) else some false := by
        intro k
        rw [spec_l9Label.l0, if_pos (show (i : Int) < s.size by omega), if_pos (show (0 : Int) ≤ i by omega), wrap_in (by omega), okc_tree]
        rfl
      rw [okl_cases]
      by_cases hc : okc (bt s i) = true
      · rw [if_pos hc]
        exact Ev.step (fun k => by rw [e0, if_pos hc]) (ih (i + 1) (by omega))
      · rw [if_neg hc]
        exact ev1 (fun k => by rw [e0, if_neg hc]; rfl)
  exact h s.size 0 (by omega)
theorem labB_small (s : ByteArray) (b : ByteArray) (h : b ∈ Man.labB s) : b.size ≤ s.size := by
  have hm : ∀ l : List UInt8, ∀ x ∈ Man.lab l, x.length ≤ l.length := by
    intro l
    induction l with
    | nil => intro x hx; simp [Man.lab] at hx; subst hx; simp
    | cons c t ih =>
      intro x hx
      unfold Man.lab at hx
      split at hx
      · rcases List.mem_cons.1 hx with rfl | h
        · simp
        · have := ih x h; simp; omega
      · split at hx
        · rename_i a b e
          rcases List.mem_cons.1 hx with rfl | h
          · have := ih a (by rw [e]; exact List.mem_cons_self); simp; omega
          · have := ih x (by rw [e]; exact List.mem_cons_of_mem _ h); simp; omega
        · simp at hx; subst hx; simp
  have h1 : b.data.toList ∈ Man.lab s.data.toList := by rw [← Man.labB_data]; exact List.mem_map.2 ⟨b, h, rfl⟩
  have := hm _ _ h1
  rw [Lib.size_eq, Lib.size_eq]; exact this
theorem labB_count (s : ByteArray) : (Man.labB s).length ≤ s.size + 1 := by
  rw [Man.labB_len]
  have := Lib.countB_le ⟨#[46]⟩ (by decide) s.size s (Nat.le_refl _)
  omega
theorem e_spec_IsHost (s : ByteArray) (hs : s.size ≤ 1048576) : Ev (fun k => spec_IsHost.f k s) (vhost s) := by
  unfold spec_IsHost.f
  refine Ev.bind (e_spec_l9Labels s hs) ?_
  have hb := labB_small s
  have hcnt := labB_count s
  unfold vhost
  generalize Man.labB s = ls at hb hcnt
  have h : ∀ d i : Nat, i + d = ls.length → Ev (fun k => spec_IsHost.l0 k s ls (i : Int)) ((ls.drop i).all vlb && decide ((s.size : Int) ≤ 60)) := by
    intro d
    induction d with
    | zero =>
      intro i h
      refine ev1 (fun k => ?_)
      rw [spec_IsHost.l0, if_neg (by omega), drop_end (by omega)]; simp
    | succ d ih =>
      intro i h
      have hi : i < ls.length := by omega
      have er : rdOf ByteArray.empty ls (i : Int) = ls[i] := rdOf_in _ hi
      have hsz : ls[i].size ≤ s.size := hb _ (List.getElem_mem hi)
      rw [drop_at hi]
      have hv := e_spec_l9Label ls[i] (by omega)
      cases hvb : vlb ls[i] with
      | true =>
        rw [hvb] at hv
        refine Ev.step (f := fun k => (spec_l9Label.f k ls[i]).bind fun t => if t = true then spec_IsHost.l0 k s ls ((i + 1 : Nat) : Int) else some false) (fun k => ?_) (Ev.bind hv ?_)
        · rw [spec_IsHost.l0, if_pos (by omega), if_pos (by omega), er, wrap_in (by omega)]; rfl
        · have := ih (i + 1) (by omega)
          rw [List.all_cons, hvb, Bool.true_and]
          simp only [if_true]
          exact this
      | false =>
        rw [hvb] at hv
        refine Ev.step (f := fun k => (spec_l9Label.f k ls[i]).bind fun t => if t = true then spec_IsHost.l0 k s ls ((i + 1 : Nat) : Int) else some false) (fun k => ?_) (Ev.bind hv ?_)
        · rw [spec_IsHost.l0, if_pos (by omega), if_pos (by omega), er, wrap_in (by omega)]; rfl
        · rw [List.all_cons, hvb, Bool.false_and, Bool.false_and]
          simp only [Bool.false_eq_true, if_false]
          exact Ev.now _
  have := h ls.length 0 (by omega)
  simpa using this
def org (h : ByteArray) (p : Int) : Bool := vhost h && decide (1 ≤ p ∧ p ≤ 65535)
theorem e_spec_IsOrigin (c : Bool) (h : ByteArray) (p : Int) (hs : h.size ≤ 1048576) : Ev (fun k => spec_IsOrigin.f k c h p) (org h p) := by
  unfold spec_IsOrigin.f org
  refine Ev.bind (e_spec_IsHost h hs) ?_
  cases vhost h with
  | true => simp only [if_true, l_spec_l1In, Option.bind_some, Bool.true_and]; exact Ev.now _
  | false => simp only [Bool.false_eq_true, if_false, Bool.false_and]; exact Ev.now _
def fmtB (n : Int) : ByteArray := ⟨(Lib.itoa n).toArray⟩
theorem l_strconv_Itoa {n : Int} (h0 : -9223372036854775808 ≤ n) (h1 : n ≤ 9223372036854775807) : strconv_Itoa.f n = some (fmtB n) := by
  unfold strconv_Itoa.f
  rw [if_pos ⟨h0, h1⟩]; rfl
theorem digits_len : ∀ u : Nat, (Lib.decDigits u).length ≤ u + 1 := by
  intro u
  induction u using Nat.strongRecOn with
  | _ u ih =>
    rw [Lib.decDigits]
    split
    · simp
    · have := ih (u / 10) (by omega)
      simp; omega
theorem fmtB_len {n : Int} (h : 0 ≤ n) : (fmtB n).size ≤ n.toNat + 1 := by
  have e : (fmtB n).size = (Lib.decDigits n.toNat).length := by
    unfold fmtB Lib.itoa
    rw [if_neg (by omega)]
    show ((Lib.decDigits n.toNat).toArray).size = _
    simp
  rw [e]; exact digits_len _
theorem one_digit (d : Int) (h0 : 0 ≤ d) (h1 : d < 10) : strOfNums [(wrap64 (48 + d)) % 256] = ⟨#[UInt8.ofNat (48 + d.toNat)]⟩ := by
  rw [wrap_in (by omega)]
  unfold strOfNums
  have e : ((48 + d) % 256).toNat = 48 + d.toNat := by omega
  simp [e]
theorem e_spec_FormatInt {n : Int} (h0 : 1 ≤ n) (h1 : n ≤ 1000000000000000000) : Ev (fun k => spec_FormatInt.f k n) (fmtB n) := by
  unfold spec_FormatInt.f
  simp only [if_neg (show ¬ n = 0 by omega)]
  have hz : ∀ acc : ByteArray, Ev (fun k => spec_FormatInt.l0 k n acc 0) acc := fun acc => ev1 (fun k => by rw [spec_FormatInt.l0, if_pos rfl, if_neg (by omega)])
  have h : ∀ (x : Nat) (acc : ByteArray), 0 < x → acc.size + x ≤ 1000000000000000001 → Ev (fun k => spec_FormatInt.l0 k n acc (x : Int)) (⟨(Lib.decDigits x).toArray⟩ ++ acc) := by
    intro x
    induction x using Nat.strongRecOn with
    | _ x ih =>
      intro acc hx hc
      have ht : Int.tmod (x : Int) 10 = ((x % 10 : Nat) : Int) := by rw [tmod_of (by omega)]; omega
      have hq : Int.tdiv (x : Int) 10 = ((x / 10 : Nat) : Int) := by rw [Int.tdiv_eq_ediv_of_nonneg (by omega)]; omega
      have hs1 : (⟨#[UInt8.ofNat (48 + x % 10)]⟩ : ByteArray).size = 1 := rfl
      have hd : strOfNums [(wrap64 (48 + ((x % 10 : Nat) : Int))) % 256] = ⟨#[UInt8.ofNat (48 + x % 10)]⟩ := by
        rw [one_digit _ (by omega) (by omega)]
        have e : (((x % 10 : Nat) : Int)).toNat = x % 10 := by omega
        rw [e]
      have step : ∀ k, spec_FormatInt.l0 (k + 1) n acc (x : Int) = spec_FormatInt.l0 k n ((⟨#[UInt8.ofNat (48 + x % 10)]⟩ : ByteArray) ++ acc) ((x / 10 : Nat) : Int) := by
        intro k
        rw [spec_FormatInt.l0, if_neg (by omega), ht, if_neg (by omega), hq, wrap_in (x := ((x / 10 : Nat) : Int)) (by omega)]
        simp only [Option.bind_some]
        rw [hd, if_pos (by rw [hs1]; omega)]
      refine Ev.step step ?_
      rw [Lib.decDigits]
      by_cases h10 : x < 10
      · rw [dif_pos h10]
        have e1 : x / 10 = 0 := by omega
        have e2 : x % 10 = x := by omega
        rw [e1, e2]
        exact hz _
      · rw [dif_neg h10]
        have hi := ih (x / 10) (by omega) ((⟨#[UInt8.ofNat (48 + x % 10)]⟩ : ByteArray) ++ acc) (by omega) (by rw [ByteArray.size_append, hs1]; omega)
        have e : (⟨(Lib.decDigits (x / 10) ++ [UInt8.ofNat (48 + x % 10)]).toArray⟩ : ByteArray) ++ acc = (⟨(Lib.decDigits (x / 10)).toArray⟩ : ByteArray) ++ ((⟨#[UInt8.ofNat (48 + x % 10)]⟩ : ByteArray) ++ acc) := by
          apply ByteArray.ext
          simp [ByteArray.data_append]
        rw [e]
        exact hi
  have hn := h n.toNat (⟨#[]⟩ : ByteArray) (by omega) (by show 0 + n.toNat ≤ _; omega)
  have e1 : ((n.toNat : Nat) : Int) = n := by omega
  rw [e1] at hn
  have e2 : (⟨(Lib.decDigits n.toNat).toArray⟩ : ByteArray) ++ (⟨#[]⟩ : ByteArray) = fmtB n := by
    unfold fmtB Lib.itoa
    rw [if_neg (by omega)]
    apply ByteArray.ext
    simp [ByteArray.data_append]
  rw [e2] at hn
  exact hn
def fmo (c : Bool) (h : ByteArray) (p : Int) : ByteArray := if org h p = true then (if c = true then (if p = 443 then ((⟨#[104, 116, 116, 112, 115, 58, 47, 47]⟩ : ByteArray) ++ h) else ((((⟨#[104, 116, 116, 112, 115, 58, 47, 47]⟩ : ByteArray) ++ h) ++ (⟨#[58]⟩ : ByteArray)) ++ fmtB p)) else (if p = 80 then ((⟨#[104, 116, 116, 112, 58, 47, 47]⟩ : ByteArray) ++ h) else ((((⟨#[104, 116, 116, 112, 58, 47, 47]⟩ : ByteArray) ++ h) ++ (⟨#[58]⟩ : ByteArray)) ++ fmtB p))) else (⟨#[]⟩ : ByteArray)
theorem org_port {h : ByteArray} {p : Int} (e : org h p = true) : 1 ≤ p ∧ p ≤ 65535 := by
  unfold org at e; simp only [Bool.and_eq_true, decide_eq_true_eq] at e; exact e.2
theorem s8 (h : ByteArray) : ((⟨#[104, 116, 116, 112, 115, 58, 47, 47]⟩ : ByteArray) ++ h).size = 8 + h.size := by rw [ByteArray.size_append]; rfl
theorem s7 (h : ByteArray) : ((⟨#[104, 116, 116, 112, 58, 47, 47]⟩ : ByteArray) ++ h).size = 7 + h.size := by rw [ByteArray.size_append]; rfl
theorem s1 (h : ByteArray) : (h ++ (⟨#[58]⟩ : ByteArray)).size = h.size + 1 := by rw [ByteArray.size_append]; rfl
theorem e_spec_FormatOrigin (c : Bool) (h : ByteArray) (p : Int) (hs : h.size ≤ 1048576) : Ev (fun k => spec_FormatOrigin.f k c h p) (fmo c h p) := by
  unfold spec_FormatOrigin.f fmo
  refine Ev.bind (e_spec_IsOrigin c h p hs) ?_
  cases ho : org h p with
  | false => simp only [Bool.false_eq_true, if_false]; exact Ev.now _
  | true =>
  have hp := org_port ho
  have hl := fmtB_len (n := p) (by omega)
  simp only [if_true]
  cases c with
  | true =>
    simp only [if_true]
    by_cases h4 : p = 443
    · simp only [if_pos h4, if_pos (show 8 + h.size ≤ 9223372036854775807 by omega)]; exact Ev.now _
    · simp only [if_neg h4, s8, if_pos (show 8 + h.size ≤ 9223372036854775807 by omega), if_pos (show 8 + h.size + 1 ≤ 9223372036854775807 by omega)]
      refine Ev.bind (e_spec_FormatInt hp.1 (by omega)) ?_
      simp only [s1, s8, if_pos (show 8 + h.size + 1 + (fmtB p).size ≤ 9223372036854775807 by omega)]
      exact Ev.now _
  | false =>
    simp only [Bool.false_eq_true, if_false]
    by_cases h4 : p = 80
    · simp only [if_pos h4, if_pos (show 7 + h.size ≤ 9223372036854775807 by omega)]; exact Ev.now _
    · simp only [if_neg h4, s7, if_pos (show 7 + h.size ≤ 9223372036854775807 by omega), if_pos (show 7 + h.size + 1 ≤ 9223372036854775807 by omega)]
      refine Ev.bind (e_spec_FormatInt hp.1 (by omega)) ?_
      simp only [s1, s7, if_pos (show 7 + h.size + 1 + (fmtB p).size ≤ 9223372036854775807 by omega)]
      exact Ev.now _
theorem l_laws_toOrigin (c : Bool) (h : ByteArray) (p : Int) : laws_toOrigin.f c h p = some (c, h, p) := rfl
theorem l_strings_Split (s : ByteArray) (hs : s.size < 4294967281) : strings_Split.f s ⟨#[46]⟩ = some (Man.labB s) := by
  unfold strings_Split.f
  rw [if_pos ⟨rfl, hs⟩]
theorem e_impl_IsHost (s : ByteArray) : Ev (fun k => impl_IsHost.f k s) (vhost s) := by
  unfold impl_IsHost.f
  by_cases h60 : (s.size : Int) > 60
  · refine ev_of (fun k => ?_)
    rw [if_pos h60]
    unfold vhost
    rw [decide_eq_false (show ¬ (s.size : Int) ≤ 60 by omega), Bool.and_false]
  simp only [if_neg h60]
  rw [show vhost s = (Man.labB s).all vlb by unfold vhost; rw [decide_eq_true (show (s.size : Int) ≤ 60 by omega), Bool.and_true]]
  rw [l_strings_Split s (by omega)]
  simp only [Option.bind_some]
  have hb := labB_small s
  have hcnt := labB_count s
  generalize Man.labB s = ls at hb hcnt
  have h : ∀ d i : Nat, i + d = ls.length → Ev (fun k => impl_IsHost.l0 k ls (ls.length : Int) (i : Int)) ((ls.drop i).all vlb) := by
    intro d
    induction d with
    | zero =>
      intro i h
      refine ev1 (fun k => ?_)
      rw [impl_IsHost.l0, if_neg (by omega), drop_end (by omega)]; simp
    | succ d ih =>
      intro i h
      have hi : i < ls.length := by omega
      have er : rdOf ByteArray.empty ls (i : Int) = ls[i] := rdOf_in _ hi
      have hsz : ls[i].size ≤ s.size := hb _ (List.getElem_mem hi)
      rw [drop_at hi, List.all_cons]
      have hnext := ih (i + 1) (by omega)
      generalize (ls.drop (i + 1)).all vlb = rest at hnext
      generalize ls[i] = b at er hsz
      have hloop : ∀ d j : Nat, j + d = b.size → Ev (fun k => impl_IsHost.l1 k b (j : Int) ls (ls.length : Int) (i : Int)) (okl b d j && rest) := by
        intro d
        induction d with
        | zero =>
          intro j hj
          have e : (okl b 0 j && rest) = rest := by simp [okl, srch]
          rw [e]
          refine Ev.step (fun k => ?_) hnext
          rw [impl_IsHost.l1, if_neg (by omega), wrap_in (by omega)]; rfl
        | succ d ihd =>
          intro j hj
          have e0 : ∀ k, impl_IsHost.l1 (k + 1) b (j : Int) ls (ls.length : Int) (i : Int) = if okc (bt b j) = true then impl_IsHost.l1 k b ((j + 1 : Nat) : Int) ls (ls.length : Int) (i : Int) else some false := by
            intro k
            rw [impl_IsHost.l1, if_pos (show (j : Int) < b.size by omega), if_pos (show (0 : Int) ≤ j by omega), wrap_in (by omega), okc_tree]
            rfl
          rw [okl_cases]
          by_cases hc : okc (bt b j) = true
          · rw [if_pos hc]
            exact Ev.step (fun k => by rw [e0, if_pos hc]) (ihd (j + 1) (by omega))
          · rw [if_neg hc]
            exact ev1 (fun k => by rw [e0, if_neg hc]; rfl)
      have hj1 : ∀ x : Bool, Ev (fun k => impl_IsHost.j1 k b ls (ls.length : Int) (i : Int) x) (if x = true then false else (okl b b.size 0 && rest)) := by
        intro x
        cases x with
        | true => exact ev1 (fun k => by rw [impl_IsHost.j1, if_pos rfl]; rfl)
        | false =>
          refine Ev.step (f := fun k => impl_IsHost.l1 k b 0 ls (ls.length : Int) (i : Int)) (fun k => ?_) ?_
          · rw [impl_IsHost.j1, if_neg (by simp)]
          · simpa using hloop b.size 0 (by omega)
      by_cases h1 : (b.size : Int) < 1
      · refine Ev.step (f := fun k => impl_IsHost.j1 k b ls (ls.length : Int) (i : Int) true) (fun k => ?_) ?_
        · rw [impl_IsHost.l0, if_pos (by omega), if_pos (by omega), if_pos (by omega), er, if_pos h1]
        · have e : (vlb b && rest) = false := by unfold vlb ends; rw [decide_eq_false (by omega)]; simp
          rw [e]; exact hj1 true
      by_cases h2 : (b.size : Int) > 20
      · refine Ev.step (f := fun k => impl_IsHost.j1 k b ls (ls.length : Int) (i : Int) true) (fun k => ?_) ?_
        · rw [impl_IsHost.l0, if_pos (by omega), if_pos (by omega), if_pos (by omega), er, if_neg h1, if_pos h2]
        · have e : (vlb b && rest) = false := by unfold vlb ends; rw [decide_eq_false (by omega)]; simp
          rw [e]; exact hj1 true
      by_cases h3 : bt b 0 = 45
      · refine Ev.step (f := fun k => impl_IsHost.j1 k b ls (ls.length : Int) (i : Int) true) (fun k => ?_) ?_
        · rw [impl_IsHost.l0, if_pos (by omega), if_pos (by omega), if_pos (by omega), er, if_neg h1, if_neg h2, if_pos (by omega), if_pos h3]
        · have e : (vlb b && rest) = false := by unfold vlb ends; rw [decide_eq_true h3]; simp
          rw [e]; exact hj1 true
      refine Ev.step (f := fun k => impl_IsHost.j1 k b ls (ls.length : Int) (i : Int) (bt b ((b.size : Int) - 1) == 45)) (fun k => ?_) ?_
      · rw [impl_IsHost.l0, if_pos (by omega), if_pos (by omega), if_pos (by omega), er, if_neg h1, if_neg h2, if_pos (by omega), if_neg h3, wrap_in (by omega), if_pos (show 0 ≤ (b.size : Int) - 1 by omega), if_pos (show (b.size : Int) - 1 < b.size by omega)]
      · have e : (vlb b && rest) = (if (bt b ((b.size : Int) - 1) == 45) = true then false else (okl b b.size 0 && rest)) := by
          unfold vlb ends
          rw [decide_eq_true (show 1 ≤ (b.size : Int) ∧ (b.size : Int) ≤ 20 by omega), decide_eq_false h3]
          by_cases h4 : bt b ((b.size : Int) - 1) = 45
          · rw [h4]; simp
          · have h5 : (bt b ((b.size : Int) - 1) != 45) = true := bne_iff_ne.2 h4
            have h6 : (bt b ((b.size : Int) - 1) == 45) = false := beq_eq_false_iff_ne.2 h4
            rw [h5, h6]; simp
        rw [e]; exact hj1 _
  have := h ls.length 0 (by omega)
  simpa using this
theorem l_impl_InRange (a0 a1 a2 : Int) : impl_InRange.f a0 a1 a2 = some (decide (a1 ≤ a0 ∧ a0 ≤ a2)) := by
  unfold impl_InRange.f
  by_cases h : a1 ≤ a0
  · rw [if_pos h]; simp [h]
  · rw [if_neg h]; simp [h]
theorem e_impl_IsOrigin (c : Bool) (h : ByteArray) (p : Int) : Ev (fun k => impl_IsOrigin.f k c h p) (org h p) := by
  unfold impl_IsOrigin.f org
  refine Ev.bind (e_impl_IsHost h) ?_
  cases vhost h with
  | true => simp only [if_true, l_impl_InRange, Option.bind_some, Bool.true_and]; exact Ev.now _
  | false => simp only [Bool.false_eq_true, if_false, Bool.false_and]; exact Ev.now _
theorem l_impl_FormatInt {n : Int} (h0 : -9223372036854775808 ≤ n) (h1 : n ≤ 9223372036854775807) : impl_FormatInt.f n = some (fmtB n) := by
  unfold impl_FormatInt.f; rw [l_strconv_Itoa h0 h1]; rfl
theorem e_impl_FormatOrigin (c : Bool) (h : ByteArray) (p : Int) (hs : h.size ≤ 1048576) : Ev (fun k => impl_FormatOrigin.f k c h p) (fmo c h p) := by
  unfold impl_FormatOrigin.f fmo
  refine Ev.bind (e_impl_IsOrigin c h p) ?_
  cases ho : org h p with
  | false => simp only [Bool.false_eq_true, if_false]; exact Ev.now _
  | true =>
  have hp := org_port ho
  have hl := fmtB_len (n := p) (by omega)
  rw [l_impl_FormatInt (by omega) (by omega)]
  simp only [if_true, Option.bind_some]
  cases c with
  | true =>
    simp only [if_true]
    by_cases h4 : p = 443
    · simp only [if_pos h4, if_pos (show 8 + h.size ≤ 9223372036854775807 by omega)]; exact Ev.now _
    · simp only [if_neg h4, s1, s8, if_pos (show 8 + h.size ≤ 9223372036854775807 by omega), if_pos (show 8 + h.size + 1 ≤ 9223372036854775807 by omega), if_pos (show 8 + h.size + 1 + (fmtB p).size ≤ 9223372036854775807 by omega)]
      exact Ev.now _
  | false =>
    simp only [Bool.false_eq_true, if_false]
    by_cases h4 : p = 80
    · simp only [if_pos h4, if_pos (show 7 + h.size ≤ 9223372036854775807 by omega)]; exact Ev.now _
    · simp only [if_neg h4, s1, s7, if_pos (show 7 + h.size ≤ 9223372036854775807 by omega), if_pos (show 7 + h.size + 1 ≤ 9223372036854775807 by omega), if_pos (show 7 + h.size + 1 + (fmtB p).size ≤ 9223372036854775807 by omega)]
      exact Ev.now _
theorem p_FnExactFormatOrigin (c : Bool) (h : ByteArray) (p : Int) (_ : True) (hn : h.size ≤ 9223372036854775807) (_ : (Lit.int .i64 p).wf = true) : ∃ k, laws_FnExactFormatOrigin.f k c h p = some true := by
  refine ev_k ?_
  unfold laws_FnExactFormatOrigin.f
  rw [l_laws_szOrigin c h p _ (by omega) hn]; simp only [Option.bind_some]
  by_cases g : szd 1048576 h.size < 0
  · simp only [if_pos g]; exact Ev.now _
  · simp only [if_neg g]; have hl' := (szd_len g).1
    rw [l_laws_toOrigin]; simp only [Option.bind_some]
    refine Ev.bind (e_spec_FormatOrigin c h p (by omega)) (Ev.bind (e_impl_FormatOrigin c h p (by omega)) ?_)
    simp only [if_true]
    exact Ev.now _
end Go.Proofs.YtogcoedmagoogaaDoor.SFnExactFormatOrigin
