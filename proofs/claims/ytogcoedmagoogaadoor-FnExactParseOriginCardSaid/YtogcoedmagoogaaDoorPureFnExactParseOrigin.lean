/- The law FnExactParseOrigin, in plain numbers and lists: what its Go functions compute (as the kit's print tells it) answers true. Conditions: what the reading of the arguments gives (each number of its kind, each length a length). -/
import Derived.Test.YtogcoedmagoogaaDoorPFnExactParseOriginx6
import Derived.Test.YtogcoedmagoogaaDoorMt
import Derived.Lib.ItoaNum
namespace Go.Proofs.YtogcoedmagoogaaDoor.SFnExactParseOrigin
open Go.RowKit Go.Proofs.YtogcoedmagoogaaDoor.PFnExactParseOrigin Go.Proofs.YtogcoedmagoogaaDoorW.PrintWords Go.Proofs.YtogcoedmagoogaaDoorW.PrintLast Go.Proofs.YtogcoedmagoogaaDoor.Mt
set_option linter.unusedVariables false
set_option linter.unusedSimpArgs false
def okc (c : Int) : Bool := (decide (97 ≤ c) && decide (c ≤ 122)) || (decide (48 ≤ c) && decide (c ≤ 57)) || decide (c = 45)
def okl (s : ByteArray) (d i : Nat) : Bool := srch (fun j => !okc (bt s j)) (fun _ => false) true d i
def ends (s : ByteArray) : Bool := decide (1 ≤ (s.size : Int) ∧ (s.size : Int) ≤ 20) && (!decide (bt s 0 = 45) && (bt s ((s.size : Int) - 1) != 45))
def vlb (s : ByteArray) : Bool := okl s s.size 0 && ends s
def vhost (s : ByteArray) : Bool := (Man.labB s).all vlb && decide ((s.size : Int) ≤ 60)
theorem okl_cases (s : ByteArray) (d i : Nat) : okl s (d + 1) i = if okc (bt s i) = true then okl s d (i + 1) else false := by
  unfold okl
  conv => lhs; unfold srch
  cases okc (bt s i) <;> simp
theorem okc_tree {α : Type} (c : Int) (A B : α) : (if c ≥ 97 then (if c ≤ 122 then A else (if c ≥ 48 then (if c ≤ 57 then A else (if (c = 45) then A else B)) else (if (c = 45) then A else B))) else (if c ≥ 48 then (if c ≤ 57 then A else (if (c = 45) then A else B)) else (if (c = 45) then A else B))) = if okc c = true then A else B := by
  unfold okc
  by_cases h1 : 97 ≤ c <;> by_cases h2 : c ≤ 122 <;> by_cases h3 : 48 ≤ c <;> by_cases h4 : c ≤ 57 <;> by_cases h5 : c = 45 <;> simp [h1, h2, h3, h4, h5]
theorem bt_at (s : ByteArray) (i : Nat) (h : i < s.size) : ∃ c : UInt8, s.data.toList.drop i = c :: s.data.toList.drop (i + 1) ∧ bt s (i : Int) = (c.toNat : Int) := by
  have hl : i < s.data.toList.length := by rw [← Lib.size_eq]; exact h
  refine ⟨s.data.toList[i], List.drop_eq_getElem_cons hl, ?_⟩
  unfold bt
  have e : ((i : Nat) : Int).toNat = i := by omega
  rw [dif_pos (by rw [e]; exact h)]
  rfl
def labFrom (p q : List UInt8) : List (List UInt8) := match Man.lab q with | h :: r => (p ++ h) :: r | [] => [p]
theorem lab_ne (q : List UInt8) : Man.lab q ≠ [] := by
  cases q with
  | nil => simp [Man.lab]
  | cons c t => unfold Man.lab; split
                · simp
                · split <;> simp
theorem labFrom_dot (p t : List UInt8) : labFrom p (46 :: t) = p :: labFrom [] t := by
  unfold labFrom
  have e : Man.lab (46 :: t) = [] :: Man.lab t := by rw [Man.lab, if_pos rfl]
  rw [e]
  have := lab_ne t
  cases h : Man.lab t with
  | nil => exact absurd h this
  | cons a b => simp
theorem labFrom_go (p t : List UInt8) (c : UInt8) (hc : c ≠ 46) : labFrom p (c :: t) = labFrom (p ++ [c]) t := by
  unfold labFrom
  have := lab_ne t
  have e : Man.lab (c :: t) = match Man.lab t with | h :: r => (c :: h) :: r | [] => [[c]] := by rw [Man.lab, if_neg hc]; rfl
  rw [e]
  cases h : Man.lab t with
  | nil => exact absurd h this
  | cons a b => simp
def mkB (ls : List (List UInt8)) : List ByteArray := ls.map fun l => ⟨l.toArray⟩
theorem mkB_lab (s : ByteArray) : mkB (Man.lab s.data.toList) = Man.labB s := by
  rw [← Man.labB_data]
  unfold mkB
  rw [List.map_map]
  have : ((fun l : List UInt8 => (⟨l.toArray⟩ : ByteArray)) ∘ fun b : ByteArray => b.data.toList) = id := by funext b; simp
  rw [this, List.map_id]
theorem e_spec_l9Labels (s : ByteArray) (hs : s.size ≤ 1048576) : Ev (fun k => spec_l9Labels.f k s) (Man.labB s) := by
  unfold spec_l9Labels.f
  have h : ∀ (d i g : Nat) (out : List ByteArray), i + d = s.size → g ≤ i → out.length ≤ i → Ev (fun k => spec_l9Labels.l0 k s out (g : Int) (i : Int)) (out ++ mkB (labFrom ((s.data.toList.drop g).take (i - g)) (s.data.toList.drop i))) := by
    intro d
    induction d with
    | zero =>
      intro i g out h hg ho
      have hi : i = s.size := by omega
      subst hi
      refine Ev.step (f := fun k => spec_l9Labels.l0 k s (out ++ [s.extract g s.size]) ((s.size + 1 : Nat) : Int) ((s.size + 1 : Nat) : Int)) (fun k => ?_) (ev1 (fun k => ?_))
      · rw [spec_l9Labels.l0, if_pos (by omega), if_pos rfl, if_pos (show (0 : Int) ≤ g by omega), if_pos (show (g : Int) ≤ s.size by omega), if_pos (by omega), wrap_in (by omega)]
        rfl
      · rw [spec_l9Labels.l0, if_neg (by omega)]
        have e : s.data.toList.drop s.size = [] := List.drop_eq_nil_of_le (by rw [← Lib.size_eq]; exact Nat.le_refl _)
        rw [e]
        have e2 : labFrom ((s.data.toList.drop g).take (s.size - g)) [] = [(s.data.toList.drop g).take (s.size - g)] := by simp [labFrom, Man.lab]
        rw [e2, Lib.extract_eq]
        rfl
    | succ d ih =>
      intro i g out h hg ho
      obtain ⟨c, hc1, hc2⟩ := bt_at s i (by omega)
      by_cases hc : c = 46
      · subst hc
        refine Ev.step (f := fun k => spec_l9Labels.l0 k s (out ++ [s.extract g i]) ((i + 1 : Nat) : Int) ((i + 1 : Nat) : Int)) (fun k => ?_) ?_
        · rw [spec_l9Labels.l0, if_pos (by omega), if_neg (by omega), if_pos (show (0 : Int) ≤ i by omega), if_pos (show (i : Int) < s.size by omega), if_pos (by rw [hc2]; rfl), if_pos (show (0 : Int) ≤ g by omega), if_pos (show (g : Int) ≤ i by omega), if_pos (by omega), wrap_in (by omega)]
          rfl
        · have := ih (i + 1) (i + 1) (out ++ [s.extract g i]) (by omega) (by omega) (by simp; omega)
          rw [hc1, labFrom_dot]
          have e : (s.data.toList.drop (i + 1)).take (i + 1 - (i + 1)) = [] := by simp
          rw [e] at this
          have e2 : mkB (((s.data.toList.drop g).take (i - g)) :: labFrom [] (s.data.toList.drop (i + 1))) = s.extract g i :: mkB (labFrom [] (s.data.toList.drop (i + 1))) := by rw [Lib.extract_eq]; rfl
          rw [e2]
          simpa using this
      · have hne : ¬ bt s (i : Int) = 46 := by
          rw [hc2]
          intro e
          have h46 : (46 : UInt8).toNat = 46 := rfl
          have h47 : c.toNat = (46 : UInt8).toNat := by omega
          exact hc (UInt8.toNat_inj.1 h47)
        refine Ev.step (f := fun k => spec_l9Labels.l0 k s out (g : Int) ((i + 1 : Nat) : Int)) (fun k => ?_) ?_
        · rw [spec_l9Labels.l0, if_pos (by omega), if_neg (by omega), if_pos (show (0 : Int) ≤ i by omega), if_pos (show (i : Int) < s.size by omega), if_neg hne, wrap_in (by omega)]
          rfl
        · have := ih (i + 1) g out (by omega) (by omega) (by omega)
          rw [hc1, labFrom_go _ _ _ hc]
          have e : (s.data.toList.drop g).take (i + 1 - g) = (s.data.toList.drop g).take (i - g) ++ [c] := by
            have e1 : i + 1 - g = (i - g) + 1 := by omega
            have hl : i - g < (s.data.toList.drop g).length := by rw [List.length_drop, ← Lib.size_eq]; omega
            rw [e1, List.take_succ_eq_append_getElem hl]
            congr 2
            rw [List.getElem_drop]
            have h2 : s.data.toList.drop i = s.data.toList[i]'(by rw [← Lib.size_eq]; omega) :: s.data.toList.drop (i + 1) := List.drop_eq_getElem_cons _
            rw [hc1] at h2
            have h3 := (List.cons.inj h2).1
            rw [h3]
            congr 1
            omega
          rw [e] at this
          exact this
  have h0 := h s.size 0 0 [] (by omega) (Nat.le_refl _) (by simp)
  have e : labFrom ((s.data.toList.drop 0).take (0 - 0)) (s.data.toList.drop 0) = Man.lab s.data.toList := by
    unfold labFrom
    simp only [List.drop_zero, Nat.sub_self, List.take_zero, List.nil_append]
    have := lab_ne s.data.toList
    cases h : Man.lab s.data.toList with
    | nil => exact absurd h this
    | cons a b => rfl
  rw [e, mkB_lab] at h0
  exact h0
theorem l_spec_l1In (a0 a1 a2 : Int) : spec_l1In.f a0 a1 a2 = some (decide (a1 ≤ a0 ∧ a0 ≤ a2)) := by
  unfold spec_l1In.f
  by_cases h : a0 ≥ a1
  · rw [if_pos h]; simp [show a1 ≤ a0 from h]
  · rw [if_neg h]; simp [show ¬ a1 ≤ a0 from h]
theorem e_spec_l9Label (s : ByteArray) (hs : s.size < 4000000000000000000) : Ev (fun k => spec_l9Label.f k s) (vlb s) := by
  unfold spec_l9Label.f
  have hend : Ev (fun k => spec_l9Label.l0 k s ((s.size : Nat) : Int)) (ends s) := by
    refine ev1 (fun k => ?_)
    rw [spec_l9Label.l0, if_neg (by omega), l_spec_l1In]
    unfold ends
    simp only [Option.bind_some]
    by_cases h : 1 ≤ (s.size : Int) ∧ (s.size : Int) ≤ 20
    · rw [if_pos (decide_eq_true h), if_pos (by omega), decide_eq_true h, wrap_in (by omega), if_pos (show 0 ≤ (s.size : Int) - 1 by omega), if_pos (show (s.size : Int) - 1 < s.size by omega)]
      by_cases h0 : bt s 0 = 45
      · rw [if_pos h0]; simp [h0]
      · rw [if_neg h0]; simp [h0]
    · rw [if_neg (by simpa using h), decide_eq_false h]; rfl
  have h : ∀ d i : Nat, i + d = s.size → Ev (fun k => spec_l9Label.l0 k s (i : Int)) (okl s d i && ends s) := by
    intro d
    induction d with
    | zero =>
      intro i h
      have : i = s.size := by omega
      subst this
      have e : (okl s 0 s.size && ends s) = ends s := by simp [okl, srch]
      rw [e]; exact hend
    | succ d ih =>
      intro i h
      have e0 : ∀ k, spec_l9Label.l0 (k + 1) s (i : Int) = if okc (bt s i) = true then spec_l9Label.l0 k s ((i + 1 : Nat) : Int) else some false := by
        intro k
        rw [spec_l9Label.l0, if_pos (show (i : Int) < s.size by omega), if_pos (show (0 : Int) ≤ i by omega), wrap_in (by omega), okc_tree]
        rfl
      rw [okl_cases]
      by_cases hc : okc (bt s i) = true
      · rw [if_pos hc]
        exact Ev.step (fun k => by rw [e0, if_pos hc]) (ih (i + 1) (by omega))
      · rw [if_neg hc]
        exact ev1 (fun k => by rw [e0, if_neg hc]; rfl)
  exact h s.size 0 (by omega)
theorem labB_small (s : ByteArray) (b : ByteArray) (h : b ∈ Man.labB s) : b.size ≤ s.size := by
  have hm : ∀ l : List UInt8, ∀ x ∈ Man.lab l, x.length ≤ l.length := by
    intro l
    induction l with
    | nil => intro x hx; simp [Man.lab] at hx; subst hx; simp
    | cons c t ih =>
      intro x hx
      unfold Man.lab at hx
      split at hx
      · rcases List.mem_cons.1 hx with rfl | h
        · simp
        · have := ih x h; simp; omega
      · split at hx
        · rename_i a b e
          rcases List.mem_cons.1 hx with rfl | h
          · have := ih a (by rw [e]; exact List.mem_cons_self); simp; omega
          · have := ih x (by rw [e]; exact List.mem_cons_of_mem _ h); simp; omega
        · simp at hx; subst hx; simp
  have h1 : b.data.toList ∈ Man.lab s.data.toList := by rw [← Man.labB_data]; exact List.mem_map.2 ⟨b, h, rfl⟩
  have := hm _ _ h1
  rw [Lib.size_eq, Lib.size_eq]; exact this
theorem labB_count (s : ByteArray) : (Man.labB s).length ≤ s.size + 1 := by
  rw [Man.labB_len]
  have := Lib.countB_le ⟨#[46]⟩ (by decide) s.size s (Nat.le_refl _)
  omega
theorem e_spec_IsHost (s : ByteArray) (hs : s.size ≤ 1048576) : Ev (fun k => spec_IsHost.f k s) (vhost s) := by
  unfold spec_IsHost.f
  refine Ev.bind (e_spec_l9Labels s hs) ?_
  have hb := labB_small s
  have hcnt := labB_count s
  unfold vhost
  generalize Man.labB s = ls at hb hcnt
  have h : ∀ d i : Nat, i + d = ls.length → Ev (fun k => spec_IsHost.l0 k s ls (i : Int)) ((ls.drop i).all vlb && decide ((s.size : Int) ≤ 60)) := by
    intro d
    induction d with
    | zero =>
      intro i h
      refine ev1 (fun k => ?_)
      rw [spec_IsHost.l0, if_neg (by omega), drop_end (by omega)]; simp
    | succ d ih =>
      intro i h
      have hi : i < ls.length := by omega
      have er : rdOf ByteArray.empty ls (i : Int) = ls[i] := rdOf_in _ hi
      have hsz : ls[i].size ≤ s.size := hb _ (List.getElem_mem hi)
      rw [drop_at hi]
      have hv := e_spec_l9Label ls[i] (by omega)
      cases hvb : vlb ls[i] with
      | true =>
        rw [hvb] at hv
        refine Ev.step (f := fun k => (spec_l9Label.f k ls[i]).bind fun t => if t = true then spec_IsHost.l0 k s ls ((i + 1 : Nat) : Int) else some false) (fun k => ?_) (Ev.bind hv ?_)
        · rw [spec_IsHost.l0, if_pos (by omega), if_pos (by omega), er, wrap_in (by omega)]; rfl
        · have := ih (i + 1) (by omega)
          rw [List.all_cons, hvb, Bool.true_and]
          simp only [if_true]
          exact this
      | false =>
        rw [hvb] at hv
        refine Ev.step (f := fun k => (spec_l9Label.f k ls[i]).bind fun t => if t = true then spec_IsHost.l0 k s ls ((i + 1 : Nat) : Int) else some false) (fun k => ?_) (Ev.bind hv ?_)
        · rw [spec_IsHost.l0, if_pos (by omega), if_pos (by omega), er, wrap_in (by omega)]; rfl
        · rw [List.all_cons, hvb, Bool.false_and, Bool.false_and]
          simp only [Bool.false_eq_true, if_false]
          exact Ev.now _
  have := h ls.length 0 (by omega)
  simpa using this
def org (h : ByteArray) (p : Int) : Bool := vhost h && decide (1 ≤ p ∧ p ≤ 65535)
theorem e_spec_IsOrigin (c : Bool) (h : ByteArray) (p : Int) (hs : h.size ≤ 1048576) : Ev (fun k => spec_IsOrigin.f k c h p) (org h p) := by
  unfold spec_IsOrigin.f org
  refine Ev.bind (e_spec_IsHost h hs) ?_
  cases vhost h with
  | true => simp only [if_true, l_spec_l1In, Option.bind_some, Bool.true_and]; exact Ev.now _
  | false => simp only [Bool.false_eq_true, if_false, Bool.false_and]; exact Ev.now _
def fmtB (n : Int) : ByteArray := ⟨(Lib.itoa n).toArray⟩
theorem l_strconv_Itoa {n : Int} (h0 : -9223372036854775808 ≤ n) (h1 : n ≤ 9223372036854775807) : strconv_Itoa.f n = some (fmtB n) := by
  unfold strconv_Itoa.f
  rw [if_pos ⟨h0, h1⟩]; rfl
theorem digits_len : ∀ u : Nat, (Lib.decDigits u).length ≤ u + 1 := by
  intro u
  induction u using Nat.strongRecOn with
  | _ u ih =>
    rw [Lib.decDigits]
    split
    · simp
    · have := ih (u / 10) (by omega)
      simp; omega
theorem fmtB_len {n : Int} (h : 0 ≤ n) : (fmtB n).size ≤ n.toNat + 1 := by
  have e : (fmtB n).size = (Lib.decDigits n.toNat).length := by
    unfold fmtB Lib.itoa
    rw [if_neg (by omega)]
    show ((Lib.decDigits n.toNat).toArray).size = _
    simp
  rw [e]; exact digits_len _
theorem one_digit (d : Int) (h0 : 0 ≤ d) (h1 : d < 10) : strOfNums [(wrap64 (48 + d)) % 256] = ⟨#[UInt8.ofNat (48 + d.toNat)]⟩ := by
  rw [wrap_in (by omega)]
  unfold strOfNums
  have e : ((48 + d) % 256).toNat = 48 + d.toNat := by omega
  simp [e]
theorem e_spec_FormatInt {n : Int} (h0 : 1 ≤ n) (h1 : n ≤ 1000000000000000000) : Ev (fun k => spec_FormatInt.f k n) (fmtB n) := by
  unfold spec_FormatInt.f
  simp only [if_neg (show ¬ n = 0 by omega)]
  have hz : ∀ acc : ByteArray, Ev (fun k => spec_FormatInt.l0 k n acc 0) acc := fun acc => ev1 (fun k => by rw [spec_FormatInt.l0, if_pos rfl, if_neg (by omega)])
  have h : ∀ (x : Nat) (acc : ByteArray), 0 < x → acc.size + x ≤ 1000000000000000001 → Ev (fun k => spec_FormatInt.l0 k n acc (x : Int)) (⟨(Lib.decDigits x).toArray⟩ ++ acc) := by
    intro x
    induction x using Nat.strongRecOn with
    | _ x ih =>
      intro acc hx hc
      have ht : Int.tmod (x : Int) 10 = ((x % 10 : Nat) : Int) := by rw [tmod_of (by omega)]; omega
      have hq : Int.tdiv (x : Int) 10 = ((x / 10 : Nat) : Int) := by rw [Int.tdiv_eq_ediv_of_nonneg (by omega)]; omega
      have hs1 : (⟨#[UInt8.ofNat (48 + x % 10)]⟩ : ByteArray).size = 1 := rfl
      have hd : strOfNums [(wrap64 (48 + ((x % 10 : Nat) : Int))) % 256] = ⟨#[UInt8.ofNat (48 + x % 10)]⟩ := by
        rw [one_digit _ (by omega) (by omega)]
        have e : (((x % 10 : Nat) : Int)).toNat = x % 10 := by omega
        rw [e]
      have step : ∀ k, spec_FormatInt.l0 (k + 1) n acc (x : Int) = spec_FormatInt.l0 k n ((⟨#[UInt8.ofNat (48 + x % 10)]⟩ : ByteArray) ++ acc) ((x / 10 : Nat) : Int) := by
        intro k
        rw [spec_FormatInt.l0, if_neg (by omega), ht, if_neg (by omega), hq, wrap_in (x := ((x / 10 : Nat) : Int)) (by omega)]
        simp only [Option.bind_some]
        rw [hd, if_pos (by rw [hs1]; omega)]
      refine Ev.step step ?_
      rw [Lib.decDigits]
      by_cases h10 : x < 10
      · rw [dif_pos h10]
        have e1 : x / 10 = 0 := by omega
        have e2 : x % 10 = x := by omega
        rw [e1, e2]
        exact hz _
      · rw [dif_neg h10]
        have hi := ih (x / 10) (by omega) ((⟨#[UInt8.ofNat (48 + x % 10)]⟩ : ByteArray) ++ acc) (by omega) (by rw [ByteArray.size_append, hs1]; omega)
        have e : (⟨(Lib.decDigits (x / 10) ++ [UInt8.ofNat (48 + x % 10)]).toArray⟩ : ByteArray) ++ acc = (⟨(Lib.decDigits (x / 10)).toArray⟩ : ByteArray) ++ ((⟨#[UInt8.ofNat (48 + x % 10)]⟩ : ByteArray) ++ acc) := by
          apply ByteArray.ext
          simp [ByteArray.data_append]
        rw [e]
        exact hi
  have hn := h n.toNat (⟨#[]⟩ : ByteArray) (by omega) (by show 0 + n.toNat ≤ _; omega)
  have e1 : ((n.toNat : Nat) : Int) = n := by omega
  rw [e1] at hn
  have e2 : (⟨(Lib.decDigits n.toNat).toArray⟩ : ByteArray) ++ (⟨#[]⟩ : ByteArray) = fmtB n := by
    unfold fmtB Lib.itoa
    rw [if_neg (by omega)]
    apply ByteArray.ext
    simp [ByteArray.data_append]
  rw [e2] at hn
  exact hn
def fmo (c : Bool) (h : ByteArray) (p : Int) : ByteArray := if org h p = true then (if c = true then (if p = 443 then ((⟨#[104, 116, 116, 112, 115, 58, 47, 47]⟩ : ByteArray) ++ h) else ((((⟨#[104, 116, 116, 112, 115, 58, 47, 47]⟩ : ByteArray) ++ h) ++ (⟨#[58]⟩ : ByteArray)) ++ fmtB p)) else (if p = 80 then ((⟨#[104, 116, 116, 112, 58, 47, 47]⟩ : ByteArray) ++ h) else ((((⟨#[104, 116, 116, 112, 58, 47, 47]⟩ : ByteArray) ++ h) ++ (⟨#[58]⟩ : ByteArray)) ++ fmtB p))) else (⟨#[]⟩ : ByteArray)
theorem org_port {h : ByteArray} {p : Int} (e : org h p = true) : 1 ≤ p ∧ p ≤ 65535 := by
  unfold org at e; simp only [Bool.and_eq_true, decide_eq_true_eq] at e; exact e.2
theorem s8 (h : ByteArray) : ((⟨#[104, 116, 116, 112, 115, 58, 47, 47]⟩ : ByteArray) ++ h).size = 8 + h.size := by rw [ByteArray.size_append]; rfl
theorem s7 (h : ByteArray) : ((⟨#[104, 116, 116, 112, 58, 47, 47]⟩ : ByteArray) ++ h).size = 7 + h.size := by rw [ByteArray.size_append]; rfl
theorem s1 (h : ByteArray) : (h ++ (⟨#[58]⟩ : ByteArray)).size = h.size + 1 := by rw [ByteArray.size_append]; rfl
theorem e_spec_FormatOrigin (c : Bool) (h : ByteArray) (p : Int) (hs : h.size ≤ 1048576) : Ev (fun k => spec_FormatOrigin.f k c h p) (fmo c h p) := by
  unfold spec_FormatOrigin.f fmo
  refine Ev.bind (e_spec_IsOrigin c h p hs) ?_
  cases ho : org h p with
  | false => simp only [Bool.false_eq_true, if_false]; exact Ev.now _
  | true =>
  have hp := org_port ho
  have hl := fmtB_len (n := p) (by omega)
  simp only [if_true]
  cases c with
  | true =>
    simp only [if_true]
    by_cases h4 : p = 443
    · simp only [if_pos h4, if_pos (show 8 + h.size ≤ 9223372036854775807 by omega)]; exact Ev.now _
    · simp only [if_neg h4, s8, if_pos (show 8 + h.size ≤ 9223372036854775807 by omega), if_pos (show 8 + h.size + 1 ≤ 9223372036854775807 by omega)]
      refine Ev.bind (e_spec_FormatInt hp.1 (by omega)) ?_
      simp only [s1, s8, if_pos (show 8 + h.size + 1 + (fmtB p).size ≤ 9223372036854775807 by omega)]
      exact Ev.now _
  | false =>
    simp only [Bool.false_eq_true, if_false]
    by_cases h4 : p = 80
    · simp only [if_pos h4, if_pos (show 7 + h.size ≤ 9223372036854775807 by omega)]; exact Ev.now _
    · simp only [if_neg h4, s7, if_pos (show 7 + h.size ≤ 9223372036854775807 by omega), if_pos (show 7 + h.size + 1 ≤ 9223372036854775807 by omega)]
      refine Ev.bind (e_spec_FormatInt hp.1 (by omega)) ?_
      simp only [s1, s7, if_pos (show 7 + h.size + 1 + (fmtB p).size ≤ 9223372036854775807 by omega)]
      exact Ev.now _
theorem decFrom_app : ∀ (l : List UInt8) (b : UInt8) (acc : Nat), Lib.decFrom acc (l ++ [b]) = (Lib.decFrom acc l).bind fun n => (Lib.digitVal b).map fun d => n * 10 + d
  | [], b, acc => by simp only [List.nil_append, Lib.decFrom, Option.bind_some]; cases Lib.digitVal b <;> rfl
  | a :: t, b, acc => by
    simp only [List.cons_append, Lib.decFrom]
    cases Lib.digitVal a with
    | none => rfl
    | some e => exact decFrom_app t b _
theorem digit_of (d : Nat) (h : d < 10) : Lib.digitVal (UInt8.ofNat (48 + d)) = some d := by
  have e : (UInt8.ofNat (48 + d)).toNat = 48 + d := by simp; omega
  unfold Lib.digitVal
  rw [e, if_pos ⟨by omega, by omega⟩]
  congr 1; omega
theorem dec_back : ∀ u : Nat, Lib.decFrom 0 (Lib.decDigits u) = some u := by
  intro u
  induction u using Nat.strongRecOn with
  | _ u ih =>
    rw [Lib.decDigits]
    by_cases h : u < 10
    · rw [dif_pos h]; simp only [Lib.decFrom, digit_of u h]; simp
    · rw [dif_neg h, decFrom_app, ih (u / 10) (by omega)]
      simp only [Option.bind_some, digit_of (u % 10) (by omega), Option.map_some]
      congr 1; omega
theorem nd_le : ∀ (k u : Nat), u < 10 ^ (k + 1) → Lib.nDigits u ≤ k + 1
  | 0, u, h => by rw [Lib.nDigits_small (by simpa using h)]; omega
  | k + 1, u, h => by
    by_cases h10 : u < 10
    · rw [Lib.nDigits_small h10]; omega
    · rw [Lib.nDigits_big h10]
      have := nd_le k (u / 10) (by rw [Nat.pow_succ] at h; omega)
      omega
theorem dec_len13 {u : Nat} (h : u ≤ 1000000000000) : (Lib.decDigits u).length ≤ 13 := by
  rw [Lib.decDigits_length]
  exact nd_le 12 u (by omega)
theorem dec_len1 (u : Nat) : 1 ≤ (Lib.decDigits u).length := by
  rw [Lib.decDigits_length]
  exact Lib.nDigits_pos u
theorem atoi_back {u : Nat} (h : u ≤ 1000000000000) : Lib.atoiAll (Lib.decDigits u) = .ok (u : Int) := by
  have hl := dec_len13 h
  rw [Lib.atoiAll_short _ (by omega)]
  have hn := dec_len1 u
  have hd := dec_back u
  generalize Lib.decDigits u = l at hn hd
  cases l with
  | nil => simp at hn
  | cons c r =>
    have hdv : ∃ d, Lib.digitVal c = some d := by
      simp only [Lib.decFrom] at hd
      cases h : Lib.digitVal c with
      | none => rw [h] at hd; cases hd
      | some d => exact ⟨d, rfl⟩
    obtain ⟨d, hdv⟩ := hdv
    have hb := Lib.digitVal_eq hdv
    have h45 : (c == 45) = false := beq_eq_false_iff_ne.2 (fun e => by subst e; have : (45 : UInt8).toNat = 45 := rfl; omega)
    have h43 : (c == 43) = false := beq_eq_false_iff_ne.2 (fun e => by subst e; have : (43 : UInt8).toNat = 43 := rfl; omega)
    have e : Lib.atoi (c :: r) = some (u : Int) := by
      unfold Lib.atoi
      simp only [h45, h43, Bool.false_eq_true, if_false]
      unfold Lib.decNat
      rw [hd]; rfl
    rw [e]; rfl
def pint (l : List UInt8) : Int × Bool := match Lib.decFrom 0 l with
  | some u => if u ≤ 1000000000000 ∧ Lib.decDigits u = l then ((u : Int), true) else (0, false)
  | none => (0, false)
theorem pint_yes {u : Nat} (h : u ≤ 1000000000000) : pint (Lib.decDigits u) = ((u : Int), true) := by unfold pint; rw [dec_back]; simp [h]
theorem pint_no {l : List UInt8} (h : ¬ ∃ u : Nat, u ≤ 1000000000000 ∧ Lib.decDigits u = l) : pint l = (0, false) := by
  unfold pint
  split
  · rw [if_neg (fun e => h ⟨_, e.1, e.2⟩)]
  · rfl
theorem itoa_nat (u : Nat) : Lib.itoa (u : Int) = Lib.decDigits u := by unfold Lib.itoa; rw [if_neg (by omega), Int.toNat_natCast]
theorem fmtB_zero : fmtB 0 = (⟨#[48]⟩ : ByteArray) := by
  unfold fmtB Lib.itoa
  rw [if_neg (by omega), Lib.decDigits_one (i := (0 : Int).toNat) (by decide)]
  rfl
theorem fmt0 {n : Int} (h0 : 0 ≤ n) (h1 : n ≤ 1000000000000) : Ev (fun k => spec_FormatInt.f k n) (fmtB n) := by
  by_cases h : n = 0
  · subst h
    rw [fmtB_zero]
    unfold spec_FormatInt.f
    simp only [if_true]
    exact Ev.now _
  · exact e_spec_FormatInt (by omega) (by omega)
theorem e_spec_ParseInt (s : ByteArray) (hs : s.size ≤ 1048576) : Ev (fun k => spec_ParseInt.f k s) (pint s.data.toList) := by
  unfold spec_ParseInt.f
  simp only [l_spec_l1In, Option.bind_some]
  by_cases hl : 1 ≤ (s.size : Int) ∧ (s.size : Int) ≤ 13
  case neg =>
    simp only [if_neg (show ¬ decide (1 ≤ (s.size : Int) ∧ (s.size : Int) ≤ 13) = true by simpa using hl)]
    rw [pint_no]
    · exact Ev.now _
    · rintro ⟨u, hu, e⟩
      have h1 := dec_len1 u
      have h2 := dec_len13 hu
      rw [e, ← Lib.size_eq] at h1 h2
      omega
  simp only [if_pos (show decide (1 ≤ (s.size : Int) ∧ (s.size : Int) ≤ 13) = true by simpa using hl)]
  have h : ∀ d i acc : Nat, i + d = s.size → Lib.decFrom 0 (s.data.toList.take i) = some acc → acc < 10 ^ i → Ev (fun k => spec_ParseInt.l0 k s (acc : Int) (i : Int)) (pint s.data.toList) := by
    intro d
    induction d with
    | zero =>
      intro i acc h hd hb
      have hi : i = s.size := by omega
      subst hi
      have et : s.data.toList.take s.size = s.data.toList := List.take_of_length_le (by rw [← Lib.size_eq]; exact Nat.le_refl _)
      rw [et] at hd
      by_cases hm : (acc : Int) > 1000000000000
      · refine ev1 (fun k => ?_)
        rw [spec_ParseInt.l0, if_neg (by omega), if_pos hm]
        unfold pint; rw [hd]
        simp only
        rw [if_neg (fun q => by have := q.1; omega)]
      · have hm' : acc ≤ 1000000000000 := by omega
        refine Ev.step (f := fun k => (spec_FormatInt.f k (acc : Int)).bind fun t131 => (if t131.toList = s.toList then (some ((acc : Int), true)) else (some (0, false)))) (fun k => by rw [spec_ParseInt.l0, if_neg (by omega), if_neg hm]) (Ev.bind (fmt0 (by omega) (by omega)) ?_)
        refine ev_of (fun _ => ?_)
        have ef : (fmtB (acc : Int)).toList = Lib.decDigits acc := by
          unfold fmtB; rw [Lib.toList_data, itoa_nat]
        rw [ef, Lib.toList_data]
        unfold pint; rw [hd]
        simp only
        by_cases he : Lib.decDigits acc = s.data.toList
        · rw [if_pos he, if_pos ⟨hm', he⟩]
        · rw [if_neg he, if_neg (fun q => he q.2)]
    | succ d ih =>
      intro i acc h hd hb
      obtain ⟨c, hc1, hc2⟩ := bt_at s i (by omega)
      have hp : (10 : Nat) ^ i ≤ 10 ^ 13 := Nat.pow_le_pow_right (by decide) (by omega)
      have hp' : (10 : Nat) ^ 13 = 10000000000000 := by decide
      have hlt := UInt8.toNat_lt c
      have hget : s.data.toList[i]? = some c := by
        have : (s.data.toList.drop i)[0]? = some c := by rw [hc1]; rfl
        rwa [List.getElem?_drop, Nat.add_zero] at this
      by_cases hdig : 48 ≤ c.toNat ∧ c.toNat ≤ 57
      · have hv : Lib.digitVal c = some (c.toNat - 48) := by unfold Lib.digitVal; rw [if_pos hdig]
        have hn := Lib.decFrom_take _ i 0 acc c _ hd hget hv
        refine Ev.step (f := fun k => spec_ParseInt.l0 k s ((acc * 10 + (c.toNat - 48) : Nat) : Int) ((i + 1 : Nat) : Int)) (fun k => ?_) (ih (i + 1) _ (by omega) hn (by rw [Nat.pow_succ]; omega))
        rw [spec_ParseInt.l0, if_pos (by omega), if_pos (by omega), l_spec_l1In, Option.bind_some, hc2, wrap_in (x := (c.toNat : Int)) (by omega), if_pos (by simp; omega)]
        have e1 : ((c.toNat : Int) - 48) % 256 = (c.toNat : Int) - 48 := by omega
        rw [e1, wrap_in (x := 10 * (acc : Int)) (by omega), wrap_in (x := 10 * (acc : Int) + ((c.toNat : Int) - 48)) (by omega), wrap_in (x := (i : Int) + 1) (by omega)]
        congr 1
        omega
      · refine ev1 (fun k => ?_)
        rw [spec_ParseInt.l0, if_pos (by omega), if_pos (by omega), l_spec_l1In, Option.bind_some, hc2, wrap_in (x := (c.toNat : Int)) (by omega), if_neg (by simp; omega)]
        unfold pint
        cases hx : Lib.decFrom 0 s.data.toList with
        | none => rfl
        | some u =>
          obtain ⟨v, hv⟩ := Lib.digit_of_decFrom _ _ _ hx i c hget
          have := Lib.digitVal_eq hv
          omega
  exact h s.size 0 0 (by omega) rfl (by decide)
def finO (x : Bool) (h : ByteArray) (p : Int) (s : ByteArray) : Bool × ByteArray × Int × Bool := if org h p = true then (if (fmo x h p).toList = s.toList then (x, h, p, true) else (false, (⟨#[]⟩ : ByteArray), 0, false)) else (false, (⟨#[]⟩ : ByteArray), 0, false)
def cutO (x : Bool) (p : Int) (r s : ByteArray) : Bool × ByteArray × Int × Bool :=
  if (Lib.cut r.data.toList [58]).2.2 = true then (if (pint (Lib.cut r.data.toList [58]).2.1).2 = true then finO x ⟨(Lib.cut r.data.toList [58]).1.toArray⟩ (pint (Lib.cut r.data.toList [58]).2.1).1 s else (false, (⟨#[]⟩ : ByteArray), 0, false)) else finO x ⟨(Lib.cut r.data.toList [58]).1.toArray⟩ p s
def hp7 : List UInt8 := [104, 116, 116, 112, 58, 47, 47]
def hp8 : List UInt8 := [104, 116, 116, 112, 115, 58, 47, 47]
def parO (s : ByteArray) : Bool × ByteArray × Int × Bool := if Lib.hasPrefix s.data.toList hp7 = true then cutO false 80 ⟨(s.data.toList.drop 7).toArray⟩ s else if Lib.hasPrefix s.data.toList hp8 = true then cutO true 443 ⟨(s.data.toList.drop 8).toArray⟩ s else (false, (⟨#[]⟩ : ByteArray), 0, false)
theorem pre_take (l p : List UInt8) : Lib.hasPrefix l p = true ↔ l.take p.length = p := by
  unfold Lib.hasPrefix
  rw [List.isPrefixOf_iff_prefix, List.prefix_iff_eq_take]
  exact ⟨fun h => h.symm, fun h => h.symm⟩
theorem ib_no (c : UInt8) : ∀ l : List UInt8, (∀ b ∈ l, b ≠ c) → Lib.indexByte l c = -1
  | [], _ => rfl
  | b :: l, h => by
    unfold Lib.indexByte
    rw [beq_eq_false_iff_ne.2 (h b List.mem_cons_self), ib_no c l (fun x hx => h x (List.mem_cons_of_mem _ hx))]
    rfl
theorem ib_at (c : UInt8) : ∀ (p t : List UInt8), (∀ b ∈ p, b ≠ c) → Lib.indexByte (p ++ c :: t) c = p.length
  | [], t, _ => by simp [Lib.indexByte]
  | b :: p, t, h => by
    simp only [List.cons_append]
    unfold Lib.indexByte
    rw [beq_eq_false_iff_ne.2 (h b List.mem_cons_self), ib_at c p t (fun x hx => h x (List.mem_cons_of_mem _ hx))]
    have : ((p.length : Int) == -1) = false := beq_eq_false_iff_ne.2 (by omega)
    rw [this]; simp
theorem cut_no {l : List UInt8} (h : ∀ b ∈ l, b ≠ 58) : Lib.cut l [58] = (l, [], false) := by
  unfold Lib.cut
  rw [Lib.index_one, ib_no 58 l h, if_neg (by decide)]
theorem cut_at {l t : List UInt8} {i : Nat} (h : ∀ b ∈ l.take i, b ≠ 58) (ht : l.drop i = 58 :: t) : Lib.cut l [58] = (l.take i, t, true) := by
  have hi : i < l.length := by
    rcases Nat.lt_or_ge i l.length with h | h
    · exact h
    · rw [List.drop_eq_nil_of_le h] at ht; cases ht
  have e : l = l.take i ++ 58 :: t := by rw [← ht, List.take_append_drop]
  have hx : Lib.index l [58] = (i : Int) := by
    rw [Lib.index_one]
    conv => lhs; rw [e]
    rw [ib_at 58 _ t h, List.length_take]; congr 1; omega
  unfold Lib.cut
  rw [hx, if_pos (by omega), Int.toNat_natCast]
  have e2 : l.drop (i + ([58] : List UInt8).length) = t := by
    show l.drop (i + 1) = t
    rw [← List.drop_drop, ht]; rfl
  rw [e2]
theorem vhost_nil : vhost (⟨#[]⟩ : ByteArray) = false := by
  have h1 : (Man.labB (⟨#[]⟩ : ByteArray)).map (·.data.toList) = [[]] := by rw [Man.labB_data]; rfl
  unfold vhost
  cases hl : Man.labB (⟨#[]⟩ : ByteArray) with
  | nil => rw [hl] at h1; simp at h1
  | cons b t =>
    rw [hl] at h1
    simp only [List.map_cons] at h1
    have hb : b.data.toList = [] := (List.cons.inj h1).1
    have hz : b.size = 0 := by rw [Lib.size_eq, hb]; rfl
    have hv : vlb b = false := by unfold vlb ends; rw [decide_eq_false (by omega)]; simp
    rw [List.all_cons, hv]; rfl
theorem fin_nil (x : Bool) (p : Int) (s : ByteArray) : finO x (⟨#[]⟩ : ByteArray) p s = (false, (⟨#[]⟩ : ByteArray), 0, false) := by
  unfold finO org; rw [vhost_nil]; rfl
theorem e_spec_ParseOrigin (s : ByteArray) (hs : s.size ≤ 1048576) : Ev (fun k => spec_ParseOrigin.f k s) (parO s) := by
  have j3 : ∀ (x : Bool) (h : ByteArray) (p : Int), h.size ≤ 1048576 → Ev (fun k => spec_ParseOrigin.j3 k s x h p) (finO x h p s) := by
    intro x h p hh
    refine Ev.step (f := fun k => (spec_IsOrigin.f k x h p).bind fun t136 => (if t136 = true then ((spec_FormatOrigin.f k x h p).bind fun t137 => (if t137.toList = s.toList then (some (x, h, p, true)) else (some (false, (⟨#[]⟩ : ByteArray), 0, false)))) else (some (false, (⟨#[]⟩ : ByteArray), 0, false)))) (fun k => by rw [spec_ParseOrigin.j3]) ?_
    refine Ev.bind (e_spec_IsOrigin x h p hh) ?_
    unfold finO
    cases org h p with
    | false => simp only [Bool.false_eq_true, if_false]; exact Ev.now _
    | true =>
      simp only [if_true]
      refine Ev.bind (e_spec_FormatOrigin x h p hh) (ev_of fun _ => ?_)
      split <;> rfl
  have l0 : ∀ (x : Bool) (p : Int) (r : ByteArray), r.size ≤ 1048576 → ∀ d i : Nat, i + d = r.size → (∀ b ∈ r.data.toList.take i, b ≠ 58) → Ev (fun k => spec_ParseOrigin.l0 k s r (i : Int) x r p) (cutO x p r s) := by
    intro x p r hr d
    induction d with
    | zero =>
      intro i hi hb
      have hi' : i = r.size := by omega
      subst hi'
      rw [List.take_of_length_le (by rw [← Lib.size_eq]; exact Nat.le_refl _)] at hb
      unfold cutO
      rw [cut_no hb]
      simp only [Bool.false_eq_true, if_false]
      exact Ev.step (fun k => by rw [spec_ParseOrigin.l0, if_neg (by omega)]) (j3 x r p hr)
    | succ d ih =>
      intro i hi hb
      obtain ⟨c, hc1, hc2⟩ := bt_at r i (by omega)
      by_cases hc : c = 58
      · subst hc
        unfold cutO
        rw [cut_at hb hc1]
        simp only [if_true]
        have ex1 : r.extract (i + 1) r.size = ⟨(r.data.toList.drop (i + 1)).toArray⟩ := by
          rw [Lib.extract_eq, List.take_of_length_le (by rw [List.length_drop, ← Lib.size_eq]; exact Nat.le_refl _)]
        have ex0 : r.extract 0 i = ⟨(r.data.toList.take i).toArray⟩ := by
          rw [Lib.extract_eq]; simp
        have hsz1 : (⟨(r.data.toList.drop (i + 1)).toArray⟩ : ByteArray).size ≤ 1048576 := by
          rw [Lib.size_eq]; simp only [List.length_drop]; rw [← Lib.size_eq]; omega
        have hsz0 : (⟨(r.data.toList.take i).toArray⟩ : ByteArray).size ≤ 1048576 := by
          rw [Lib.size_eq]; simp only [List.length_take]; rw [← Lib.size_eq]; omega
        have hp := e_spec_ParseInt ⟨(r.data.toList.drop (i + 1)).toArray⟩ hsz1
        refine Ev.step (f := fun k => (spec_ParseInt.f k (⟨(r.data.toList.drop (i + 1)).toArray⟩ : ByteArray)).bind fun bt134 => (if bt134.2 = true then (spec_ParseOrigin.j3 k s x (⟨(r.data.toList.take i).toArray⟩ : ByteArray) bt134.1) else (some (false, (⟨#[]⟩ : ByteArray), 0, false)))) (fun k => ?_) (Ev.bind hp ?_)
        · rw [spec_ParseOrigin.l0, if_pos (by omega), if_pos (by omega), if_pos (by rw [hc2]; rfl), wrap_in (x := (i : Int) + 1) (by omega), if_pos (by omega), if_pos (by omega)]
          have e1 : ((i : Int) + 1).toNat = i + 1 := by omega
          have e0 : ((i : Int)).toNat = i := by omega
          rw [e1, e0, ex1, ex0]
          simp only [if_pos (show (i : Int) ≤ (r.size : Int) by omega)]
        · show Ev (fun k => if (pint (r.data.toList.drop (i + 1))).2 = true then (spec_ParseOrigin.j3 k s x (⟨(r.data.toList.take i).toArray⟩ : ByteArray) (pint (r.data.toList.drop (i + 1))).1) else (some (false, (⟨#[]⟩ : ByteArray), 0, false))) _
          cases hq : (pint (r.data.toList.drop (i + 1))).2 with
          | true => simp only [if_true]; exact j3 x _ _ hsz0
          | false => simp only [Bool.false_eq_true, if_false]; exact Ev.now _
      · have hne : ¬ bt r (i : Int) = 58 := by
          rw [hc2]
          intro e
          have h58 : (58 : UInt8).toNat = 58 := rfl
          exact hc (UInt8.toNat_inj.1 (by omega))
        refine Ev.step (f := fun k => spec_ParseOrigin.l0 k s r ((i + 1 : Nat) : Int) x r p) (fun k => ?_) (ih (i + 1) (by omega) ?_)
        · rw [spec_ParseOrigin.l0, if_pos (by omega), if_pos (by omega), if_neg hne, wrap_in (x := (i : Int) + 1) (by omega)]
          rfl
        · intro b hbm
          have hl : i < r.data.toList.length := by rw [← Lib.size_eq]; omega
          rw [List.take_succ_eq_append_getElem hl] at hbm
          rcases List.mem_append.1 hbm with h | h
          · exact hb b h
          · have hg : r.data.toList.drop i = r.data.toList[i] :: r.data.toList.drop (i + 1) := List.drop_eq_getElem_cons hl
            rw [hc1] at hg
            have := (List.cons.inj hg).1
            rw [List.mem_singleton] at h
            rw [h, ← this]; exact hc
  have j1 : ∀ (x : Bool) (p : Int) (r h : ByteArray), r.size ≤ 1048576 → Ev (fun k => spec_ParseOrigin.j1 k s r x h p) (cutO x p r s) := fun x p r h hr => Ev.step (fun k => by rw [spec_ParseOrigin.j1]; rfl) (l0 x p r hr r.size 0 (by omega) (by simp))
  have hz : ∀ x p, cutO x p (⟨#[]⟩ : ByteArray) s = (false, (⟨#[]⟩ : ByteArray), 0, false) := by
    intro x p
    have e : Lib.cut (⟨#[]⟩ : ByteArray).data.toList [58] = ([], [], false) := cut_no (by simp)
    unfold cutO
    rw [e]
    simp only [Bool.false_eq_true, if_false]
    exact fin_nil x p s
  have exd : ∀ n : Nat, s.extract n s.size = ⟨(s.data.toList.drop n).toArray⟩ := by
    intro n
    rw [Lib.extract_eq, List.take_of_length_le (by rw [List.length_drop, ← Lib.size_eq]; exact Nat.le_refl _)]
  have ext : ∀ n : Nat, (s.extract 0 n).toList = s.data.toList.take n := by
    intro n; rw [Lib.extract_toList]; simp
  have dsz : ∀ n : Nat, (⟨(s.data.toList.drop n).toArray⟩ : ByteArray).size ≤ 1048576 := by
    intro n
    rw [Lib.size_eq]
    simp only [List.length_drop]
    rw [← Lib.size_eq]; omega
  have nil8 : s.size ≤ 8 → s.data.toList.take 8 = hp8 → (⟨(s.data.toList.drop 8).toArray⟩ : ByteArray) = (⟨#[]⟩ : ByteArray) := by
    intro h _; rw [List.drop_eq_nil_of_le (by rw [← Lib.size_eq]; exact h)]
  have both : s.data.toList.take 8 = hp8 → ¬ s.data.toList.take 7 = hp7 := by
    intro h h'
    have : (s.data.toList.take 8).take 7 = s.data.toList.take 7 := by rw [List.take_take]; rfl
    rw [h, h'] at this
    exact absurd this (by decide)
  have z0 : (⟨#[]⟩ : ByteArray).size ≤ 1048576 := by show 0 ≤ _; omega
  -- the second part: behind 'https://'
  have jF : Ev (fun k => spec_ParseOrigin.j0 k s (⟨#[]⟩ : ByteArray) false false (⟨#[]⟩ : ByteArray) 0) (if s.data.toList.take 7 = hp7 then cutO false 80 ⟨(s.data.toList.drop 7).toArray⟩ s else (false, (⟨#[]⟩ : ByteArray), 0, false)) := by
    by_cases h7 : (s.size : Int) > 7
    · by_cases he : s.data.toList.take 7 = hp7
      · rw [if_pos he]
        refine Ev.step (fun k => ?_) (j1 false 80 ⟨(s.data.toList.drop 7).toArray⟩ (⟨#[]⟩ : ByteArray) (dsz 7))
        rw [spec_ParseOrigin.j0, if_neg (by simp), if_pos h7, if_pos (by omega), if_pos (by omega), if_pos (by rw [ext]; exact he), exd]
      · rw [if_neg he]
        have := j1 false 0 (⟨#[]⟩ : ByteArray) (⟨#[]⟩ : ByteArray) z0
        rw [hz] at this
        refine Ev.step (fun k => ?_) this
        rw [spec_ParseOrigin.j0, if_neg (by simp), if_pos h7, if_pos (by omega), if_pos (by omega), if_neg (by rw [ext]; exact he)]
    · have e : (if s.data.toList.take 7 = hp7 then cutO false 80 ⟨(s.data.toList.drop 7).toArray⟩ s else (false, (⟨#[]⟩ : ByteArray), 0, false)) = (false, (⟨#[]⟩ : ByteArray), 0, false) := by
        have en : s.data.toList.drop 7 = [] := List.drop_eq_nil_of_le (by rw [← Lib.size_eq]; omega)
        rw [en]
        split
        · exact hz false 80
        · rfl
      rw [e]
      have := j1 false 0 (⟨#[]⟩ : ByteArray) (⟨#[]⟩ : ByteArray) z0
      rw [hz] at this
      refine Ev.step (fun k => ?_) this
      rw [spec_ParseOrigin.j0, if_neg (by simp), if_neg h7]
  have ep : parO s = (if s.data.toList.take 8 = hp8 then cutO true 443 ⟨(s.data.toList.drop 8).toArray⟩ s else (if s.data.toList.take 7 = hp7 then cutO false 80 ⟨(s.data.toList.drop 7).toArray⟩ s else (false, (⟨#[]⟩ : ByteArray), 0, false))) := by
    unfold parO
    have i7 := pre_take s.data.toList hp7
    have i8 := pre_take s.data.toList hp8
    have l7 : hp7.length = 7 := rfl
    have l8 : hp8.length = 8 := rfl
    rw [l7] at i7
    rw [l8] at i8
    by_cases h8 : s.data.toList.take 8 = hp8
    · rw [if_pos h8, if_neg (fun q => both h8 (i7.1 q)), if_pos (i8.2 h8)]
    · rw [if_neg h8]
      by_cases h7 : s.data.toList.take 7 = hp7
      · rw [if_pos h7, if_pos (i7.2 h7)]
      · rw [if_neg h7, if_neg (fun q => h7 (i7.1 q)), if_neg (fun q => h8 (i8.1 q))]
  rw [ep]
  unfold spec_ParseOrigin.f
  by_cases h8 : (s.size : Int) > 8
  · simp only [if_pos h8, if_pos (show (0 : Int) ≤ 8 by omega), if_pos (show (8 : Int) ≤ (s.size : Int) by omega), ext]
    by_cases he : s.data.toList.take 8 = hp8
    · rw [if_pos he]
      have eb : (s.data.toList.take 8 == ([104, 116, 116, 112, 115, 58, 47, 47] : List UInt8)) = true := beq_iff_eq.2 he
      simp only [eb]
      refine Ev.step (fun k => ?_) (j1 true 443 ⟨(s.data.toList.drop 8).toArray⟩ (⟨#[]⟩ : ByteArray) (dsz 8))
      rw [spec_ParseOrigin.j0, if_pos rfl, exd]
      repeat (first | rfl | rw [if_pos (by omega)])
    · rw [if_neg he]
      have eb : (s.data.toList.take 8 == ([104, 116, 116, 112, 115, 58, 47, 47] : List UInt8)) = false := beq_eq_false_iff_ne.2 he
      simp only [eb]
      exact jF
  · simp only [if_neg h8]
    by_cases he : s.data.toList.take 8 = hp8
    · rw [if_pos he, nil8 (by omega) he, hz]
      rw [if_neg (both he)] at jF
      exact jF
    · rw [if_neg he]; exact jF
theorem l_strings_Split (s : ByteArray) (hs : s.size < 4294967281) : strings_Split.f s ⟨#[46]⟩ = some (Man.labB s) := by
  unfold strings_Split.f
  rw [if_pos ⟨rfl, hs⟩]
theorem e_impl_IsHost (s : ByteArray) : Ev (fun k => impl_IsHost.f k s) (vhost s) := by
  unfold impl_IsHost.f
  by_cases h60 : (s.size : Int) > 60
  · refine ev_of (fun k => ?_)
    rw [if_pos h60]
    unfold vhost
    rw [decide_eq_false (show ¬ (s.size : Int) ≤ 60 by omega), Bool.and_false]
  simp only [if_neg h60]
  rw [show vhost s = (Man.labB s).all vlb by unfold vhost; rw [decide_eq_true (show (s.size : Int) ≤ 60 by omega), Bool.and_true]]
  rw [l_strings_Split s (by omega)]
  simp only [Option.bind_some]
  have hb := labB_small s
  have hcnt := labB_count s
  generalize Man.labB s = ls at hb hcnt
  have h : ∀ d i : Nat, i + d = ls.length → Ev (fun k => impl_IsHost.l0 k ls (ls.length : Int) (i : Int)) ((ls.drop i).all vlb) := by
    intro d
    induction d with
    | zero =>
      intro i h
      refine ev1 (fun k => ?_)
      rw [impl_IsHost.l0, if_neg (by omega), drop_end (by omega)]; simp
    | succ d ih =>
      intro i h
      have hi : i < ls.length := by omega
      have er : rdOf ByteArray.empty ls (i : Int) = ls[i] := rdOf_in _ hi
      have hsz : ls[i].size ≤ s.size := hb _ (List.getElem_mem hi)
      rw [drop_at hi, List.all_cons]
      have hnext := ih (i + 1) (by omega)
      generalize (ls.drop (i + 1)).all vlb = rest at hnext
      generalize ls[i] = b at er hsz
      have hloop : ∀ d j : Nat, j + d = b.size → Ev (fun k => impl_IsHost.l1 k b (j : Int) ls (ls.length : Int) (i : Int)) (okl b d j && rest) := by
        intro d
        induction d with
        | zero =>
          intro j hj
          have e : (okl b 0 j && rest) = rest := by simp [okl, srch]
          rw [e]
          refine Ev.step (fun k => ?_) hnext
          rw [impl_IsHost.l1, if_neg (by omega), wrap_in (by omega)]; rfl
        | succ d ihd =>
          intro j hj
          have e0 : ∀ k, impl_IsHost.l1 (k + 1) b (j : Int) ls (ls.length : Int) (i : Int) = if okc (bt b j) = true then impl_IsHost.l1 k b ((j + 1 : Nat) : Int) ls (ls.length : Int) (i : Int) else some false := by
            intro k
            rw [impl_IsHost.l1, if_pos (show (j : Int) < b.size by omega), if_pos (show (0 : Int) ≤ j by omega), wrap_in (by omega), okc_tree]
            rfl
          rw [okl_cases]
          by_cases hc : okc (bt b j) = true
          · rw [if_pos hc]
            exact Ev.step (fun k => by rw [e0, if_pos hc]) (ihd (j + 1) (by omega))
          · rw [if_neg hc]
            exact ev1 (fun k => by rw [e0, if_neg hc]; rfl)
      have hj1 : ∀ x : Bool, Ev (fun k => impl_IsHost.j1 k b ls (ls.length : Int) (i : Int) x) (if x = true then false else (okl b b.size 0 && rest)) := by
        intro x
        cases x with
        | true => exact ev1 (fun k => by rw [impl_IsHost.j1, if_pos rfl]; rfl)
        | false =>
          refine Ev.step (f := fun k => impl_IsHost.l1 k b 0 ls (ls.length : Int) (i : Int)) (fun k => ?_) ?_
          · rw [impl_IsHost.j1, if_neg (by simp)]
          · simpa using hloop b.size 0 (by omega)
      by_cases h1 : (b.size : Int) < 1
      · refine Ev.step (f := fun k => impl_IsHost.j1 k b ls (ls.length : Int) (i : Int) true) (fun k => ?_) ?_
        · rw [impl_IsHost.l0, if_pos (by omega), if_pos (by omega), if_pos (by omega), er, if_pos h1]
        · have e : (vlb b && rest) = false := by unfold vlb ends; rw [decide_eq_false (by omega)]; simp
          rw [e]; exact hj1 true
      by_cases h2 : (b.size : Int) > 20
      · refine Ev.step (f := fun k => impl_IsHost.j1 k b ls (ls.length : Int) (i : Int) true) (fun k => ?_) ?_
        · rw [impl_IsHost.l0, if_pos (by omega), if_pos (by omega), if_pos (by omega), er, if_neg h1, if_pos h2]
        · have e : (vlb b && rest) = false := by unfold vlb ends; rw [decide_eq_false (by omega)]; simp
          rw [e]; exact hj1 true
      by_cases h3 : bt b 0 = 45
      · refine Ev.step (f := fun k => impl_IsHost.j1 k b ls (ls.length : Int) (i : Int) true) (fun k => ?_) ?_
        · rw [impl_IsHost.l0, if_pos (by omega), if_pos (by omega), if_pos (by omega), er, if_neg h1, if_neg h2, if_pos (by omega), if_pos h3]
        · have e : (vlb b && rest) = false := by unfold vlb ends; rw [decide_eq_true h3]; simp
          rw [e]; exact hj1 true
      refine Ev.step (f := fun k => impl_IsHost.j1 k b ls (ls.length : Int) (i : Int) (bt b ((b.size : Int) - 1) == 45)) (fun k => ?_) ?_
      · rw [impl_IsHost.l0, if_pos (by omega), if_pos (by omega), if_pos (by omega), er, if_neg h1, if_neg h2, if_pos (by omega), if_neg h3, wrap_in (by omega), if_pos (show 0 ≤ (b.size : Int) - 1 by omega), if_pos (show (b.size : Int) - 1 < b.size by omega)]
      · have e : (vlb b && rest) = (if (bt b ((b.size : Int) - 1) == 45) = true then false else (okl b b.size 0 && rest)) := by
          unfold vlb ends
          rw [decide_eq_true (show 1 ≤ (b.size : Int) ∧ (b.size : Int) ≤ 20 by omega), decide_eq_false h3]
          by_cases h4 : bt b ((b.size : Int) - 1) = 45
          · rw [h4]; simp
          · have h5 : (bt b ((b.size : Int) - 1) != 45) = true := bne_iff_ne.2 h4
            have h6 : (bt b ((b.size : Int) - 1) == 45) = false := beq_eq_false_iff_ne.2 h4
            rw [h5, h6]; simp
        rw [e]; exact hj1 _
  have := h ls.length 0 (by omega)
  simpa using this
theorem l_impl_InRange (a0 a1 a2 : Int) : impl_InRange.f a0 a1 a2 = some (decide (a1 ≤ a0 ∧ a0 ≤ a2)) := by
  unfold impl_InRange.f
  by_cases h : a1 ≤ a0
  · rw [if_pos h]; simp [h]
  · rw [if_neg h]; simp [h]
theorem e_impl_IsOrigin (c : Bool) (h : ByteArray) (p : Int) : Ev (fun k => impl_IsOrigin.f k c h p) (org h p) := by
  unfold impl_IsOrigin.f org
  refine Ev.bind (e_impl_IsHost h) ?_
  cases vhost h with
  | true => simp only [if_true, l_impl_InRange, Option.bind_some, Bool.true_and]; exact Ev.now _
  | false => simp only [Bool.false_eq_true, if_false, Bool.false_and]; exact Ev.now _
theorem l_impl_FormatInt {n : Int} (h0 : -9223372036854775808 ≤ n) (h1 : n ≤ 9223372036854775807) : impl_FormatInt.f n = some (fmtB n) := by
  unfold impl_FormatInt.f; rw [l_strconv_Itoa h0 h1]; rfl
theorem e_impl_FormatOrigin (c : Bool) (h : ByteArray) (p : Int) (hs : h.size ≤ 1048576) : Ev (fun k => impl_FormatOrigin.f k c h p) (fmo c h p) := by
  unfold impl_FormatOrigin.f fmo
  refine Ev.bind (e_impl_IsOrigin c h p) ?_
  cases ho : org h p with
  | false => simp only [Bool.false_eq_true, if_false]; exact Ev.now _
  | true =>
  have hp := org_port ho
  have hl := fmtB_len (n := p) (by omega)
  rw [l_impl_FormatInt (by omega) (by omega)]
  simp only [if_true, Option.bind_some]
  cases c with
  | true =>
    simp only [if_true]
    by_cases h4 : p = 443
    · simp only [if_pos h4, if_pos (show 8 + h.size ≤ 9223372036854775807 by omega)]; exact Ev.now _
    · simp only [if_neg h4, s1, s8, if_pos (show 8 + h.size ≤ 9223372036854775807 by omega), if_pos (show 8 + h.size + 1 ≤ 9223372036854775807 by omega), if_pos (show 8 + h.size + 1 + (fmtB p).size ≤ 9223372036854775807 by omega)]
      exact Ev.now _
  | false =>
    simp only [Bool.false_eq_true, if_false]
    by_cases h4 : p = 80
    · simp only [if_pos h4, if_pos (show 7 + h.size ≤ 9223372036854775807 by omega)]; exact Ev.now _
    · simp only [if_neg h4, s1, s7, if_pos (show 7 + h.size ≤ 9223372036854775807 by omega), if_pos (show 7 + h.size + 1 ≤ 9223372036854775807 by omega), if_pos (show 7 + h.size + 1 + (fmtB p).size ≤ 9223372036854775807 by omega)]
      exact Ev.now _
theorem l_impl_ParseInt (s : ByteArray) (hs : s.size ≤ 281474976710656) : impl_ParseInt.f s = some (pint s.data.toList) := by
  unfold impl_ParseInt.f
  rw [if_pos hs]
  congr 1
  by_cases h : ∃ u : Nat, u ≤ 1000000000000 ∧ Lib.decDigits u = s.data.toList
  · obtain ⟨u, hu, e⟩ := h
    rw [← e, pint_yes hu, atoi_back hu]
    simp only
    rw [if_neg (by omega), if_neg (by omega), if_pos (itoa_nat u)]
  · rw [pint_no h]
    cases ha : Lib.atoiAll s.data.toList with
    | ok v =>
      simp only
      by_cases h1 : v < 0
      · rw [if_pos h1]
      · by_cases h2 : v > 1000000000000
        · rw [if_neg h1, if_pos h2]
        · rw [if_neg h1, if_neg h2, if_neg]
          intro e
          refine h ⟨v.toNat, by omega, ?_⟩
          rw [← e]; unfold Lib.itoa; rw [if_neg h1]
    | «syntax» => rfl
    | range => rfl
theorem e_impl_ParseOrigin (s : ByteArray) (hs : s.size ≤ 1048576) : Ev (fun k => impl_ParseOrigin.f k s) (parO s) := by
  have j1 : ∀ (x : Bool) (h : ByteArray) (p : Int), h.size ≤ 1048576 → Ev (fun k => impl_ParseOrigin.j1 k s x h p) (finO x h p s) := by
    intro x h p hh
    refine Ev.step (f := fun k => (impl_IsOrigin.f k x h p).bind fun t161 => (if t161 = true then ((impl_FormatOrigin.f k x h p).bind fun t162 => (if t162.toList = s.toList then (some (x, h, p, true)) else (some (false, (⟨#[]⟩ : ByteArray), 0, false)))) else (some (false, (⟨#[]⟩ : ByteArray), 0, false)))) (fun k => by rw [impl_ParseOrigin.j1]) ?_
    refine Ev.bind (e_impl_IsOrigin x h p) ?_
    unfold finO
    cases org h p with
    | false => simp only [Bool.false_eq_true, if_false]; exact Ev.now _
    | true =>
      simp only [if_true]
      refine Ev.bind (e_impl_FormatOrigin x h p hh) (ev_of fun _ => ?_)
      split <;> rfl
  have j0 : ∀ (x : Bool) (p : Int) (r : ByteArray), r.size ≤ 1048576 → Ev (fun k => impl_ParseOrigin.j0 k s r true x (⟨#[]⟩ : ByteArray) p) (cutO x p r s) := by
    intro x p r hr
    have hcut : strings_Cut.f r (⟨#[58]⟩ : ByteArray) = some (⟨(Lib.cut r.data.toList [58]).1.toArray⟩, ⟨(Lib.cut r.data.toList [58]).2.1.toArray⟩, (Lib.cut r.data.toList [58]).2.2) := by
      unfold strings_Cut.f; rw [if_pos ⟨rfl, by omega⟩]
    have hsz : (Lib.cut r.data.toList [58]).1.length ≤ r.size ∧ (Lib.cut r.data.toList [58]).2.1.length ≤ r.size := by
      rw [Lib.size_eq]
      unfold Lib.cut
      split
      · simp only [List.length_take, List.length_drop]; omega
      · simp
    have z1 : (⟨(Lib.cut r.data.toList [58]).1.toArray⟩ : ByteArray).size = (Lib.cut r.data.toList [58]).1.length := by rw [Lib.size_eq]
    have z2 : (⟨(Lib.cut r.data.toList [58]).2.1.toArray⟩ : ByteArray).size = (Lib.cut r.data.toList [58]).2.1.length := by rw [Lib.size_eq]
    have hpi := l_impl_ParseInt ⟨(Lib.cut r.data.toList [58]).2.1.toArray⟩ (by omega)
    unfold cutO
    cases hc : (Lib.cut r.data.toList [58]).2.2 with
    | false =>
      simp only [Bool.false_eq_true, if_false]
      refine Ev.step (fun k => ?_) (j1 x ⟨(Lib.cut r.data.toList [58]).1.toArray⟩ p (by omega))
      rw [impl_ParseOrigin.j0, if_pos rfl, hcut]
      simp only [Option.bind_some, hc, Bool.false_eq_true, if_false]
    | true =>
      simp only [if_true]
      cases hq : (pint (Lib.cut r.data.toList [58]).2.1).2 with
      | false =>
        refine ev1 (fun k => ?_)
        rw [impl_ParseOrigin.j0, if_pos rfl, hcut]
        simp only [Option.bind_some, hc, if_true, hpi, hq, Bool.false_eq_true, if_false]
      | true =>
        simp only [if_true]
        refine Ev.step (fun k => ?_) (j1 x ⟨(Lib.cut r.data.toList [58]).1.toArray⟩ (pint (Lib.cut r.data.toList [58]).2.1).1 (by omega))
        rw [impl_ParseOrigin.j0, if_pos rfl, hcut]
        simp only [Option.bind_some, hc, if_true, hpi, hq]
  have dsz : ∀ n : Nat, (⟨(s.data.toList.drop n).toArray⟩ : ByteArray).size ≤ 1048576 := by
    intro n
    rw [Lib.size_eq]
    simp only [List.length_drop]
    rw [← Lib.size_eq]; omega
  unfold impl_ParseOrigin.f parO strings_CutPrefix.f
  simp only [Option.bind_some]
  have e7 : ([104, 116, 116, 112, 58, 47, 47] : List UInt8) = hp7 := rfl
  have e8 : ([104, 116, 116, 112, 115, 58, 47, 47] : List UInt8) = hp8 := rfl
  rw [e7, e8]
  cases h7 : Lib.hasPrefix s.data.toList hp7 with
  | true =>
    simp only [if_true]
    have et : Lib.trimPrefix s.data.toList hp7 = s.data.toList.drop 7 := by unfold Lib.trimPrefix; rw [h7]; rfl
    rw [et]
    exact j0 false 80 _ (dsz 7)
  | false =>
    simp only [Bool.false_eq_true, if_false]
    cases h8 : Lib.hasPrefix s.data.toList hp8 with
    | true =>
      simp only [if_true]
      have et : Lib.trimPrefix s.data.toList hp8 = s.data.toList.drop 8 := by unfold Lib.trimPrefix; rw [h8]; rfl
      rw [et]
      exact j0 true 443 _ (dsz 8)
    | false =>
      simp only [Bool.false_eq_true, if_false]
      exact ev1 (fun k => by rw [impl_ParseOrigin.j0, if_neg (by simp)])
theorem l_laws_eqOrigin (x : Bool) (h : ByteArray) (p : Int) : laws_eqOrigin.f x h p x h p = some true := by
  unfold laws_eqOrigin.f; simp
theorem p_FnExactParseOrigin (s : ByteArray) (hs : s.size ≤ 140737488351232) : ∃ k, laws_FnExactParseOrigin.f k s = some true := by
  refine ev_k ?_
  unfold laws_FnExactParseOrigin.f
  by_cases hb : (s.size : Int) > 1048576
  · exact ev_of (fun k => by rw [if_pos hb])
  simp only [if_neg hb]
  refine Ev.bind (e_spec_ParseOrigin s (by omega)) (Ev.bind (e_impl_ParseOrigin s (by omega)) ?_)
  simp only [l_laws_eqOrigin, Option.bind_some, if_true, bne_self_eq_false, Bool.false_eq_true, if_false]
  exact Ev.now _
end Go.Proofs.YtogcoedmagoogaaDoor.SFnExactParseOrigin
namespace Go.Proofs.YtogcoedmagoogaaDoor.Pure
open Go.RowKit Go.Proofs.YtogcoedmagoogaaDoor.PFnExactParseOrigin Go.Proofs.YtogcoedmagoogaaDoorW.PrintWords Go.Proofs.YtogcoedmagoogaaDoorW.PrintLast
theorem FnExactParseOrigin : laws_FnExactParseOrigin.Pure := by
  exact SFnExactParseOrigin.p_FnExactParseOrigin
end Go.Proofs.YtogcoedmagoogaaDoor.Pure
