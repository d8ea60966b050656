/- The law FnExactExplainBlinded, in plain numbers and lists: what its Go functions compute (as the kit's print tells it) answers true. Conditions: what the reading of the arguments gives (each number of its kind, each length a length). -/
import Derived.Test.YtimjjicbdnehlaaPFnExactExplainBlindedx2
import Derived.Test.YtimjjicbdnehlaaMt
namespace Go.Proofs.Ytimjjicbdnehlaa.SFnExactExplainBlinded
open Go.RowKit Go.Proofs.Ytimjjicbdnehlaa.PFnExactExplainBlinded Go.Proofs.YtimjjicbdnehlaaW.PrintWords Go.Proofs.YtimjjicbdnehlaaW.PrintLast Go.Proofs.Ytimjjicbdnehlaa.Mt
set_option linter.unusedVariables false
set_option linter.unusedSimpArgs false
theorem l_spec_l1In (a0 a1 a2 : Int) : spec_l1In.f a0 a1 a2 = some (decide (a1 ≤ a0 ∧ a0 ≤ a2)) := by
  unfold spec_l1In.f
  by_cases h : a0 ≥ a1
  · rw [if_pos h]; simp [show a1 ≤ a0 from h]
  · rw [if_neg h]; simp [show ¬ a1 ≤ a0 from h]
theorem l_spec_Mod (a m : Int) : spec_Mod.f a m = some (md a m) := by
  unfold spec_Mod.f
  rw [l_spec_l1In]; simp only [Option.bind_some]
  by_cases h : 1 ≤ m ∧ m ≤ 1000000000000
  · rw [if_pos (decide_eq_true h), if_neg (by omega), md_in _ h.1 h.2]
    have := tmod_bd (a := a) (m := m) (by omega)
    rw [wrap_in (by omega), tmod_of (by omega), tmod_add]
  · rw [if_neg (by simpa using h)]; unfold md; rw [if_neg h]
theorem e_spec_l4Pow_l0 : ∀ (n : Nat), n < 100000 → ∀ (g out : Int), 0 ≤ g → g < 2039 → 0 ≤ out → out < 2039 → Ev (fun k => spec_l4Pow.l0 k g (n : Int) out) (out * g ^ n % 2039) := by
  intro n
  induction n using Nat.strongRecOn with
  | _ n ih =>
    intro hn g out g0 g1 o0 o1
    have hgg : 0 ≤ g * g ∧ g * g ≤ 2038 * 2038 := ⟨Int.mul_nonneg g0 g0, by have := Int.mul_le_mul (a := g) (b := g) (c := 2038) (d := 2038) (by omega) (by omega) g0 (by omega); omega⟩
    have hog : 0 ≤ out * g ∧ out * g ≤ 2038 * 2038 := ⟨Int.mul_nonneg o0 g0, by have := Int.mul_le_mul (a := out) (b := g) (c := 2038) (d := 2038) (by omega) (by omega) g0 (by omega); omega⟩
    by_cases h0 : n = 0
    · subst h0
      exact ev1 fun k => by rw [spec_l4Pow.l0, if_neg (by omega), Int.pow_zero, Int.mul_one, Int.emod_eq_of_lt o0 o1]
    · have hb := and1 n (by omega)
      by_cases h1 : n % 2 = 1
      · have e : n = 2 * (n / 2) + 1 := by omega
        have hr := ih (n / 2) (by omega) (by omega) (g * g % 2039) (out * g % 2039) (by omega) (by omega) (by omega) (by omega)
        rw [pw_odd, ← e] at hr
        refine Ev.step (fun k => ?_) hr
        rw [spec_l4Pow.l0, if_pos (by omega), if_pos (by rw [hb]; omega), wrap_in (x := g * g) (by omega), wrap_in (x := out * g) (by omega), tmod_of hgg.1, tmod_of hog.1]
        congr 1
      · have e : n = 2 * (n / 2) := by omega
        have hr := ih (n / 2) (by omega) (by omega) (g * g % 2039) out (by omega) (by omega) o0 o1
        rw [pw_even, ← e] at hr
        refine Ev.step (fun k => ?_) hr
        rw [spec_l4Pow.l0, if_pos (by omega), if_neg (by rw [hb]; omega), wrap_in (x := g * g) (by omega), tmod_of hgg.1]
        congr 1
theorem e_spec_l4Pow (g n : Int) (g0 : 0 ≤ g) (g1 : g < 2039) (n0 : 0 ≤ n) (n1 : n < 100000) : Ev (fun k => spec_l4Pow.f k g n) (pwm g n.toNat 2039) := by
  obtain ⟨m, rfl⟩ := Int.eq_ofNat_of_zero_le n0
  have h := e_spec_l4Pow_l0 m (by omega) g 1 g0 g1 (by omega) (by omega)
  rw [Int.one_mul] at h
  exact h
theorem e_spec_IsGroupElement (x : Int) : Ev (fun k => spec_IsGroupElement.f k x) (gE x) := by
  unfold spec_IsGroupElement.f gE
  simp only [l_spec_l1In, Option.bind_some]
  by_cases h : 1 ≤ x ∧ x ≤ 2038
  · simp only [decide_eq_true h, if_true]
    exact Ev.bind (e_spec_l4Pow x 1019 (by omega) (by omega) (by omega) (by omega)) (ev_now (by simp))
  · simp only [decide_eq_false h]; exact ev_of fun _ => by simp
theorem e_spec_PowGroup (g n : Int) : Ev (fun k => spec_PowGroup.f k g n) (pg g n) := by
  unfold spec_PowGroup.f pg
  refine Ev.bind (e_spec_IsGroupElement g) ?_
  by_cases h : gE g = true
  · simp only [if_pos h, l_spec_Mod, Option.bind_some]
    rw [md_in _ (by omega) (by omega)]
    have hr := gE_range h
    exact Ev.bind (e_spec_l4Pow g (n % 1019) (by omega) (by omega) (by omega) (by omega)) (Ev.now _)
  · simp only [if_neg h]; exact Ev.now _
theorem e_spec_Hash_l0 (l : List Int) (hl : l.length < 20000000000000) : ∀ (d i : Nat) (h : Int), i + d = l.length → 0 ≤ h → h < 2147483647 → Ev (fun k => spec_Hash.l0 k l h (i : Int)) ((l.drop i).foldl hstep h)
  | 0, i, h, hd, _, _ => by
    refine Ev.step (f := fun _ => some h) (fun k => ?_) (ev_now ?_)
    · rw [spec_Hash.l0, if_neg (by omega)]
    · rw [drop_end (by omega)]; rfl
  | d + 1, i, h, hd, h0, h1 => by
    have hi : i < l.length := by omega
    refine Ev.step (f := fun k => spec_Hash.l0 k l (hstep h l[i]) ((i + 1 : Nat) : Int)) (fun k => ?_) ?_
    · rw [spec_Hash.l0, if_pos (by omega), if_pos (by omega), rd_in hi, l_spec_Mod]; simp only [Option.bind_some]
      rw [md_in _ (by omega) (by omega), step_wrap h0 h1, wrap_in (by omega)]; rfl
    · rw [drop_at hi, List.foldl_cons]
      exact e_spec_Hash_l0 l hl d (i + 1) _ (by omega) (step_bd _ _).1 (step_bd _ _).2
theorem e_spec_Hash (l : List Int) (hl : l.length < 20000000000000) : Ev (fun k => spec_Hash.f k l) (hsh l) :=
  e_spec_Hash_l0 l hl l.length 0 11 (by omega) (by omega) (by omega)
theorem e_spec_KeyedHash (key : Int) (l : List Int) (h : l.length < 17592186044000) : Ev (fun k => spec_KeyedHash.f k key l) (kh key l) := by
  refine Ev.congr (f := fun k => spec_Hash.f k (key :: l ++ [key])) (fun k => ?_) (e_spec_Hash _ (by first | omega | (simp; omega)))
  unfold spec_KeyedHash.f; simp only [Option.bind_some]
  rw [if_pos (by first | omega | (simp; omega)), if_pos (by first | omega | (simp; omega))]
  simp
theorem e_spec_HashToGroup (l v : Int) : Ev (fun k => spec_HashToGroup.f k l v) (htg l v) := by
  unfold spec_HashToGroup.f
  refine Ev.bind (e_spec_KeyedHash _ _ (by simp)) ?_
  have hb := kh_bd l [89, v]
  have hm := mul_bd hb.1 (show kh l [89, v] ≤ 2147483646 by omega) hb.1 (show kh l [89, v] ≤ 2147483646 by omega)
  rw [wrap_in (x := kh l [89, v] * kh l [89, v]) (by omega), tmod_of (a := kh l [89, v] * kh l [89, v]) (by omega), tmod_of (by omega), wrap_in (by omega)]
  exact Ev.bind (e_spec_PowGroup _ _) (Ev.now _)
theorem e_spec_DiscreteLog_l0 (g x : Int) (hg : gE g = true) : Ev (fun k => spec_DiscreteLog.l0 k g x 1 0) (srch (fun e => decide (g ^ e % 2039 = x)) (fun e => (e : Int)) (-1) 1019 0) := by
  have hr := gE_range hg
  have h : ∀ d e : Nat, e + d = 1019 → Ev (fun k => spec_DiscreteLog.l0 k g x (g ^ e % 2039) (e : Int)) (srch (fun e => decide (g ^ e % 2039 = x)) (fun e => (e : Int)) (-1) d e) := by
    intro d
    induction d with
    | zero => intro e h; exact ev1 fun k => by rw [spec_DiscreteLog.l0, if_neg (by omega)]; rfl
    | succ d ih =>
      intro e h
      unfold srch
      by_cases hp : g ^ e % 2039 = x
      · rw [if_pos (decide_eq_true hp)]
        exact ev1 fun k => by rw [spec_DiscreteLog.l0, if_pos (by omega), if_pos hp]
      · rw [if_neg (by simpa using hp)]
        have hy0 : 0 ≤ g ^ e % 2039 ∧ g ^ e % 2039 ≤ 2038 := by omega
        have hm := mul_bd hy0.1 hy0.2 (show 0 ≤ g by omega) (show g ≤ 2038 by omega)
        have e1 : g ^ (e + 1) % 2039 = (g ^ e % 2039) * g % 2039 := by rw [Int.pow_succ, Int.mul_emod (g ^ e) g, Int.mul_emod (g ^ e % 2039) g, Int.emod_emod]
        have hr' := ih (e + 1) (by omega)
        rw [e1] at hr'
        refine Ev.step (fun k => ?_) hr'
        rw [spec_DiscreteLog.l0, if_pos (by omega), if_neg hp, wrap_in (x := g ^ e % 2039 * g) (by omega), tmod_of (by omega), wrap_in (by omega)]; rfl
  have h0 := h 1019 0 (by omega)
  rw [Int.pow_zero] at h0
  exact h0
theorem e_spec_DiscreteLog (g x : Int) (hg : gE g = true) (h1 : g ≠ 1) : Ev (fun k => spec_DiscreteLog.f k g x) (if gE x = true then srch (fun e => decide (g ^ e % 2039 = x)) (fun e => (e : Int)) (-1) 1019 0 else -1) := by
  unfold spec_DiscreteLog.f
  refine Ev.bind (e_spec_IsGroupElement g) ?_
  simp only [if_pos hg]
  refine Ev.bind (e_spec_IsGroupElement x) ?_
  by_cases h : gE x = true
  · simp only [if_pos h]
    exact Ev.step (fun k => by rw [spec_DiscreteLog.j0, if_neg (by simpa using h1)]) (e_spec_DiscreteLog_l0 g x hg)
  · simp only [if_neg h]; exact ev1 fun k => by rw [spec_DiscreteLog.j0, if_pos rfl]
theorem e_spec_ExplainBlinded (x l i : Int) : Ev (fun k => spec_ExplainBlinded.f k x l i) (expl x l i) := by
  unfold spec_ExplainBlinded.f
  refine Ev.bind (e_spec_HashToGroup _ _) (Ev.bind (e_spec_DiscreteLog _ x (gE_htg l i) (htg_ne l i)) ?_)
  have hg := gE_htg l i
  have key : (if (if gE x = true then srch (fun e => decide (htg l i ^ e % 2039 = x)) (fun e => (e : Int)) (-1) 1019 0 else -1) < 1 then ((0 : Int), false) else ((if gE x = true then srch (fun e => decide (htg l i ^ e % 2039 = x)) (fun e => (e : Int)) (-1) 1019 0 else -1), true)) = expl x l i := by
    unfold expl
    by_cases h : gE x = true
    · simp only [if_pos h]
      by_cases h1 : x = 1
      · subst h1
        have e0 : srch (fun e => decide (htg l i ^ e % 2039 = 1)) (fun e => (e : Int)) (-1) 1019 0 = 0 := by
          rw [srch_at (y := 0) (by simp) 1019 0 (by omega) (by omega) (fun j _ h => absurd h (by omega))]; rfl
        rw [e0, if_pos (by omega)]
        refine (srch_none 1018 1 fun j h2 h3 => ?_).symm
        refine decide_eq_false fun e => ?_
        rw [pg_nat hg (by omega)] at e
        exact htg_ne l i (order hg (b := j) (by omega) e)
      · have e0 : srch (fun e => decide (htg l i ^ e % 2039 = x)) (fun e => (e : Int)) (-1) 1019 0 = srch (fun b => decide (pg (htg l i) b = x)) (fun e => (e : Int)) (-1) 1018 1 := by
          rw [srch_step 1018 (by simp; omega)]
          exact srch_congr 1018 1 fun j h2 h3 => ⟨by rw [pg_nat hg (by omega)], rfl⟩
        rw [e0, srch_map (fun r : Int => if r < 1 then ((0 : Int), false) else (r, true))]
        exact srch_congr 1018 1 fun j h2 h3 => ⟨rfl, by rw [if_neg (by omega)]⟩
    · simp only [if_neg h]
      rw [if_pos (by omega)]
      refine (srch_none 1018 1 fun j h2 h3 => ?_).symm
      refine decide_eq_false fun e => h ?_
      rw [← e]; exact gE_pg hg
  generalize (if gE x = true then srch (fun e => decide (htg l i ^ e % 2039 = x)) (fun e => (e : Int)) (-1) 1019 0 else -1) = q at key ⊢
  rw [← key]
  by_cases hq : q < 1
  · simp only [if_pos hq]; exact Ev.now _
  · simp only [if_neg hq]; exact Ev.now _
theorem k_impl_Mod (a m : Int) (k : Nat) : impl_Mod.f (k + 1) a m = some (md a m) := by
  unfold impl_Mod.f
  by_cases h1 : m < 1
  · rw [if_pos h1, impl_Mod.j0, if_pos rfl]; unfold md; rw [if_neg (by omega)]
  · rw [if_neg h1, impl_Mod.j0]
    by_cases h2 : m > 1000000000000
    · rw [if_pos (decide_eq_true h2)]; unfold md; rw [if_neg (by omega)]
    · rw [if_neg (by simpa using h2), if_neg (by omega), md_in _ (by omega) (by omega)]
      have hb := tmod_bd (a := a) (m := m) (by omega)
      have hn := tmod_neg_iff (a := a) (m := m) (by omega)
      by_cases h3 : Int.tmod a m < 0
      · rw [if_pos h3] at hn; rw [if_pos h3, wrap_in (by omega), hn]
      · rw [if_neg h3] at hn; rw [if_neg h3, hn]
theorem e_impl_Mod (a m : Int) : Ev (fun k => impl_Mod.f k a m) (md a m) := Ev.step (fun k => k_impl_Mod a m k) (Ev.now _)
theorem l_impl_InRange (a0 a1 a2 : Int) : impl_InRange.f a0 a1 a2 = some (decide (a1 ≤ a0 ∧ a0 ≤ a2)) := by
  unfold impl_InRange.f
  by_cases h : a1 ≤ a0
  · rw [if_pos h]; simp [h]
  · rw [if_neg h]; simp [h]
theorem e_impl_power_l0 (m : Int) (hm : 1 ≤ m) (hm2 : m ≤ 2147483648) : ∀ (n : Nat), n ≤ 2147483648 → ∀ (g out : Int), 0 ≤ g → g < m → 0 ≤ out → out < m → Ev (fun k => impl_power.l0 k g (n : Int) m out) (out * g ^ n % m) := by
  intro n
  induction n using Nat.strongRecOn with
  | _ n ih =>
    intro hn g out g0 g1 o0 o1
    have hgg := mul_bd g0 (show g ≤ 2147483647 by omega) g0 (show g ≤ 2147483647 by omega)
    have hog := mul_bd o0 (show out ≤ 2147483647 by omega) g0 (show g ≤ 2147483647 by omega)
    by_cases h0 : n = 0
    · subst h0
      exact ev1 fun k => by rw [impl_power.l0, if_neg (by omega), Int.pow_zero, Int.mul_one, Int.emod_eq_of_lt o0 o1]
    · have e2 : wrap64 (Int.tdiv (n : Int) 2) = ((n / 2 : Nat) : Int) := by rw [Int.tdiv_eq_ediv_of_nonneg (by omega), wrap_in (by omega)]; omega
      have e3 : Int.tmod (n : Int) 2 = ((n % 2 : Nat) : Int) := by rw [tmod_of (by omega)]; omega
      have q0 : 0 ≤ g * g % m := Int.emod_nonneg _ (by omega)
      have q1 : g * g % m < m := Int.emod_lt_of_pos _ (by omega)
      have q2 : 0 ≤ out * g % m := Int.emod_nonneg _ (by omega)
      have q3 : out * g % m < m := Int.emod_lt_of_pos _ (by omega)
      by_cases h1 : n % 2 = 1
      · have e : n = 2 * (n / 2) + 1 := by omega
        have hr := ih (n / 2) (by omega) (by omega) (g * g % m) (out * g % m) q0 q1 q2 q3
        rw [pw_odd, ← e] at hr
        refine Ev.step (fun k => ?_) hr
        rw [impl_power.l0, if_pos (by omega), if_pos (by omega), if_neg (by omega), wrap_in (x := g * g) (by omega), wrap_in (x := out * g) (by omega), tmod_of (a := g * g) (by omega), tmod_of (a := out * g) (by omega), e2]
      · have e : n = 2 * (n / 2) := by omega
        have hr := ih (n / 2) (by omega) (by omega) (g * g % m) out q0 q1 o0 o1
        rw [pw_even, ← e] at hr
        refine Ev.step (fun k => ?_) hr
        rw [impl_power.l0, if_pos (by omega), if_neg (by omega), if_neg (by omega), wrap_in (x := g * g) (by omega), tmod_of (a := g * g) (by omega), e2]
theorem e_impl_power (g n m : Int) (g0 : 0 ≤ g) (n0 : 0 ≤ n) (n1 : n ≤ 2147483648) (m0 : 2 ≤ m) (m1 : m ≤ 2147483648) : Ev (fun k => impl_power.f k g n m) (pwm g n.toNat m) := by
  obtain ⟨q, rfl⟩ := Int.eq_ofNat_of_zero_le n0
  have h := e_impl_power_l0 m (by omega) m1 q (by omega) (g % m) 1 (Int.emod_nonneg _ (by omega)) (Int.emod_lt_of_pos _ (by omega)) (by omega) (by omega)
  rw [Int.one_mul, pow_mod] at h
  refine Ev.congr (fun k => ?_) h
  unfold impl_power.f
  rw [if_neg (by omega), tmod_of g0, Int.emod_eq_of_lt (a := 1) (by omega) (by omega)]
theorem e_impl_IsGroupElement (x : Int) : Ev (fun k => impl_IsGroupElement.f k x) (gE x) := by
  unfold impl_IsGroupElement.f gE
  simp only [l_impl_InRange, Option.bind_some]
  by_cases h : 1 ≤ x ∧ x ≤ 2038
  · simp only [decide_eq_true h, if_true]
    exact Ev.bind (e_impl_power x 1019 2039 (by omega) (by omega) (by omega) (by omega) (by omega)) (ev_now (by simp))
  · simp only [decide_eq_false h]; exact ev_of fun _ => by simp
theorem e_impl_PowGroup (g n : Int) : Ev (fun k => impl_PowGroup.f k g n) (pg g n) := by
  unfold impl_PowGroup.f pg
  refine Ev.bind (e_impl_IsGroupElement g) ?_
  by_cases h : gE g = true
  · simp only [if_pos h]
    refine Ev.bind (e_impl_Mod _ _) ?_
    rw [md_in _ (by omega) (by omega)]
    have hr := gE_range h
    exact Ev.bind (e_impl_power g (n % 1019) 2039 (by omega) (by omega) (by omega) (by omega) (by omega)) (Ev.now _)
  · simp only [if_neg h]; exact Ev.now _
theorem e_impl_joined_l0 (ls : List (List Int)) (hn : ls.length < 20000000000000) : ∀ (d i : Nat) (acc : List Int), i + d = ls.length → acc.length + (ls.drop i).flatten.length < 17592186044416 → Ev (fun k => impl_joined.l0 k acc ls (ls.length : Int) (i : Int)) (acc ++ (ls.drop i).flatten)
  | 0, i, acc, hd, _ => by
    refine Ev.step (f := fun _ => some acc) (fun k => ?_) (ev_now ?_)
    · rw [impl_joined.l0, if_neg (by omega)]
    · rw [drop_end (by omega)]; simp
  | d + 1, i, acc, hd, hs => by
    have hi : i < ls.length := by omega
    rw [drop_at hi, List.flatten_cons, List.length_append] at hs
    have hr : rd_L1 ls (i : Int) = ls[i] := by simp [rd_L1, List.getD, List.getElem?_eq_getElem hi]
    refine Ev.step (f := fun k => impl_joined.l0 k (acc ++ ls[i]) ls (ls.length : Int) ((i + 1 : Nat) : Int)) (fun k => ?_) ?_
    · rw [impl_joined.l0, hr, if_pos (by omega), if_pos (by omega), if_pos (by omega), if_pos (by omega), wrap_in (x := (i : Int) + 1) (by omega)]; rfl
    · rw [drop_at hi, List.flatten_cons, ← List.append_assoc]
      exact e_impl_joined_l0 ls hn d (i + 1) _ (by omega) (by rw [List.length_append]; omega)
theorem e_impl_joined (l : List Int) (ls : List (List Int)) (hn : ls.length < 20000000000000) (hs : l.length + ls.flatten.length < 17592186044416) : Ev (fun k => impl_joined.f k l ls) (l ++ ls.flatten) := by
  refine Ev.congr (f := fun k => impl_joined.l0 k l ls (ls.length : Int) ((0 : Nat) : Int)) (fun k => ?_) (e_impl_joined_l0 ls hn ls.length 0 l (by omega) hs)
  unfold impl_joined.f; simp only [Option.bind_some]
  rw [if_pos (by first | omega | (simp; omega))]; rfl
theorem e_impl_Hash_l0 (l : List Int) (hl : l.length < 20000000000000) : ∀ (d i : Nat) (h : Int), i + d = l.length → 0 ≤ h → h < 2147483647 → Ev (fun k => impl_Hash.l0 k h l (l.length : Int) (i : Int)) ((l.drop i).foldl hstep h)
  | 0, i, h, hd, _, _ => by
    refine Ev.step (f := fun _ => some h) (fun k => ?_) (ev_now ?_)
    · rw [impl_Hash.l0, if_neg (by omega)]
    · rw [drop_end (by omega)]; rfl
  | d + 1, i, h, hd, h0, h1 => by
    have hi : i < l.length := by omega
    refine Ev.step (f := fun k => (impl_Mod.f k l[i] 2147483647).bind fun t => impl_Hash.l0 k (Int.tmod (wrap64 ((wrap64 ((wrap64 (h * 1000003)) + t)) + 13)) 2147483647) l (l.length : Int) ((i + 1 : Nat) : Int)) (fun k => ?_) ?_
    · rw [impl_Hash.l0, if_pos (by omega), if_pos (by omega), if_pos (by omega), rd_in hi, wrap_in (x := (i : Int) + 1) (by omega)]; rfl
    · refine Ev.bind (e_impl_Mod _ _) ?_
      rw [md_in _ (by omega) (by omega), step_wrap h0 h1, drop_at hi, List.foldl_cons]
      exact e_impl_Hash_l0 l hl d (i + 1) _ (by omega) (step_bd _ _).1 (step_bd _ _).2
theorem e_impl_Hash (l : List Int) (hl : l.length < 20000000000000) : Ev (fun k => impl_Hash.f k l) (hsh l) :=
  e_impl_Hash_l0 l hl l.length 0 11 (by omega) (by omega) (by omega)
theorem e_impl_KeyedHash (key : Int) (l : List Int) (h : l.length < 17592186044000) : Ev (fun k => impl_KeyedHash.f k key l) (kh key l) := by
  unfold impl_KeyedHash.f
  refine Ev.bind (e_impl_joined _ _ (by simp) (by first | omega | (simp; omega))) ?_
  refine Ev.bind (e_impl_Hash _ (by first | omega | (simp; omega))) ?_
  exact ev_now (by simp [kh])
theorem e_impl_HashToGroup (l v : Int) : Ev (fun k => impl_HashToGroup.f k l v) (htg l v) := by
  unfold impl_HashToGroup.f
  refine Ev.bind (e_impl_KeyedHash _ _ (by simp)) ?_
  have hb := kh_bd l [89, v]
  have hm := mul_bd hb.1 (show kh l [89, v] ≤ 2147483646 by omega) hb.1 (show kh l [89, v] ≤ 2147483646 by omega)
  rw [wrap_in (x := kh l [89, v] * kh l [89, v]) (by omega), tmod_of (a := kh l [89, v] * kh l [89, v]) (by omega), tmod_of (by omega), wrap_in (by omega)]
  exact Ev.bind (e_impl_PowGroup _ _) (Ev.now _)
theorem e_impl_BlindInput (l i b : Int) : Ev (fun k => impl_BlindInput.f k l i b) (blind l i b) := by
  unfold impl_BlindInput.f blind
  refine Ev.bind (e_impl_Mod _ _) ?_
  rw [md_in _ (by omega) (by omega)]
  by_cases h : b % 1019 = 0
  · simp only [if_pos h]; exact Ev.now _
  · simp only [if_neg h]; exact Ev.bind (e_impl_HashToGroup _ _) (Ev.bind (e_impl_PowGroup _ _) (Ev.now _))
theorem e_impl_ExplainBlinded (x l i : Int) : Ev (fun k => impl_ExplainBlinded.f k x l i) (expl x l i) := by
  unfold expl
  exact find_from (F := fun k b => impl_ExplainBlinded.l0 k x l i b) (n := 1019) (s := 1) (ev1 fun k => by rw [impl_ExplainBlinded.l0, if_neg (by omega)])
    (fun b hs hb hp => by
      have hbl : blind l i (b : Int) = x := by unfold blind; rw [if_neg (by omega)]; exact of_decide_eq_true hp
      refine Ev.step (f := fun k => (impl_BlindInput.f k l i b).bind fun t => if t = x then some ((b : Int), true) else impl_ExplainBlinded.l0 k x l i (wrap64 ((b : Int) + 1))) (fun k => by rw [impl_ExplainBlinded.l0, if_pos (by omega)]) ?_
      refine Ev.bind (e_impl_BlindInput l i b) ?_
      simp only [if_pos hbl]; exact Ev.now _)
    (fun b hs hb hp r hr => by
      have hbl : ¬ blind l i (b : Int) = x := by unfold blind; rw [if_neg (by omega)]; exact of_decide_eq_false hp
      refine Ev.step (f := fun k => (impl_BlindInput.f k l i b).bind fun t => if t = x then some ((b : Int), true) else impl_ExplainBlinded.l0 k x l i (wrap64 ((b : Int) + 1))) (fun k => by rw [impl_ExplainBlinded.l0, if_pos (by omega)]) ?_
      refine Ev.bind (e_impl_BlindInput l i b) ?_
      simp only [if_neg hbl]; rw [wrap_in (by omega)]; exact hr) 1018 1 (by omega) (by omega)
theorem p_FnExactExplainBlinded (a b c : Int) (_ : (Lit.int .i64 a).wf = true) (_ : (Lit.int .i64 b).wf = true) (_ : (Lit.int .i64 c).wf = true) : ∃ k, laws_FnExactExplainBlinded.f k a b c = some true := by
  apply Ev.rounds
  unfold laws_FnExactExplainBlinded.f
  exact Ev.bind (e_spec_ExplainBlinded _ _ _) (Ev.bind (e_impl_ExplainBlinded _ _ _) (ev_of fun _ => by rw [if_pos rfl]; simp))
end Go.Proofs.Ytimjjicbdnehlaa.SFnExactExplainBlinded
namespace Go.Proofs.Ytimjjicbdnehlaa.Pure
open Go.RowKit Go.Proofs.Ytimjjicbdnehlaa.PFnExactExplainBlinded Go.Proofs.YtimjjicbdnehlaaW.PrintWords Go.Proofs.YtimjjicbdnehlaaW.PrintLast
theorem FnExactExplainBlinded : laws_FnExactExplainBlinded.Pure := by
  exact SFnExactExplainBlinded.p_FnExactExplainBlinded
end Go.Proofs.Ytimjjicbdnehlaa.Pure
