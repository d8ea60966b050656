/- Plain numbers and lists for the laws: what Hash, KeyedHash, DeriveKey and the small helpers compute. Conditions: none but the ranges that each lemma names. -/
import Derived.Test.YtimjjicbdnehlaaWMore
import Derived.OpenShut
namespace Go.Proofs.Ytimjjicbdnehlaa.Mt
open Go.RowKit Go.Proofs.YtimjjicbdnehlaaW.PrintWords Go.Proofs.YtimjjicbdnehlaaW.PrintLast

/-! ### numbers -/
theorem wf64 {a : Int} (h : (Lit.int .i64 a).wf = true) : -9223372036854775808 ≤ a ∧ a ≤ 9223372036854775807 := bounds_i64 h
theorem wrap_in {x : Int} (h : -9223372036854775808 ≤ x ∧ x ≤ 9223372036854775807) : wrap64 x = x := by
  unfold wrap64; omega
theorem tmod_of {a m : Int} (ha : 0 ≤ a) : Int.tmod a m = a % m := Int.tmod_eq_emod_of_nonneg ha
theorem tmod_bd {a m : Int} (hm : 0 < m) : -m < Int.tmod a m ∧ Int.tmod a m < m := by
  exact ⟨Int.lt_tmod_of_pos a hm, Int.tmod_lt_of_pos a hm⟩
theorem tmod_add {a m : Int} : (Int.tmod a m + m) % m = a % m := by
  rw [Int.add_emod_right]
  have h := Int.tmod_add_mul_tdiv a m
  have e : Int.tmod a m = a - m * (Int.tdiv a m) := by omega
  rw [e, Int.sub_mul_emod_self_left]
theorem tmod_neg_iff {a m : Int} (hm : 0 < m) : (if Int.tmod a m < 0 then Int.tmod a m + m else Int.tmod a m) = a % m := by
  have hb := tmod_bd (a := a) hm
  have he := tmod_add (a := a) (m := m)
  split
  · rw [← he, Int.emod_eq_of_lt (by omega) (by omega)]
  · rw [← he, Int.add_emod_right, Int.emod_eq_of_lt (by omega) (by omega)]

/-- 'Mod' at any arguments. -/
def md (a m : Int) : Int := if 1 ≤ m ∧ m ≤ 1000000000000 then a % m else 0
theorem md_in (a : Int) {m : Int} (h : 1 ≤ m) (h2 : m ≤ 1000000000000) : md a m = a % m := if_pos ⟨h, h2⟩

/-! ### the hsh -/
def hstep (h v : Int) : Int := (h * 1000003 + v % 2147483647 + 13) % 2147483647
def hsh (l : List Int) : Int := l.foldl hstep 11
def kh (key : Int) (l : List Int) : Int := hsh (key :: l ++ [key])
def one (x : Int) : Int := if x = 0 then 1 else x
def dk (seed : Int) (l : List Int) : Int := one (kh seed (151 :: l))
theorem step_bd (h v : Int) : 0 ≤ hstep h v ∧ hstep h v < 2147483647 := by unfold hstep; omega
theorem foldl_bd (l : List Int) : ∀ h, 0 ≤ h → h < 2147483647 → 0 ≤ l.foldl hstep h ∧ l.foldl hstep h < 2147483647 := by
  induction l with
  | nil => intro h h0 h1; exact ⟨h0, h1⟩
  | cons v l ih => intro h _ _; exact ih _ (step_bd h v).1 (step_bd h v).2
theorem hash_bd (l : List Int) : 0 ≤ hsh l ∧ hsh l < 2147483647 := foldl_bd l 11 (by omega) (by omega)
theorem kh_bd (k : Int) (l : List Int) : 0 ≤ kh k l ∧ kh k l < 2147483647 := hash_bd _
theorem dk_bd (k : Int) (l : List Int) : 1 ≤ dk k l ∧ dk k l < 2147483647 := by
  have := kh_bd k (151 :: l); unfold dk one; split <;> omega
theorem step_wrap {h v : Int} (h0 : 0 ≤ h) (h1 : h < 2147483647) : Int.tmod (wrap64 ((wrap64 ((wrap64 (h * 1000003)) + v % 2147483647)) + 13)) 2147483647 = hstep h v := by
  rw [wrap_in (x := h * 1000003) (by omega), wrap_in (x := h * 1000003 + v % 2147483647) (by omega), wrap_in (by omega), tmod_of (by omega)]
  rfl

def vkey (a : Int) : Bool := decide (1 ≤ a ∧ a ≤ 2147483646)
def vstore (a b c d : Int) : Bool := decide (1 ≤ a ∧ a ≤ 9) && decide (0 ≤ b ∧ b ≤ 1000000) && vkey c && decide (0 ≤ d ∧ d ≤ 1000000)

/-! ### lists -/
theorem rd_in {xs : List Int} {i : Nat} (h : i < xs.length) : rd xs (i : Int) = xs[i] := by
  simp [rd, List.getD, List.getElem?_eq_getElem h]
theorem drop_at {α : Type} {xs : List α} {i : Nat} (h : i < xs.length) : xs.drop i = xs[i] :: xs.drop (i + 1) := List.drop_eq_getElem_cons h
theorem drop_end {α : Type} {xs : List α} {i : Nat} (h : ¬ i < xs.length) : xs.drop i = [] := List.drop_eq_nil_of_le (by omega)

/-! ### Ev -/
theorem ev_now {α : Type} {r s : α} (h : r = s) : Ev (fun _ => some r) s := by subst h; exact Ev.now r
theorem ev_of {α : Type} {g : Nat → Option α} {r : α} (h : ∀ k, g k = some r) : Ev g r := ⟨0, fun k _ => h k⟩
theorem ev_k {α : Type} {g : Nat → Option α} {r : α} (h : Ev g r) : ∃ k, g k = some r := h.rounds

/-! ### loops -/
theorem ev1 {α : Type} {g : Nat → Option α} {r : α} (h : ∀ k, g (k + 1) = some r) : Ev g r := Ev.step (f := fun _ => some r) h (Ev.now r)
def srch {ρ : Type} (p : Nat → Bool) (hit : Nat → ρ) (r0 : ρ) : Nat → Nat → ρ
  | 0, _ => r0
  | d + 1, i => if p i = true then hit i else srch p hit r0 d (i + 1)
/-- A loop that looks for the first index, from s on, at which p answers yes. -/
theorem find_from {ρ : Type} {F : Nat → Int → Option ρ} {n s : Nat} {p : Nat → Bool} {hit : Nat → ρ} {r0 : ρ} (hstop : Ev (fun k => F k (n : Int)) r0)
    (hyes : ∀ i, s ≤ i → i < n → p i = true → Ev (fun k => F k (i : Int)) (hit i))
    (hno : ∀ i, s ≤ i → i < n → p i = false → ∀ r, Ev (fun k => F k ((i + 1 : Nat) : Int)) r → Ev (fun k => F k (i : Int)) r) :
    ∀ d i : Nat, s ≤ i → i + d = n → Ev (fun k => F k (i : Int)) (srch p hit r0 d i)
  | 0, i, hs, h => by
    have : i = n := by omega
    subst this; exact hstop
  | d + 1, i, hs, h => by
    unfold srch
    cases hp : p i with
    | true => rw [if_pos rfl]; exact hyes i hs (by omega) hp
    | false => rw [if_neg (by simp)]; exact hno i hs (by omega) hp _ (find_from hstop hyes hno d (i + 1) (by omega) (by omega))
theorem find_loop {ρ : Type} {F : Nat → Int → Option ρ} {n : Nat} {p : Nat → Bool} {hit : Nat → ρ} {r0 : ρ} (hstop : Ev (fun k => F k (n : Int)) r0)
    (hyes : ∀ i, i < n → p i = true → Ev (fun k => F k (i : Int)) (hit i))
    (hno : ∀ i, i < n → p i = false → ∀ r, Ev (fun k => F k ((i + 1 : Nat) : Int)) r → Ev (fun k => F k (i : Int)) r) (d i : Nat) (h : i + d = n) : Ev (fun k => F k (i : Int)) (srch p hit r0 d i) :=
  find_from (s := 0) hstop (fun i _ => hyes i) (fun i _ => hno i) d i (by omega) h
/-- A loop that does nothing but go on. -/
theorem skip_loop {ρ : Type} {F : Nat → Int → Option ρ} {n : Nat} {r : ρ} (hstop : Ev (fun k => F k (n : Int)) r)
    (hno : ∀ i, i < n → ∀ r, Ev (fun k => F k ((i + 1 : Nat) : Int)) r → Ev (fun k => F k (i : Int)) r) : Ev (fun k => F k 0) r := by
  have h : ∀ d i : Nat, i + d = n → Ev (fun k => F k (i : Int)) r := by
    intro d
    induction d with
    | zero => intro i h; have : i = n := by omega
              subst this; exact hstop
    | succ d ih => intro i h; exact hno i (by omega) _ (ih (i + 1) (by omega))
  exact h n 0 (by omega)
theorem take_set' {α : Type} (o : List α) (i : Nat) (x : α) (h : i < o.length) : (o.set i x).take (i + 1) = o.take i ++ [x] := by
  rw [List.take_succ_eq_append_getElem (by simpa using h)]
  congr 1
  · rw [List.take_set, List.set_eq_of_length_le (by simp; omega)]
  · simp
/-- A loop that fills a row of the same length, element by element. -/
theorem copy_loop {α β : Type} {F : Nat → List β → Int → Option (List β)} {l : List α} {conv : α → β}
    (hstop : ∀ o, o.length = l.length → Ev (fun k => F k o (l.length : Int)) o)
    (hstep : ∀ (o : List β) (i : Nat) (h : i < l.length), o.length = l.length → ∀ r, Ev (fun k => F k (o.set i (conv l[i])) ((i + 1 : Nat) : Int)) r → Ev (fun k => F k o (i : Int)) r)
    (o : List β) (ho : o.length = l.length) : Ev (fun k => F k o 0) (l.map conv) := by
  have h : ∀ d i : Nat, i + d = l.length → ∀ o : List β, o.length = l.length → o.take i = (l.map conv).take i → Ev (fun k => F k o (i : Int)) (l.map conv) := by
    intro d
    induction d with
    | zero =>
      intro i h o ho ht
      have : i = l.length := by omega
      subst this
      have e : o = l.map conv := by
        rw [List.take_of_length_le (by omega), List.take_of_length_le (by simp)] at ht; exact ht
      rw [← e]; exact hstop o ho
    | succ d ih =>
      intro i h o ho ht
      have hi : i < l.length := by omega
      refine hstep o i hi ho _ (ih (i + 1) (by omega) _ (by simpa using ho) ?_)
      rw [take_set' o i _ (by omega), ht, List.take_succ_eq_append_getElem (by simpa using hi)]
      simp
  exact h l.length 0 (by omega) o ho (by simp)
theorem rdOf_in {α : Type} (d : α) {xs : List α} {i : Nat} (h : i < xs.length) : xs.getD ((i : Nat) : Int).toNat d = xs[i] := by
  simp [List.getD, List.getElem?_eq_getElem h]
/-- 'left' after a length has been taken off it: the size tests of the laws. -/
def szd (left : Int) (n : Nat) : Int := if left - n < 0 then -1 else left - n
theorem szd_bd {left : Int} {n : Nat} (h : 0 ≤ left ∧ left ≤ 1048576) : -1 ≤ szd left n ∧ szd left n ≤ left := by unfold szd; split <;> omega
theorem szd_len {left : Int} {n : Nat} (h : ¬ szd left n < 0) : (n : Int) ≤ left ∧ szd left n = left - n := by
  unfold szd at h ⊢; split at h
  · omega
  · rw [if_neg (by assumption)]; omega
theorem szd_eq {left : Int} {n : Nat} (hl : 0 ≤ left ∧ left ≤ 1048576) (hn : n ≤ 9223372036854775807) : (if (wrap64 (left - (n : Int))) < 0 then (some (-1) : Option Int) else (some (wrap64 (left - (n : Int))))) = some (szd left n) := by
  rw [wrap_in (by omega)]; unfold szd; split <;> rfl

/-! ### the group -/
theorem pow_mod (a m : Int) (q : Nat) : (a % m) ^ q % m = a ^ q % m := by
  induction q with
  | zero => simp
  | succ q ih => rw [Int.pow_succ, Int.pow_succ, Int.mul_emod, ih, Int.emod_emod, ← Int.mul_emod]
def pwm (g : Int) (n : Nat) (m : Int) : Int := g ^ n % m
theorem pwm_def (g : Int) (n : Nat) (m : Int) : pwm g n m = g ^ n % m := rfl
theorem pw_even (g out m : Int) (q : Nat) : out * (g * g % m) ^ q % m = out * g ^ (2 * q) % m := by
  rw [Int.mul_emod, pow_mod, ← Int.mul_emod, Int.pow_mul]
  congr 3
  rw [Int.pow_succ, Int.pow_succ, Int.pow_zero, Int.one_mul]
theorem pw_odd (g out m : Int) (q : Nat) : (out * g % m) * (g * g % m) ^ q % m = out * g ^ (2 * q + 1) % m := by
  rw [pw_even, Int.mul_emod, Int.emod_emod, ← Int.mul_emod, Int.pow_succ, Int.mul_assoc, Int.mul_comm g, ← Int.mul_assoc, Int.mul_assoc]
theorem pwm_bd (g : Int) (n : Nat) {m : Int} (h : 0 < m) : 0 ≤ pwm g n m ∧ pwm g n m < m := ⟨Int.emod_nonneg _ (by omega), Int.emod_lt_of_pos _ h⟩
def gE (x : Int) : Bool := decide (1 ≤ x ∧ x ≤ 2038) && (pwm x 1019 2039 == 1)
def pg (g n : Int) : Int := if gE g = true then pwm g (n % 1019).toNat 2039 else 0
def inv (n : Int) : Int := if n % 1019 = 0 then 0 else pwm (n % 1019) 1017 1019

theorem gE_range {x : Int} (h : gE x = true) : 1 ≤ x ∧ x ≤ 2038 := by
  unfold gE at h; simp at h; omega
theorem mul_bd {a b A B : Int} (a0 : 0 ≤ a) (a1 : a ≤ A) (b0 : 0 ≤ b) (b1 : b ≤ B) : 0 ≤ a * b ∧ a * b ≤ A * B :=
  ⟨Int.mul_nonneg a0 b0, Int.mul_le_mul a1 b1 b0 (by omega)⟩
theorem and1 (n : Nat) (h : n < 2147483649) : Go.bits .and .i64 (n : Int) 1 = ((n % 2 : Nat) : Int) := by
  have h := Go.bits_mask .i64 62 (by decide) (fun x h0 h1 => by rw [Go.IntKind.wrap_i64]; omega) 1 (by decide) (n : Int) (by omega) (by omega)
  simp at h
  rw [h]; omega
def pubk (a : Int) : Int := if vkey a = true then a * 48271 % 2147483647 else 0
def ascB (l : List Int) : Bool := srch (fun i => decide (rd l (wrap64 ((i : Int) - 1)) ≥ rd l i)) (fun _ => false) true (max l.length 1 - 1) 1
def fq (y : Nat) : Nat := y * (y ^ 1017 % 1019) % 1019
theorem fermatN : ∀ x : Fin 1019, x.val ≠ 0 → fq x.val = 1 := by decide +kernel
theorem cast_pm (y n m : Nat) : ((y * (y ^ n % m) % m : Nat) : Int) = (y : Int) * ((y : Int) ^ n % (m : Int)) % (m : Int) := by
  rw [Int.natCast_emod, Int.natCast_mul, Int.natCast_emod, Int.natCast_pow]
theorem fermat {x : Int} (h : x % 1019 ≠ 0) : x % 1019 * inv x % 1019 = 1 := by
  unfold inv; rw [if_neg h]
  obtain ⟨y, hy⟩ := Int.eq_ofNat_of_zero_le (show 0 ≤ x % 1019 by omega)
  have f : fq y = 1 := fermatN ⟨y, by omega⟩ (by intro e; simp only at e; omega)
  unfold fq at f
  have c := cast_pm y 1017 1019
  rw [f] at c
  rw [hy]; exact c.symm
def fin (c b : Int) : Int := if b % 1019 = 0 then 0 else pg c (inv b)
theorem inv_bd (x : Int) : 0 ≤ inv x ∧ inv x < 1019 := by
  unfold inv; split
  · omega
  · exact pwm_bd _ _ (by omega)
theorem srch_none {ρ : Type} {p : Nat → Bool} {hit : Nat → ρ} {r0 : ρ} : ∀ d i, (∀ j, i ≤ j → j < i + d → p j = false) → srch p hit r0 d i = r0
  | 0, _, _ => rfl
  | d + 1, i, h => by unfold srch; rw [if_neg (by simp [h i (by omega) (by omega)])]; exact srch_none d (i + 1) (fun j h1 h2 => h j (by omega) (by omega))
theorem srch_at {ρ : Type} {p : Nat → Bool} {hit : Nat → ρ} {r0 : ρ} {y : Nat} (hy : p y = true) : ∀ d i, i ≤ y → y < i + d → (∀ j, i ≤ j → j < y → p j = false) → srch p hit r0 d i = hit y
  | 0, i, h1, h2, _ => by omega
  | d + 1, i, h1, h2, h => by
    unfold srch
    by_cases e : i = y
    · subst e; rw [if_pos hy]
    · rw [if_neg (by simp [h i (by omega) (by omega)])]; exact srch_at hy d (i + 1) (by omega) (by omega) (fun j q1 q2 => h j (by omega) q2)
theorem inv_uniq {x : Int} {j : Int} (h : x % 1019 * j % 1019 = 1) (j0 : 0 ≤ j) (j1 : j < 1019) : j = inv x := by
  have hx : x % 1019 ≠ 0 := by intro e; rw [e] at h; simp at h
  have f := fermat hx
  have e1 : j * (x % 1019 * inv x) % 1019 = j := by
    rw [Int.mul_emod, f, Int.mul_one, Int.emod_emod, Int.emod_eq_of_lt j0 j1]
  have e2 : j * (x % 1019 * inv x) % 1019 = inv x := by
    rw [← Int.mul_assoc, Int.mul_comm j, Int.mul_emod, h, Int.one_mul, Int.emod_emod, Int.emod_eq_of_lt (inv_bd x).1 (inv_bd x).2]
  rw [← e1, e2]
theorem srch_inv (n : Int) : srch (fun i => decide (n % 1019 * (i : Int) % 1019 = 1)) (fun i => (i : Int)) (0 : Int) 1018 1 = inv n := by
  by_cases h : n % 1019 = 0
  · rw [srch_none]
    · unfold inv; rw [if_pos h]
    · intro j _ _; simp [h]
  · have hb := inv_bd n
    have hf := fermat h
    have h0 : inv n ≠ 0 := by intro e; rw [e] at hf; simp at hf
    obtain ⟨y, hy⟩ := Int.eq_ofNat_of_zero_le hb.1
    rw [srch_at (y := y)]
    · exact hy.symm
    · rw [hy] at hf; simpa using hf
    · omega
    · omega
    · intro j _ hj
      refine decide_eq_false fun e => ?_
      have := inv_uniq e (by omega) (by omega)
      omega

/-! ### strings -/
theorem bytesOf_rng {s : ByteArray} : ∀ x ∈ bytesOf s, 0 ≤ x ∧ x ≤ 255 := by
  intro x hx
  obtain ⟨b, _, rfl⟩ := List.mem_map.1 hx
  have := b.toNat_lt
  omega
def dfs (key : Int) (s : ByteArray) : Int := one (kh key (((bytesOf s).length : Int) :: bytesOf s))

/-! ### signatures, boxes, attestations, assertions -/
def sgn (p : Int) (m : List Int) : Int := if vkey p = true then kh p ([139, (m.length : Int)] ++ m) else 0
def bmac (key a b : Int) (l : List Int) : Int := kh key ([167, a, b] ++ ((l.length : Int) :: l))
def att (m a b c d : Int) : Int × Int × Int × Int × Bool := if vstore a b c d = true then (a, b, pubk (dk c [181]), sgn (dk m [191, a]) [193, a, b, pubk (dk c [181])], true) else (0, 0, 0, 0, false)
def amsg (s o : ByteArray) (a b : Int) (p : Bool) : List Int := [199, dfs 173 s, dfs 211 o, a, b, if p = true then 1 else 0]

theorem vstore_d {a b c d : Int} (h : vstore a b c d = true) : 0 ≤ d ∧ d ≤ 1000000 := by
  unfold vstore at h; rw [Bool.and_eq_true] at h; exact of_decide_eq_true h.2
def sws (a b c d : Int) (s : ByteArray) (h : Int) (m : List Int) : Int × Int × Int × Int × Int × Bool :=
  if vstore a b c d = true ∧ d ≠ 1000000 then (a, b, c, d + 1, sgn (dk c [179, dfs 173 s, h]) (m ++ [d + 1]), true) else (a, b, c, d, 0, false)
def prvk (p : Int) : Int := if vkey p = true then p * 1899818559 % 2147483647 else 0
theorem mulinv (p : Int) : p * 1899818559 % 2147483647 * 48271 % 2147483647 = p % 2147483647 := by
  rw [Int.mul_emod, Int.emod_emod, ← Int.mul_emod, Int.mul_assoc, Int.mul_emod]
  rw [show (1899818559 * 48271 : Int) % 2147483647 = 1 by decide, Int.mul_one, Int.emod_emod]
theorem pubk_prvk {p : Int} (h : vkey p = true) : pubk (prvk p) = p := by
  have hr := of_decide_eq_true h
  unfold prvk; rw [if_pos h]
  have hm := mulinv p
  rw [Int.emod_eq_of_lt (a := p) (by omega) (by omega)] at hm
  have h0 : p * 1899818559 % 2147483647 ≠ 0 := by intro e; rw [e] at hm; simp at hm; omega
  have hv : vkey (p * 1899818559 % 2147483647) = true := decide_eq_true (by omega)
  unfold pubk; rw [if_pos hv]; exact hm
theorem prvk_pubk {k : Int} (h : vkey k = true) : prvk (pubk k) = k ∧ vkey (pubk k) = true := by
  have hr := of_decide_eq_true h
  have e : k * 48271 % 2147483647 * 1899818559 % 2147483647 = k := by
    rw [Int.mul_emod, Int.emod_emod, ← Int.mul_emod, Int.mul_assoc, Int.mul_emod]
    rw [show (48271 * 1899818559 : Int) % 2147483647 = 1 by decide, Int.mul_one, Int.emod_emod, Int.emod_eq_of_lt (by omega) (by omega)]
  have h0 : k * 48271 % 2147483647 ≠ 0 := by intro z; rw [z] at e; simp at e; omega
  have hv : vkey (k * 48271 % 2147483647) = true := decide_eq_true (by omega)
  unfold prvk pubk; rw [if_pos h, if_pos hv]; exact ⟨e, hv⟩
def vfy (p : Int) (m : List Int) (s : Int) : Bool := if prvk p = 0 then false else (sgn (prvk p) m == s)
def encL (key : Int) (l : List Int) : List Int := (List.range l.length).map fun (i : Nat) => (rd l i + kh key [(i : Int)]) % 256
def decL (key : Int) (l : List Int) : List Int := (List.range l.length).map fun (i : Nat) => (rd l i - kh key [(i : Int)]) % 256
theorem encL_length (key : Int) (l : List Int) : (encL key l).length = l.length := by simp [encL]
theorem decL_length (key : Int) (l : List Int) : (decL key l).length = l.length := by simp [decL]
theorem encL_rng {key : Int} {l : List Int} : ∀ x ∈ encL key l, 0 ≤ x ∧ x ≤ 255 := by
  intro x hx; obtain ⟨i, _, rfl⟩ := List.mem_map.1 hx; omega
theorem rd_rng {l : List Int} (hw : ∀ x ∈ l, 0 ≤ x ∧ x ≤ 255) {i : Nat} (h : i < l.length) : 0 ≤ rd l (i : Int) ∧ rd l (i : Int) ≤ 255 := by
  rw [rd_in h]; exact hw _ (List.getElem_mem h)
def slb (p e : Int) (l : List Int) : Int × Int × List Int × Int × Bool :=
  if prvk p ≠ 0 ∧ vkey e = true ∧ (l.length : Int) ≤ 200 then (p, e, encL (dk (prvk p) [163, e]) l, bmac (dk (prvk p) [163, e]) p e (encL (dk (prvk p) [163, e]) l), true) else (0, 0, [], 0, false)
theorem seal_len (p e : Int) (l : List Int) : (slb p e l).2.2.1.length ≤ l.length := by
  unfold slb; split
  · rw [encL_length]; exact Nat.le_refl _
  · simp
def opn (q a b : Int) (l : List Int) (c : Int) : List Int × Bool :=
  if vkey q = true ∧ a = pubk q ∧ vkey b = true ∧ (l.length : Int) ≤ 200 then (if c = bmac (dk q [163, b]) a b l then (decL (dk q [163, b]) l, true) else ([], false)) else ([], false)
theorem opn_len (q a b : Int) (l : List Int) (c : Int) : (opn q a b l c).1.length ≤ l.length := by
  unfold opn; split
  · split
    · rw [decL_length]; exact Nat.le_refl _
    · simp
  · simp
def rvk (l : List Int) (v s : Int) : Bool := srch (fun i => decide (rd l i = wrap64 ((wrap64 (v * 10000000)) + s))) (fun _ => true) false l.length 0
def chk (m : Int) (l : List Int) (a b c d : Int) : Bool :=
  (vkey m && ascB l) && ((decide (1 ≤ a ∧ a ≤ 9) && decide (0 ≤ b ∧ b ≤ 1000000)) && (!(rvk l a b) && vfy (pubk (dk m [191, a])) [193, a, b, c] d))

/-! ### more of the group -/
theorem pow_one_mod {g m : Int} (h : g % m = 1) (n : Nat) (hm : 1 < m) : g ^ n % m = 1 := by
  rw [← pow_mod, h, Int.one_pow, Int.emod_eq_of_lt (by omega) hm]
theorem gE_pow {g : Int} (h : gE g = true) : g ^ 1019 % 2039 = 1 := by
  unfold gE at h; rw [Bool.and_eq_true] at h; have h2 := beq_iff_eq.1 h.2; rw [pwm_def] at h2; exact h2
theorem gE_mk {x : Int} (h0 : 0 ≤ x) (h1 : x < 2039) (h : pwm x 1019 2039 = 1) : gE x = true := by
  unfold gE
  have hx : x ≠ 0 := by
    intro e; subst e
    rw [pwm_def, Int.zero_pow (by omega)] at h; exact absurd h (by decide)
  rw [decide_eq_true (by omega), Bool.true_and]; exact beq_iff_eq.2 h
theorem gE_pwm {g : Int} (h : gE g = true) (n : Nat) : gE (pwm g n 2039) = true := by
  have hb := pwm_bd g n (m := 2039) (by omega)
  refine gE_mk hb.1 hb.2 ?_
  rw [pwm_def, pwm_def, pow_mod, ← Int.pow_mul, Nat.mul_comm, Int.pow_mul]
  exact pow_one_mod (gE_pow h) n (by omega)
theorem gE_pg {g n : Int} (h : gE g = true) : gE (pg g n) = true := by unfold pg; rw [if_pos h]; exact gE_pwm h _
def qp (a n m : Nat) : Nat := a ^ n % m
theorem pwm_cast (a n m : Nat) : pwm (a : Int) n (m : Int) = ((qp a n m : Nat) : Int) := by
  unfold pwm qp; rw [Int.natCast_emod, Int.natCast_pow]
theorem q4_eq : qp 4 1019 2039 = 1 := by decide +kernel
theorem gE_4 : gE 4 = true := by
  refine gE_mk (by omega) (by omega) ?_
  have c := pwm_cast 4 1019 2039
  rw [q4_eq] at c
  exact c
theorem order {g : Int} (h : gE g = true) {b : Nat} (hb : b % 1019 ≠ 0) (e : g ^ b % 2039 = 1) : g = 1 := by
  have hr := gE_range h
  have f := fermat (x := (b : Int)) (by omega)
  obtain ⟨i, hi⟩ := Int.eq_ofNat_of_zero_le (inv_bd (b : Int)).1
  rw [hi] at f
  have f2 : (b % 1019 * i) % 1019 = 1 := by
    have : (((b % 1019 * i) % 1019 : Nat) : Int) = 1 := by rw [Int.natCast_emod, Int.natCast_mul, Int.natCast_emod]; exact f
    exact_mod_cast this
  have f3 : (b * i) % 1019 = 1 := by rw [Nat.mul_mod] at f2 ⊢; rw [Nat.mod_mod] at f2; exact f2
  have hq : b * i = 1019 * (b * i / 1019) + 1 := by have := Nat.div_add_mod (b * i) 1019; omega
  have e1 : g ^ (b * i) % 2039 = 1 := by rw [Int.pow_mul]; exact pow_one_mod e i (by omega)
  rw [hq, Int.pow_succ, Int.pow_mul, Int.mul_emod, pow_one_mod (gE_pow h) _ (by omega), Int.one_mul, Int.emod_emod, Int.emod_eq_of_lt (by omega) (by omega)] at e1
  exact e1
def htgE (l v : Int) : Int := 1 + kh l [89, v] * kh l [89, v] % 2147483647 % 1018
def htg (l v : Int) : Int := pg 4 (htgE l v)
theorem htgE_bd (l v : Int) : 1 ≤ htgE l v ∧ htgE l v ≤ 1018 := by unfold htgE; omega
theorem htg_eq (l v : Int) : htg l v = 4 ^ (htgE l v).toNat % 2039 := by
  have := htgE_bd l v
  unfold htg pg; rw [if_pos gE_4, Int.emod_eq_of_lt (by omega) (by omega)]; rfl
theorem gE_htg (l v : Int) : gE (htg l v) = true := gE_pg gE_4
theorem htg_ne (l v : Int) : htg l v ≠ 1 := by
  intro e
  have hb := htgE_bd l v
  rw [htg_eq] at e
  have := order gE_4 (b := (htgE l v).toNat) (by omega) e
  omega
def blind (l i b : Int) : Int := if b % 1019 = 0 then 0 else pg (htg l i) b
def expl (x l i : Int) : Int × Bool := srch (fun b => decide (pg (htg l i) b = x)) (fun b => ((b : Int), true)) (0, false) 1018 1
theorem pg_nat {g : Int} (h : gE g = true) {b : Nat} (hb : b < 1019) : pg g (b : Int) = g ^ b % 2039 := by
  unfold pg pwm; rw [if_pos h, Int.emod_eq_of_lt (a := (b : Int)) (b := 1019) (by omega) (by omega)]; rfl
theorem srch_cases {ρ : Type} {p : Nat → Bool} {hit : Nat → ρ} {r0 : ρ} : ∀ d i, (srch p hit r0 d i = r0 ∧ ∀ j, i ≤ j → j < i + d → p j = false) ∨ ∃ j, i ≤ j ∧ j < i + d ∧ srch p hit r0 d i = hit j ∧ p j = true
  | 0, i => .inl ⟨rfl, fun j h1 h2 => absurd h1 (by omega)⟩
  | d + 1, i => by
    unfold srch
    cases hp : p i with
    | true => exact .inr ⟨i, by omega, by omega, by rw [if_pos rfl], hp⟩
    | false =>
      rw [if_neg (by simp)]
      rcases srch_cases (p := p) (hit := hit) (r0 := r0) d (i + 1) with ⟨h, g⟩ | ⟨j, h1, h2, h3, h4⟩
      · refine .inl ⟨h, fun j h1 h2 => ?_⟩
        by_cases e : j = i
        · rw [e]; exact hp
        · exact g j (by omega) (by omega)
      · exact .inr ⟨j, by omega, by omega, h3, h4⟩
theorem srch_step {ρ : Type} {p : Nat → Bool} {hit : Nat → ρ} {r0 : ρ} {i : Nat} (d : Nat) (h : p i = false) : srch p hit r0 (d + 1) i = srch p hit r0 d (i + 1) := by
  rw [srch, if_neg (by simp [h])]
theorem srch_map {ρ σ : Type} (f : ρ → σ) (p : Nat → Bool) (hit : Nat → ρ) (r0 : ρ) : ∀ d i, f (srch p hit r0 d i) = srch p (fun j => f (hit j)) (f r0) d i
  | 0, _ => rfl
  | d + 1, i => by unfold srch; split <;> first | rfl | exact srch_map f p hit r0 d (i + 1)
theorem srch_congr {ρ : Type} {p q : Nat → Bool} {h k : Nat → ρ} {r0 : ρ} : ∀ d i, (∀ j, i ≤ j → j < i + d → p j = q j ∧ h j = k j) → srch p h r0 d i = srch q k r0 d i
  | 0, _, _ => rfl
  | d + 1, i, e => by
    unfold srch
    obtain ⟨e1, e2⟩ := e i (by omega) (by omega)
    rw [e1, e2, srch_congr d (i + 1) (fun j h1 h2 => e j (by omega) (by omega))]

/-- A loop that builds a row, an element a round. -/
theorem build_loop {β ρ : Type} {F : Nat → List β → Int → Option ρ} {n : Nat} {g : Nat → β} {fin : List β → ρ}
    (hstop : ∀ o : List β, o.length = n → Ev (fun k => F k o (n : Int)) (fin o))
    (hstep : ∀ (o : List β) (i : Nat), i < n → o.length = i → ∀ r, Ev (fun k => F k (o ++ [g i]) ((i + 1 : Nat) : Int)) r → Ev (fun k => F k o (i : Int)) r) :
    Ev (fun k => F k [] 0) (fin ((List.range n).map g)) := by
  have h : ∀ d i : Nat, i + d = n → Ev (fun k => F k ((List.range i).map g) (i : Int)) (fin ((List.range n).map g)) := by
    intro d
    induction d with
    | zero => intro i h; have : i = n := by omega
              subst this; exact hstop _ (by simp)
    | succ d ih =>
      intro i h
      refine hstep _ i (by omega) (by simp) _ ?_
      have := ih (i + 1) (by omega)
      rw [List.range_succ, List.map_append] at this; exact this
  exact h n 0 (by omega)

/-! ### marks -/
def mksB (n : Nat) : List Int := (List.range n).map fun (i : Nat) => (1 + (i : Int)) % 256
theorem mksB_length (n : Nat) : (mksB n).length = n := by simp [mksB]
theorem rd_mksB {n i : Nat} (h : i < n) : rd (mksB n) (i : Int) = (1 + (i : Int)) % 256 := by
  rw [rd_in (by rw [mksB_length]; exact h)]; simp [mksB]
def mks (n : Nat) : List Int := (List.range n).map fun (i : Nat) => 1 + (i : Int)
theorem mks_length (n : Nat) : (mks n).length = n := by simp [mks]
theorem rd_mks {n i : Nat} (h : i < n) : rd (mks n) (i : Int) = 1 + (i : Int) := by
  rw [rd_in (by rw [mks_length]; exact h)]; simp [mks]
/-- A loop that writes each element anew, by its index alone; its answer made of the row. -/
theorem fill_loop {β ρ : Type} {F : Nat → List β → Int → Option ρ} {n : Nat} {g : Nat → β} {fin : List β → ρ}
    (hstop : ∀ o : List β, o.length = n → Ev (fun k => F k o (n : Int)) (fin o))
    (hstep : ∀ (o : List β) (i : Nat), i < n → o.length = n → ∀ r, Ev (fun k => F k (o.set i (g i)) ((i + 1 : Nat) : Int)) r → Ev (fun k => F k o (i : Int)) r)
    (o : List β) (ho : o.length = n) : Ev (fun k => F k o 0) (fin ((List.range n).map g)) := by
  have h : ∀ d i : Nat, i + d = n → ∀ o : List β, o.length = n → o.take i = (List.range i).map g → Ev (fun k => F k o (i : Int)) (fin ((List.range n).map g)) := by
    intro d
    induction d with
    | zero =>
      intro i h o ho ht
      have : i = n := by omega
      subst this
      rw [List.take_of_length_le (by omega)] at ht
      rw [← ht]; exact hstop o ho
    | succ d ih =>
      intro i h o ho ht
      refine hstep o i (by omega) ho _ (ih (i + 1) (by omega) _ (by simpa using ho) ?_)
      rw [take_set' o i _ (by omega), ht, List.range_succ, List.map_append]; rfl
  exact h n 0 (by omega) o ho (by simp)

end Go.Proofs.Ytimjjicbdnehlaa.Mt
