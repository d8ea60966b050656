/- Helping lemmas of the law FnExactExpireChallenges, in so far as it needs them; conditions: each lemma's own. -/
import Derived.Test.YtednmbifgnpkbaaZWMore
import Derived.OpenShut
namespace Go.Proofs.Ytednmbifgnpkbaa.Mt
open Go.RowKit Go.Proofs.YtednmbifgnpkbaaW.PrintWords Go.Proofs.YtednmbifgnpkbaaW.PrintLast
theorem wrap_in {x : Int} (h : -9223372036854775808 ≤ x ∧ x ≤ 9223372036854775807) : wrap64 x = x := by
  unfold wrap64; omega
def md (a m : Int) : Int := if 1 ≤ m ∧ m ≤ 1000000000000 then a % m else 0
def hstep (h v : Int) : Int := (h * 1000003 + v % 2147483647 + 13) % 2147483647
theorem drop_at {α : Type} {xs : List α} {i : Nat} (h : i < xs.length) : xs.drop i = xs[i] :: xs.drop (i + 1) := List.drop_eq_getElem_cons h
theorem drop_end {α : Type} {xs : List α} {i : Nat} (h : ¬ i < xs.length) : xs.drop i = [] := List.drop_eq_nil_of_le (by omega)
theorem ev1 {α : Type} {g : Nat → Option α} {r : α} (h : ∀ k, g (k + 1) = some r) : Ev g r := Ev.step (f := fun _ => some r) h (Ev.now r)
def srch {ρ : Type} (p : Nat → Bool) (hit : Nat → ρ) (r0 : ρ) : Nat → Nat → ρ
  | 0, _ => r0
  | d + 1, i => if p i = true then hit i else srch p hit r0 d (i + 1)
theorem find_from {ρ : Type} {F : Nat → Int → Option ρ} {n s : Nat} {p : Nat → Bool} {hit : Nat → ρ} {r0 : ρ} (hstop : Ev (fun k => F k (n : Int)) r0)
    (hyes : ∀ i, s ≤ i → i < n → p i = true → Ev (fun k => F k (i : Int)) (hit i))
    (hno : ∀ i, s ≤ i → i < n → p i = false → ∀ r, Ev (fun k => F k ((i + 1 : Nat) : Int)) r → Ev (fun k => F k (i : Int)) r) :
    ∀ d i : Nat, s ≤ i → i + d = n → Ev (fun k => F k (i : Int)) (srch p hit r0 d i)
  | 0, i, hs, h => by
    have : i = n := by omega
    subst this; exact hstop
  | d + 1, i, hs, h => by
    unfold srch
    cases hp : p i with
    | true => rw [if_pos rfl]; exact hyes i hs (by omega) hp
    | false => rw [if_neg (by simp)]; exact hno i hs (by omega) hp _ (find_from hstop hyes hno d (i + 1) (by omega) (by omega))
theorem find_loop {ρ : Type} {F : Nat → Int → Option ρ} {n : Nat} {p : Nat → Bool} {hit : Nat → ρ} {r0 : ρ} (hstop : Ev (fun k => F k (n : Int)) r0)
    (hyes : ∀ i, i < n → p i = true → Ev (fun k => F k (i : Int)) (hit i))
    (hno : ∀ i, i < n → p i = false → ∀ r, Ev (fun k => F k ((i + 1 : Nat) : Int)) r → Ev (fun k => F k (i : Int)) r) (d i : Nat) (h : i + d = n) : Ev (fun k => F k (i : Int)) (srch p hit r0 d i) :=
  find_from (s := 0) hstop (fun i _ => hyes i) (fun i _ => hno i) d i (by omega) h
theorem skip_loop {ρ : Type} {F : Nat → Int → Option ρ} {n : Nat} {r : ρ} (hstop : Ev (fun k => F k (n : Int)) r)
    (hno : ∀ i, i < n → ∀ r, Ev (fun k => F k ((i + 1 : Nat) : Int)) r → Ev (fun k => F k (i : Int)) r) : Ev (fun k => F k 0) r := by
  have h : ∀ d i : Nat, i + d = n → Ev (fun k => F k (i : Int)) r := by
    intro d
    induction d with
    | zero => intro i h; have : i = n := by omega
              subst this; exact hstop
    | succ d ih => intro i h; exact hno i (by omega) _ (ih (i + 1) (by omega))
  exact h n 0 (by omega)
theorem take_set' {α : Type} (o : List α) (i : Nat) (x : α) (h : i < o.length) : (o.set i x).take (i + 1) = o.take i ++ [x] := by
  rw [List.take_succ_eq_append_getElem (by simpa using h)]
  congr 1
  · rw [List.take_set, List.set_eq_of_length_le (by simp; omega)]
  · simp
theorem copy_loop {α β : Type} {F : Nat → List β → Int → Option (List β)} {l : List α} {conv : α → β}
    (hstop : ∀ o, o.length = l.length → Ev (fun k => F k o (l.length : Int)) o)
    (hstep : ∀ (o : List β) (i : Nat) (h : i < l.length), o.length = l.length → ∀ r, Ev (fun k => F k (o.set i (conv l[i])) ((i + 1 : Nat) : Int)) r → Ev (fun k => F k o (i : Int)) r)
    (o : List β) (ho : o.length = l.length) : Ev (fun k => F k o 0) (l.map conv) := by
  have h : ∀ d i : Nat, i + d = l.length → ∀ o : List β, o.length = l.length → o.take i = (l.map conv).take i → Ev (fun k => F k o (i : Int)) (l.map conv) := by
    intro d
    induction d with
    | zero =>
      intro i h o ho ht
      have : i = l.length := by omega
      subst this
      have e : o = l.map conv := by
        rw [List.take_of_length_le (by omega), List.take_of_length_le (by simp)] at ht; exact ht
      rw [← e]; exact hstop o ho
    | succ d ih =>
      intro i h o ho ht
      have hi : i < l.length := by omega
      refine hstep o i hi ho _ (ih (i + 1) (by omega) _ (by simpa using ho) ?_)
      rw [take_set' o i _ (by omega), ht, List.take_succ_eq_append_getElem (by simpa using hi)]
      simp
  exact h l.length 0 (by omega) o ho (by simp)
theorem rdOf_in {α : Type} (d : α) {xs : List α} {i : Nat} (h : i < xs.length) : xs.getD ((i : Nat) : Int).toNat d = xs[i] := by
  simp [List.getD, List.getElem?_eq_getElem h]
def szd (left : Int) (n : Nat) : Int := if left - n < 0 then -1 else left - n
theorem szd_bd {left : Int} {n : Nat} (h : 0 ≤ left ∧ left ≤ 1048576) : -1 ≤ szd left n ∧ szd left n ≤ left := by unfold szd; split <;> omega
theorem szd_len {left : Int} {n : Nat} (h : ¬ szd left n < 0) : (n : Int) ≤ left ∧ szd left n = left - n := by
  unfold szd at h ⊢; split at h
  · omega
  · rw [if_neg (by assumption)]; omega
theorem szd_eq {left : Int} {n : Nat} (hl : 0 ≤ left ∧ left ≤ 1048576) (hn : n ≤ 9223372036854775807) : (if (wrap64 (left - (n : Int))) < 0 then (some (-1) : Option Int) else (some (wrap64 (left - (n : Int))))) = some (szd left n) := by
  rw [wrap_in (by omega)]; unfold szd; split <;> rfl
def pwm (g : Int) (n : Nat) (m : Int) : Int := g ^ n % m
def gE (x : Int) : Bool := decide (1 ≤ x ∧ x ≤ 2038) && (pwm x 1019 2039 == 1)
def pg (g n : Int) : Int := if gE g = true then pwm g (n % 1019).toNat 2039 else 0
def inv (n : Int) : Int := if n % 1019 = 0 then 0 else pwm (n % 1019) 1017 1019
def fin (c b : Int) : Int := if b % 1019 = 0 then 0 else pg c (inv b)
theorem fill_loop {β ρ : Type} {F : Nat → List β → Int → Option ρ} {n : Nat} {g : Nat → β} {fin : List β → ρ}
    (hstop : ∀ o : List β, o.length = n → Ev (fun k => F k o (n : Int)) (fin o))
    (hstep : ∀ (o : List β) (i : Nat), i < n → o.length = n → ∀ r, Ev (fun k => F k (o.set i (g i)) ((i + 1 : Nat) : Int)) r → Ev (fun k => F k o (i : Int)) r)
    (o : List β) (ho : o.length = n) : Ev (fun k => F k o 0) (fin ((List.range n).map g)) := by
  have h : ∀ d i : Nat, i + d = n → ∀ o : List β, o.length = n → o.take i = (List.range i).map g → Ev (fun k => F k o (i : Int)) (fin ((List.range n).map g)) := by
    intro d
    induction d with
    | zero =>
      intro i h o ho ht
      have : i = n := by omega
      subst this
      rw [List.take_of_length_le (by omega)] at ht
      rw [← ht]; exact hstop o ho
    | succ d ih =>
      intro i h o ho ht
      refine hstep o i (by omega) ho _ (ih (i + 1) (by omega) _ (by simpa using ho) ?_)
      rw [take_set' o i _ (by omega), ht, List.range_succ, List.map_append]; rfl
  exact h n 0 (by omega) o ho (by simp)
end Go.Proofs.Ytednmbifgnpkbaa.Mt

