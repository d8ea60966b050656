/- Plain numbers and lists for the laws: what Hash, KeyedHash, DeriveKey and the small helpers compute. Conditions: none but the ranges that each lemma names. -/
import Derived.Test.YtlfgapgpbmidcaaWMore
import Derived.OpenShut
namespace Go.Proofs.Ytlfgapgpbmidcaa.Mt
open Go.RowKit Go.Proofs.YtlfgapgpbmidcaaW.PrintWords Go.Proofs.YtlfgapgpbmidcaaW.PrintLast

/-! ### numbers -/
theorem wf64 {a : Int} (h : (Lit.int .i64 a).wf = true) : -9223372036854775808 ≤ a ∧ a ≤ 9223372036854775807 := bounds_i64 h
theorem wrap_in {x : Int} (h : -9223372036854775808 ≤ x ∧ x ≤ 9223372036854775807) : wrap64 x = x := by
  unfold wrap64; omega
theorem tmod_of {a m : Int} (ha : 0 ≤ a) : Int.tmod a m = a % m := Int.tmod_eq_emod_of_nonneg ha
theorem tmod_bd {a m : Int} (hm : 0 < m) : -m < Int.tmod a m ∧ Int.tmod a m < m := by
  exact ⟨Int.lt_tmod_of_pos a hm, Int.tmod_lt_of_pos a hm⟩
theorem tmod_add {a m : Int} : (Int.tmod a m + m) % m = a % m := by
  rw [Int.add_emod_right]
  have h := Int.tmod_add_mul_tdiv a m
  have e : Int.tmod a m = a - m * (Int.tdiv a m) := by omega
  rw [e, Int.sub_mul_emod_self_left]
theorem tmod_neg_iff {a m : Int} (hm : 0 < m) : (if Int.tmod a m < 0 then Int.tmod a m + m else Int.tmod a m) = a % m := by
  have hb := tmod_bd (a := a) hm
  have he := tmod_add (a := a) (m := m)
  split
  · rw [← he, Int.emod_eq_of_lt (by omega) (by omega)]
  · rw [← he, Int.add_emod_right, Int.emod_eq_of_lt (by omega) (by omega)]

/-- 'Mod' at any arguments. -/
def md (a m : Int) : Int := if 1 ≤ m ∧ m ≤ 1000000000000 then a % m else 0
theorem md_in (a : Int) {m : Int} (h : 1 ≤ m) (h2 : m ≤ 1000000000000) : md a m = a % m := if_pos ⟨h, h2⟩

/-! ### the hsh -/
def hstep (h v : Int) : Int := (h * 1000003 + v % 2147483647 + 13) % 2147483647
def hsh (l : List Int) : Int := l.foldl hstep 11
def kh (key : Int) (l : List Int) : Int := hsh (key :: l ++ [key])
def one (x : Int) : Int := if x = 0 then 1 else x
def dk (seed : Int) (l : List Int) : Int := one (kh seed (151 :: l))
theorem step_bd (h v : Int) : 0 ≤ hstep h v ∧ hstep h v < 2147483647 := by unfold hstep; omega
theorem foldl_bd (l : List Int) : ∀ h, 0 ≤ h → h < 2147483647 → 0 ≤ l.foldl hstep h ∧ l.foldl hstep h < 2147483647 := by
  induction l with
  | nil => intro h h0 h1; exact ⟨h0, h1⟩
  | cons v l ih => intro h _ _; exact ih _ (step_bd h v).1 (step_bd h v).2
theorem hash_bd (l : List Int) : 0 ≤ hsh l ∧ hsh l < 2147483647 := foldl_bd l 11 (by omega) (by omega)
theorem kh_bd (k : Int) (l : List Int) : 0 ≤ kh k l ∧ kh k l < 2147483647 := hash_bd _
theorem dk_bd (k : Int) (l : List Int) : 1 ≤ dk k l ∧ dk k l < 2147483647 := by
  have := kh_bd k (151 :: l); unfold dk one; split <;> omega
theorem step_wrap {h v : Int} (h0 : 0 ≤ h) (h1 : h < 2147483647) : Int.tmod (wrap64 ((wrap64 ((wrap64 (h * 1000003)) + v % 2147483647)) + 13)) 2147483647 = hstep h v := by
  rw [wrap_in (x := h * 1000003) (by omega), wrap_in (x := h * 1000003 + v % 2147483647) (by omega), wrap_in (by omega), tmod_of (by omega)]
  rfl

def vkey (a : Int) : Bool := decide (1 ≤ a ∧ a ≤ 2147483646)
def vstore (a b c d : Int) : Bool := decide (1 ≤ a ∧ a ≤ 9) && decide (0 ≤ b ∧ b ≤ 1000000) && vkey c && decide (0 ≤ d ∧ d ≤ 1000000)

/-! ### lists -/
theorem rd_in {xs : List Int} {i : Nat} (h : i < xs.length) : rd xs (i : Int) = xs[i] := by
  simp [rd, List.getD, List.getElem?_eq_getElem h]
theorem drop_at {α : Type} {xs : List α} {i : Nat} (h : i < xs.length) : xs.drop i = xs[i] :: xs.drop (i + 1) := List.drop_eq_getElem_cons h
theorem drop_end {α : Type} {xs : List α} {i : Nat} (h : ¬ i < xs.length) : xs.drop i = [] := List.drop_eq_nil_of_le (by omega)

/-! ### Ev -/
theorem ev_now {α : Type} {r s : α} (h : r = s) : Ev (fun _ => some r) s := by subst h; exact Ev.now r
theorem ev_of {α : Type} {g : Nat → Option α} {r : α} (h : ∀ k, g k = some r) : Ev g r := ⟨0, fun k _ => h k⟩
theorem ev_k {α : Type} {g : Nat → Option α} {r : α} (h : Ev g r) : ∃ k, g k = some r := h.rounds

end Go.Proofs.Ytlfgapgpbmidcaa.Mt
