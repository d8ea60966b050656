/- Helping lemmas of the law FnAssertions, in so far as it needs them; conditions: each lemma's own. -/
import Derived.Test.YtogcoedmagoogaaGreatDoorZWMore
import Derived.OpenShut
namespace Go.Proofs.YtogcoedmagoogaaGreatDoor.Mt
open Go.RowKit Go.Proofs.YtogcoedmagoogaaGreatDoorW.PrintWords Go.Proofs.YtogcoedmagoogaaGreatDoorW.PrintLast
theorem wrap_in {x : Int} (h : -9223372036854775808 ≤ x ∧ x ≤ 9223372036854775807) : wrap64 x = x := by
  unfold wrap64; omega
theorem tmod_of {a m : Int} (ha : 0 ≤ a) : Int.tmod a m = a % m := Int.tmod_eq_emod_of_nonneg ha
theorem tmod_bd {a m : Int} (hm : 0 < m) : -m < Int.tmod a m ∧ Int.tmod a m < m := by
  exact ⟨Int.lt_tmod_of_pos a hm, Int.tmod_lt_of_pos a hm⟩
theorem tmod_add {a m : Int} : (Int.tmod a m + m) % m = a % m := by
  rw [Int.add_emod_right]
  have h := Int.tmod_add_mul_tdiv a m
  have e : Int.tmod a m = a - m * (Int.tdiv a m) := by omega
  rw [e, Int.sub_mul_emod_self_left]
theorem tmod_neg_iff {a m : Int} (hm : 0 < m) : (if Int.tmod a m < 0 then Int.tmod a m + m else Int.tmod a m) = a % m := by
  have hb := tmod_bd (a := a) hm
  have he := tmod_add (a := a) (m := m)
  split
  · rw [← he, Int.emod_eq_of_lt (by omega) (by omega)]
  · rw [← he, Int.add_emod_right, Int.emod_eq_of_lt (by omega) (by omega)]
def md (a m : Int) : Int := if 1 ≤ m ∧ m ≤ 1000000000000 then a % m else 0
theorem md_in (a : Int) {m : Int} (h : 1 ≤ m) (h2 : m ≤ 1000000000000) : md a m = a % m := if_pos ⟨h, h2⟩
def hstep (h v : Int) : Int := (h * 1000003 + v % 2147483647 + 13) % 2147483647
def hsh (l : List Int) : Int := l.foldl hstep 11
def kh (key : Int) (l : List Int) : Int := hsh (key :: l ++ [key])
def one (x : Int) : Int := if x = 0 then 1 else x
def dk (seed : Int) (l : List Int) : Int := one (kh seed (151 :: l))
theorem step_bd (h v : Int) : 0 ≤ hstep h v ∧ hstep h v < 2147483647 := by unfold hstep; omega
theorem foldl_bd (l : List Int) : ∀ h, 0 ≤ h → h < 2147483647 → 0 ≤ l.foldl hstep h ∧ l.foldl hstep h < 2147483647 := by
  induction l with
  | nil => intro h h0 h1; exact ⟨h0, h1⟩
  | cons v l ih => intro h _ _; exact ih _ (step_bd h v).1 (step_bd h v).2
theorem hash_bd (l : List Int) : 0 ≤ hsh l ∧ hsh l < 2147483647 := foldl_bd l 11 (by omega) (by omega)
theorem kh_bd (k : Int) (l : List Int) : 0 ≤ kh k l ∧ kh k l < 2147483647 := hash_bd _
theorem dk_bd (k : Int) (l : List Int) : 1 ≤ dk k l ∧ dk k l < 2147483647 := by
  have := kh_bd k (151 :: l); unfold dk one; split <;> omega
theorem step_wrap {h v : Int} (h0 : 0 ≤ h) (h1 : h < 2147483647) : Int.tmod (wrap64 ((wrap64 ((wrap64 (h * 1000003)) + v % 2147483647)) + 13)) 2147483647 = hstep h v := by
  rw [wrap_in (x := h * 1000003) (by omega), wrap_in (x := h * 1000003 + v % 2147483647) (by omega), wrap_in (by omega), tmod_of (by omega)]
  rfl
def vkey (a : Int) : Bool := decide (1 ≤ a ∧ a ≤ 2147483646)
def vstore (a b c d : Int) : Bool := decide (1 ≤ a ∧ a ≤ 9) && decide (0 ≤ b ∧ b ≤ 1000000) && vkey c && decide (0 ≤ d ∧ d ≤ 1000000)
theorem rd_in {xs : List Int} {i : Nat} (h : i < xs.length) : rd xs (i : Int) = xs[i] := by
  simp [rd, List.getD, List.getElem?_eq_getElem h]
theorem drop_at {α : Type} {xs : List α} {i : Nat} (h : i < xs.length) : xs.drop i = xs[i] :: xs.drop (i + 1) := List.drop_eq_getElem_cons h
theorem drop_end {α : Type} {xs : List α} {i : Nat} (h : ¬ i < xs.length) : xs.drop i = [] := List.drop_eq_nil_of_le (by omega)
theorem ev_now {α : Type} {r s : α} (h : r = s) : Ev (fun _ => some r) s := by subst h; exact Ev.now r
theorem ev_of {α : Type} {g : Nat → Option α} {r : α} (h : ∀ k, g k = some r) : Ev g r := ⟨0, fun k _ => h k⟩
theorem ev_k {α : Type} {g : Nat → Option α} {r : α} (h : Ev g r) : ∃ k, g k = some r := h.rounds
theorem ev1 {α : Type} {g : Nat → Option α} {r : α} (h : ∀ k, g (k + 1) = some r) : Ev g r := Ev.step (f := fun _ => some r) h (Ev.now r)
def srch {ρ : Type} (p : Nat → Bool) (hit : Nat → ρ) (r0 : ρ) : Nat → Nat → ρ
  | 0, _ => r0
  | d + 1, i => if p i = true then hit i else srch p hit r0 d (i + 1)
theorem rdOf_in {α : Type} (d : α) {xs : List α} {i : Nat} (h : i < xs.length) : xs.getD ((i : Nat) : Int).toNat d = xs[i] := by
  simp [List.getD, List.getElem?_eq_getElem h]
theorem mul_bd {a b A B : Int} (a0 : 0 ≤ a) (a1 : a ≤ A) (b0 : 0 ≤ b) (b1 : b ≤ B) : 0 ≤ a * b ∧ a * b ≤ A * B :=
  ⟨Int.mul_nonneg a0 b0, Int.mul_le_mul a1 b1 b0 (by omega)⟩
def pubk (a : Int) : Int := if vkey a = true then a * 48271 % 2147483647 else 0
theorem bytesOf_rng {s : ByteArray} : ∀ x ∈ bytesOf s, 0 ≤ x ∧ x ≤ 255 := by
  intro x hx
  obtain ⟨b, _, rfl⟩ := List.mem_map.1 hx
  have := b.toNat_lt
  omega
def dfs (key : Int) (s : ByteArray) : Int := one (kh key (((bytesOf s).length : Int) :: bytesOf s))
def sgn (p : Int) (m : List Int) : Int := if vkey p = true then kh p ([139, (m.length : Int)] ++ m) else 0
def amsg (s o : ByteArray) (a b : Int) (p : Bool) : List Int := [199, dfs 173 s, dfs 211 o, a, b, if p = true then 1 else 0]
theorem vstore_d {a b c d : Int} (h : vstore a b c d = true) : 0 ≤ d ∧ d ≤ 1000000 := by
  unfold vstore at h; rw [Bool.and_eq_true] at h; exact of_decide_eq_true h.2
def sws (a b c d : Int) (s : ByteArray) (h : Int) (m : List Int) : Int × Int × Int × Int × Int × Bool :=
  if vstore a b c d = true ∧ d ≠ 1000000 then (a, b, c, d + 1, sgn (dk c [179, dfs 173 s, h]) (m ++ [d + 1]), true) else (a, b, c, d, 0, false)
def prvk (p : Int) : Int := if vkey p = true then p * 1899818559 % 2147483647 else 0
theorem prvk_pubk {k : Int} (h : vkey k = true) : prvk (pubk k) = k ∧ vkey (pubk k) = true := by
  have hr := of_decide_eq_true h
  have e : k * 48271 % 2147483647 * 1899818559 % 2147483647 = k := by
    rw [Int.mul_emod, Int.emod_emod, ← Int.mul_emod, Int.mul_assoc, Int.mul_emod]
    rw [show (48271 * 1899818559 : Int) % 2147483647 = 1 by decide, Int.mul_one, Int.emod_emod, Int.emod_eq_of_lt (by omega) (by omega)]
  have h0 : k * 48271 % 2147483647 ≠ 0 := by intro z; rw [z] at e; simp at e; omega
  have hv : vkey (k * 48271 % 2147483647) = true := decide_eq_true (by omega)
  unfold prvk pubk; rw [if_pos h, if_pos hv]; exact ⟨e, hv⟩
def vfy (p : Int) (m : List Int) (s : Int) : Bool := if prvk p = 0 then false else (sgn (prvk p) m == s)
end Go.Proofs.YtogcoedmagoogaaGreatDoor.Mt

