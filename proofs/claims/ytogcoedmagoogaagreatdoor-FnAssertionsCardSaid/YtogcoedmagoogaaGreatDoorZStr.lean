/- Helping lemmas of the law FnAssertions, in so far as it needs them; conditions: each lemma's own. -/
import Derived.Test.YtogcoedmagoogaaGreatDoorZWMore
import Derived.Test.YtogcoedmagoogaaGreatDoorZWRepsOne
import Derived.Test.YtogcoedmagoogaaGreatDoorZShelf
import Derived.Lib.IndexBytes
import Derived.Lib.SplitLaws
import Derived.Shelf.Strings.SplitCore
import Derived.Shelf.Strings.Search3
import Derived.Shelf.Strings.Count
namespace Go.Proofs.YtogcoedmagoogaaGreatDoor.Man
open Go Go.RowKit Go.Proofs.YtogcoedmagoogaaGreatDoorW.PrintWords Go.Proofs.YtogcoedmagoogaaGreatDoorW.PrintLast Go.Proofs.YtogcoedmagoogaaGreatDoorW.PrintMore
set_option linter.unusedVariables false
def lab : List UInt8 → List (List UInt8)
  | [] => [[]]
  | c :: t => if c = 46 then [] :: lab t else match lab t with | h :: r => (c :: h) :: r | [] => [[c]]
theorem splitK_lab : ∀ (l : List UInt8) (k : Nat), l.count 46 = k → Lib.splitK [46] 0 k l = lab l := by
  intro l
  induction l with
  | nil => intro k h; have : k = 0 := by simpa using h.symm
           subst this; rfl
  | cons c t ih =>
    intro k h
    by_cases hc : c = 46
    · subst hc
      rw [List.count_cons_self] at h
      obtain ⟨k', rfl⟩ : ∃ k', k = k' + 1 := ⟨k - 1, by omega⟩
      have hi : Lib.index (46 :: t) [46] = 0 := by simp [Lib.index]
      unfold Lib.splitK lab
      rw [hi, if_neg (by decide), if_pos rfl]
      have := ih k' (by omega)
      simp [this]
    · rw [List.count_cons_of_ne hc] at h
      have hi : Lib.index (c :: t) [46] = if Lib.index t [46] == -1 then -1 else Lib.index t [46] + 1 := by
        have : ¬ (46 : UInt8) = c := fun e => hc e.symm
        simp [Lib.index, this]
      have ht := ih k h
      unfold lab
      rw [if_neg hc, ← ht]
      cases k with
      | zero => rfl
      | succ k =>
        unfold Lib.splitK
        rw [hi]
        by_cases hm : Lib.index t [46] = -1
        · simp [hm]
        · have hge := Lib.index_ge t [46]
          have h1 : (Lib.index t [46] == -1) = false := beq_eq_false_iff_ne.2 hm
          have h2 : (Lib.index t [46] + 1 == -1) = false := beq_eq_false_iff_ne.2 (by omega)
          rw [h1]
          simp only [Bool.false_eq_true, if_false]
          rw [h2]
          simp only [Bool.false_eq_true, if_false]
          have e : (Lib.index t [46] + 1).toNat = (Lib.index t [46]).toNat + 1 := by omega
          rw [e]
          simp
def labB (s : ByteArray) : List ByteArray := Lib.splitB ⟨#[46]⟩ 0 (Lib.countB s ⟨#[46]⟩) s
theorem labB_data (s : ByteArray) : (labB s).map (·.data.toList) = lab s.data.toList := by
  unfold labB
  rw [Lib.splitB_data]
  exact splitK_lab _ _ (by show s.data.toList.count 46 = Lib.countB s ⟨#[46]⟩; unfold Lib.countB; exact (Lib.count_one 46 s.data.toList).symm)
theorem labB_len (s : ByteArray) : (labB s).length = Lib.countB s ⟨#[46]⟩ + 1 := Lib.splitB_all _ (by decide) 0 _ s rfl
theorem made_strings (w : World) (e : Nat) (xs : List ByteArray) (hm : xs.length ≤ 9223372036854775807) : Kd.R Kd.string e (w.alloc (.cells (xs.map Value.string).toArray e)) w.heap.size (fun _ => True) (.slice (some ⟨w.heap.size, 0, none⟩) xs.length xs.length) xs := by
  refine ⟨fun k hk => trivial, xs.map Value.string, ?_, ?_⟩
  · have h2 := World.ownsRow_lit (base := w.heap.size) (e := e) (size := 1) w (xs.map Value.string).toArray xs.length (Nat.le_refl _) (by simpa [maxLen] using hm) (by simp)
    rw [List.toList_toArray] at h2
    exact h2
  · exact ⟨by simp [Kd.string, Kd.scalar], fun j p hj => by
      show List.take 1 (List.drop (j * 1) (xs.map Value.string)) = [Value.string p]
      have hlt : j < xs.length := by
        rcases Nat.lt_or_ge j xs.length with h | h
        · exact h
        · rw [List.getElem?_eq_none h] at hj; cases hj
      rw [Nat.mul_one, List.drop_eq_getElem_cons (by simpa using hlt)]
      rw [List.getElem?_eq_getElem hlt] at hj
      simp at hj
      simp [hj]⟩
theorem made_below (w : World) (e : Nat) (cs : Array Value) : Below w.heap.size w (w.alloc (.cells cs e)) := below_alloc (Below.refl _ _) _
end Go.Proofs.YtogcoedmagoogaaGreatDoor.Man

