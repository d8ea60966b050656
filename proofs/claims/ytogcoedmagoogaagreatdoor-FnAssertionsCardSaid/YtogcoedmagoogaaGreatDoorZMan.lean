/- Helping lemmas of the law FnAssertions, in so far as it needs them; conditions: each lemma's own. -/
import Derived.Test.YtogcoedmagoogaaGreatDoorZWMore
import Derived.Lib.ConvBytes
namespace Go.Proofs.YtogcoedmagoogaaGreatDoor.Man
open Go.RowKit Go.Proofs.YtogcoedmagoogaaGreatDoorW.PrintWords Go.Proofs.YtogcoedmagoogaaGreatDoorW.PrintLast Go.Proofs.YtogcoedmagoogaaGreatDoorW.PrintMore
set_option linter.unusedVariables false
theorem bytes_C (w : World) (e : TypeId) (s : ByteArray) (hs : s.size < 17592186044416) : Kd.C (Kd.int .u8) (Lib.bytesWorld w e s) (some ⟨w.heap.size, 0, none⟩) (bytesOf s).length (bytesOf s) := by
  refine ⟨rfl, by rw [bytesOf_length]; omega, fun _ => ⟨_, rfl, fun j p hj => ⟨[.int .u8 p], rfl, rfl, fun i u hu => ?_⟩⟩⟩
  have hlt : j < s.size := by
    rcases Nat.lt_or_ge j s.size with h | h
    · exact h
    · rw [List.getElem?_eq_none (by rw [bytesOf_length]; exact h)] at hj; cases hj
  match i, hu with
  | 0, hu =>
    have hc := Lib.bytesWorld_cell w e s j hlt
    have hp : ((s.data.toList.getD j 0).toNat : Int) = p := by
      have h2 : j < s.data.toList.length := by rw [data_length]; exact hlt
      simp only [bytesOf, List.getElem?_map, List.getElem?_eq_getElem h2, Option.map_some, Option.some.injEq] at hj
      rw [List.getD, List.getElem?_eq_getElem h2]; exact hj
    have hu' : Value.int .u8 p = u := by simpa using hu
    rw [← hu', ← hp]
    have ha : (Addr.add ⟨w.heap.size, 0, none⟩ (j * (Kd.int .u8).sz + 0)) = ⟨w.heap.size, j, none⟩ := by
      show Addr.add ⟨w.heap.size, 0, none⟩ (j * 1 + 0) = _
      unfold Addr.add; split <;> simp_all
    rw [ha]; exact hc
theorem bytes_below (w : World) (e : TypeId) (s : ByteArray) : Below w.heap.size w (Lib.bytesWorld w e s) := by
  refine ⟨?_, ?_, ?_, by rw [Lib.bytesWorld_size]; omega, fun k hk => Lib.bytesWorld_at_old w e s k hk⟩ <;> rfl
end Go.Proofs.YtogcoedmagoogaaGreatDoor.Man

