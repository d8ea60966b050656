/- Helping lemmas of the law FnExactCheckAssertion, in so far as it needs them; conditions: each lemma's own. -/
import Derived.Test.YtogcoedmagoogaaGreatDoorZWMore
import Derived.ProofKit
import Derived.ChangeSame
import Derived.Deep.Slices
import Derived.OpenShut
import Derived.Lib.SmallJoins
namespace Go.Proofs.YtogcoedmagoogaaGreatDoor.Opn
open Go.RowKit Go.ChangeShapes Go.WideShapes Go.Deep Go.Proofs.YtogcoedmagoogaaGreatDoorW.PrintWords
def Opens {α : Type} (P : Program) (t : TypeId) (d : Kd α) (good : α → Prop) : Prop :=
  ∀ (H : Type) (enc : TypeId × Value → H) (w : World) (fuel : Nat) (cs : List Value) (x : DataW H × List MemPlace),
    DataW.trod enc P w 0 (fun _ => true) true fuel t cs = some x → ∃ a : α, d.K w a cs ∧ good a
section
variable {P : Program} {t : TypeId}
theorem opens_int {k : IntKind} (ht : P.underlying t = some (.int k)) : Opens P t (Kd.int k) (fun n => (Lit.int k n).wf = true) := by
  intro H enc w fuel cs x h
  obtain ⟨n, rfl, _, hw⟩ := DataW.trod_int ht h
  exact ⟨n, rfl, hw⟩
theorem opens_bool (ht : P.underlying t = some .bool) : Opens P t Kd.bool (fun _ => True) := by
  intro H enc w fuel cs x h
  obtain ⟨n, rfl, _⟩ := DataW.trod_bool ht h
  exact ⟨n, rfl, trivial⟩
theorem opens_string (ht : P.underlying t = some .string) : Opens P t Kd.string (fun s => s.size ≤ 9223372036854775807) := by
  intro H enc w fuel cs x h
  obtain ⟨n, rfl, _, hl⟩ := DataW.trod_string ht h
  exact ⟨n, rfl, hl⟩
theorem struct_fields {H : Type} {enc : TypeId × Value → H} {w : World} {fuel : Nat} {cs : List Value} {x : DataW H × List MemPlace} {fs : Array Field} (ht : P.underlying t = some (.struct fs))
    (h : DataW.trod enc P w 0 (fun _ => true) true fuel t cs = some x) : cs.length = P.cellsOf t ∧ ∀ (i : Nat) (f : Field), fs[i]? = some f → ∃ n y, DataW.trod enc P w 0 (fun _ => true) true n f.type ((cs.drop f.offset).take (P.cellsOf f.type)) = some y := by
  obtain ⟨xs, n, _, _, hl, hx, hf⟩ := DataW.trod_struct ht h
  refine ⟨hl, fun i f hi => ?_⟩
  have hi' : i < xs.length := by
    rcases Nat.lt_or_ge i fs.size with h' | h'
    · omega
    · rw [Array.getElem?_eq_none h'] at hi; cases hi
  exact ⟨n, xs[i], by rw [hf i f hi, List.getElem?_eq_getElem hi']⟩
end
theorem int_of {w : World} {k : IntKind} {x : Value} {a : Int} (h : (Kd.int k).K w a [x]) : x = .int k a := (List.cons.inj h).1
theorem bool_of {w : World} {x : Value} {a : Bool} (h : Kd.bool.K w a [x]) : x = .bool a := (List.cons.inj h).1
theorem str_of {w : World} {x : Value} {a : ByteArray} (h : Kd.string.K w a [x]) : x = .string a := (List.cons.inj h).1
theorem cell_int_inj {w : World} {k : IntKind} {a b : Int} (h : (Kd.int k).K w a (Value.int k b).cells.toList) : a = b := by
  have h' : [Value.int k b] = [Value.int k a] := h
  simpa using h'.symm
theorem cell_str_inj {w : World} {a b : ByteArray} (h : Kd.string.K w a (Value.string b).cells.toList) : a = b := by
  have h' : [Value.string b] = [Value.string a] := h
  simpa using h'.symm
theorem arr7 {α : Type} {cs : Array α} (h : cs.size = 7) : ∃ c0 c1 c2 c3 c4 c5 c6, cs = #[c0, c1, c2, c3, c4, c5, c6] := by
  obtain ⟨l⟩ := cs
  match l, h with
  | [c0, c1, c2, c3, c4, c5, c6], _ => exact ⟨c0, c1, c2, c3, c4, c5, c6, rfl⟩
section
variable {H : Type} {enc : TypeId × Value → H} {P : Program} {w : World} {t : TypeId} {v : Value} {d : DataW H} {p : List MemPlace}
theorem param1 {α : Type} {k : Kd α} {good : α → Prop} (ho : Opens P t k good) (h : DataW.Trod enc P w 0 (fun _ => true) true t v d p) : ∃ a : α, k.K w a v.cells.toList ∧ good a := by
  obtain ⟨fuel, hf⟩ := h
  exact ho H enc w fuel _ _ hf
theorem param_struct {r : Reach} {b0 : Nat} {fs : Array Field} (ht : P.underlying t = some (.struct fs)) (hv : Value.okWide P w r b0 t v) (h : DataW.Trod enc P w 0 (fun _ => true) true t v d p) :
    ∃ cs : Array Value, v = .agg cs ∧ cs.size = P.cellsOf t ∧ ∀ (i : Nat) (f : Field), fs[i]? = some f → ∃ n y, DataW.trod enc P w 0 (fun _ => true) true n f.type ((cs.toList.drop f.offset).take (P.cellsOf f.type)) = some y := by
  obtain ⟨cs, rfl, hsz⟩ := okWide_struct ht hv
  obtain ⟨fuel, hf⟩ := h
  obtain ⟨_, g⟩ := struct_fields ht hf
  exact ⟨cs, rfl, hsz, g⟩
theorem field1 {α : Type} {f : Field} {k : Kd α} {good : α → Prop} {cs : List Value} {x : Value} (ho : Opens P f.type k good) (hc : P.cellsOf f.type = 1) (hx : (cs.drop f.offset).head? = some x)
    (hf : ∃ (n : Nat) (y : DataW H × List MemPlace), DataW.trod enc P w 0 (fun _ => true) true n f.type ((cs.drop f.offset).take (P.cellsOf f.type)) = some y) : ∃ a : α, k.K w a [x] ∧ good a := by
  obtain ⟨n, y, h⟩ := hf
  rw [hc] at h
  have e : (cs.drop f.offset).take 1 = [x] := by
    match hd : cs.drop f.offset, hx with
    | v :: l, hx => simp at hx; subst hx; simp
  rw [e] at h
  exact ho H enc w n _ _ h
theorem places_lt (h : DataW.Trod enc P w 0 (fun _ => true) true t v d p) : ∀ x ∈ p, x.block < w.heap.size := by
  obtain ⟨m, hm⟩ := h
  exact DataW.trod_lt m _ _ _ hm
end
end Go.Proofs.YtogcoedmagoogaaGreatDoor.Opn

