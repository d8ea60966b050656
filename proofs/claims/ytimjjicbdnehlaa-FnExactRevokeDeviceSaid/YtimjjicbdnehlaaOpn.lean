/- What came in, opened by its type: whatever the form reads as data of a type has cells of that type's kind. Conditions: the type's row in the program's table. -/
import Derived.Test.YtimjjicbdnehlaaWMore
import Derived.ProofKit
import Derived.ChangeSame
import Derived.Deep.Slices
import Derived.OpenShut
import Derived.Lib.SmallJoins
namespace Go.Proofs.Ytimjjicbdnehlaa.Opn
open Go.RowKit Go.ChangeShapes Go.WideShapes Go.Deep Go.Proofs.YtimjjicbdnehlaaW.PrintWords

def Opens {α : Type} (P : Program) (t : TypeId) (d : Kd α) (good : α → Prop) : Prop :=
  ∀ (H : Type) (enc : TypeId × Value → H) (w : World) (fuel : Nat) (cs : List Value) (x : DataW H × List MemPlace),
    DataW.trod enc P w 0 (fun _ => true) true fuel t cs = some x → ∃ a : α, d.K w a cs ∧ good a

section
variable {P : Program} {t : TypeId}
theorem opens_int {k : IntKind} (ht : P.underlying t = some (.int k)) : Opens P t (Kd.int k) (fun n => (Lit.int k n).wf = true) := by
  intro H enc w fuel cs x h
  obtain ⟨n, rfl, _, hw⟩ := DataW.trod_int ht h
  exact ⟨n, rfl, hw⟩
theorem opens_bool (ht : P.underlying t = some .bool) : Opens P t Kd.bool (fun _ => True) := by
  intro H enc w fuel cs x h
  obtain ⟨n, rfl, _⟩ := DataW.trod_bool ht h
  exact ⟨n, rfl, trivial⟩
theorem opens_string (ht : P.underlying t = some .string) : Opens P t Kd.string (fun s => s.size ≤ 9223372036854775807) := by
  intro H enc w fuel cs x h
  obtain ⟨n, rfl, _, hl⟩ := DataW.trod_string ht h
  exact ⟨n, rfl, hl⟩
theorem opens_slice {α : Type} [Inhabited α] {e : TypeId} {d : Kd α} {good : α → Prop} (ht : P.underlying t = some (.slice e)) (hsz : P.cellsOf e = d.sz) (he : Opens P e d good) :
    Opens P t (Kd.slice e d) (fun l => l.length ≤ 9223372036854775807 ∧ ∀ x ∈ l, good x) := by
  intro H enc w fuel cs x h
  rcases open_slice ht h with ⟨rfl, _⟩ | ⟨a, len, cap, m, n, D, Pl, rfl, _, hl, hm, hmm, _, hx⟩
  · exact ⟨[], ⟨none, 0, rfl, Nat.le_refl _, Kd.C_nil d w⟩, by simp, by simp⟩
  · have hlm : len ≤ m := by rw [hmm]; simp; exact hl
    obtain ⟨f, hf⟩ := choose_lt (n := len) (p := fun i (a' : α) => ∃ cs', w.cells? 0 (a.add (i * P.cellsOf e)) (P.cellsOf e) = some cs' ∧ d.K w a' cs' ∧ good a') (fun i hi => by
      obtain ⟨cs', h1, h2⟩ := hx i (by omega)
      obtain ⟨a', k1, k2⟩ := he H enc w n cs' _ h2
      exact ⟨a', cs', h1, k1, k2⟩)
    have hlen : len ≤ 9223372036854775807 := by unfold maxLen at hm; omega
    refine ⟨(List.range len).map f, ⟨some a, cap, by simp, by simpa using hl, by simp, by simpa using hlen, fun _ => ⟨a, rfl, fun j p hj => ?_⟩⟩, by simpa using hlen, fun y hy => ?_⟩
    · have hj' : j < len := by
        rcases Nat.lt_or_ge j len with h' | h'
        · exact h'
        · rw [List.getElem?_eq_none (by simpa using h')] at hj; cases hj
      have hp : p = f j := by simpa [hj'] using hj.symm
      subst hp
      obtain ⟨cs', h1, k1, _⟩ := hf j hj'
      obtain ⟨_, hcl, hcell⟩ := World.cells?_some h1
      refine ⟨cs', by rw [hcl, hsz], k1, fun i u hu => ?_⟩
      have hi : i < P.cellsOf e := by
        rcases Nat.lt_or_ge i cs'.length with h' | h'
        · omega
        · rw [List.getElem?_eq_none h'] at hu; cases hu
      rw [← hsz, ← Go.Deep.add_add, hcell i hi, hu]
    · obtain ⟨i, hi, rfl⟩ := List.mem_map.1 hy
      obtain ⟨_, _, _, hg⟩ := hf i (List.mem_range.1 hi)
      exact hg

/-- A struct's fields, each of one cell. -/
theorem struct_fields {H : Type} {enc : TypeId × Value → H} {w : World} {fuel : Nat} {cs : List Value} {x : DataW H × List MemPlace} {fs : Array Field} (ht : P.underlying t = some (.struct fs))
    (h : DataW.trod enc P w 0 (fun _ => true) true fuel t cs = some x) : cs.length = P.cellsOf t ∧ ∀ (i : Nat) (f : Field), fs[i]? = some f → ∃ n y, DataW.trod enc P w 0 (fun _ => true) true n f.type ((cs.drop f.offset).take (P.cellsOf f.type)) = some y := by
  obtain ⟨xs, n, _, _, hl, hx, hf⟩ := DataW.trod_struct ht h
  refine ⟨hl, fun i f hi => ?_⟩
  have hi' : i < xs.length := by
    rcases Nat.lt_or_ge i fs.size with h' | h'
    · omega
    · rw [Array.getElem?_eq_none h'] at hi; cases hi
  exact ⟨n, xs[i], by rw [hf i f hi, List.getElem?_eq_getElem hi']⟩
end

theorem opens_struct2 {P : Program} {t : TypeId} {α0 α1 : Type} {d0 : Kd α0} {d1 : Kd α1} {g0 : α0 → Prop} {g1 : α1 → Prop} {f0 f1 : Field} (ht : P.underlying t = some (.struct #[f0, f1]))
    (ho : (P.cellsOf t, f0.offset, f1.offset, P.cellsOf f0.type, P.cellsOf f1.type) = (2, 0, 1, 1, 1)) (h0 : Opens P f0.type d0 g0) (h1 : Opens P f1.type d1 g1) :
    Opens P t (Kd.pair d0 d1) (fun x => g0 x.1 ∧ g1 x.2) := by
  intro H enc w fuel cs x h
  simp only [Prod.mk.injEq] at ho
  obtain ⟨hc, o0, o1, c0, c1⟩ := ho
  obtain ⟨hl, hf⟩ := struct_fields ht h
  obtain ⟨v0, v1, rfl⟩ : ∃ v0 v1, cs = [v0, v1] := by
    match cs, hl.trans hc with
    | [a, b], _ => exact ⟨a, b, rfl⟩
  obtain ⟨n0, y0, e0⟩ := hf 0 f0 rfl
  obtain ⟨n1, y1, e1⟩ := hf 1 f1 rfl
  rw [o0, c0] at e0
  rw [o1, c1] at e1
  obtain ⟨a0, k0, q0⟩ := h0 H enc w n0 _ _ e0
  obtain ⟨a1, k1, q1⟩ := h1 H enc w n1 _ _ e1
  exact ⟨(a0, a1), ⟨_, _, rfl, k0, k1⟩, q0, q1⟩
theorem opens_struct3 {P : Program} {t : TypeId} {α0 α1 α2 : Type} {d0 : Kd α0} {d1 : Kd α1} {d2 : Kd α2} {g0 : α0 → Prop} {g1 : α1 → Prop} {g2 : α2 → Prop} {f0 f1 f2 : Field} (ht : P.underlying t = some (.struct #[f0, f1, f2]))
    (ho : (P.cellsOf t, f0.offset, f1.offset, f2.offset, P.cellsOf f0.type, P.cellsOf f1.type, P.cellsOf f2.type) = (3, 0, 1, 2, 1, 1, 1)) (h0 : Opens P f0.type d0 g0) (h1 : Opens P f1.type d1 g1) (h2 : Opens P f2.type d2 g2) :
    Opens P t (Kd.pair d0 (Kd.pair d1 d2)) (fun x => g0 x.1 ∧ g1 x.2.1 ∧ g2 x.2.2) := by
  intro H enc w fuel cs x h
  simp only [Prod.mk.injEq] at ho
  obtain ⟨hc, o0, o1, o2, c0, c1, c2⟩ := ho
  obtain ⟨hl, hf⟩ := struct_fields ht h
  obtain ⟨v0, v1, v2, rfl⟩ : ∃ v0 v1 v2, cs = [v0, v1, v2] := by
    match cs, hl.trans hc with
    | [a, b, c], _ => exact ⟨a, b, c, rfl⟩
  obtain ⟨n0, y0, e0⟩ := hf 0 f0 rfl
  obtain ⟨n1, y1, e1⟩ := hf 1 f1 rfl
  obtain ⟨n2, y2, e2⟩ := hf 2 f2 rfl
  rw [o0, c0] at e0
  rw [o1, c1] at e1
  rw [o2, c2] at e2
  obtain ⟨a0, k0, q0⟩ := h0 H enc w n0 _ _ e0
  obtain ⟨a1, k1, q1⟩ := h1 H enc w n1 _ _ e1
  obtain ⟨a2, k2, q2⟩ := h2 H enc w n2 _ _ e2
  exact ⟨(a0, a1, a2), ⟨_, _, rfl, k0, _, _, rfl, k1, k2⟩, q0, q1, q2⟩
theorem opens_struct4 {P : Program} {t : TypeId} {α0 α1 α2 α3 : Type} {d0 : Kd α0} {d1 : Kd α1} {d2 : Kd α2} {d3 : Kd α3} {g0 : α0 → Prop} {g1 : α1 → Prop} {g2 : α2 → Prop} {g3 : α3 → Prop} {f0 f1 f2 f3 : Field} (ht : P.underlying t = some (.struct #[f0, f1, f2, f3]))
    (ho : (P.cellsOf t, f0.offset, f1.offset, f2.offset, f3.offset, P.cellsOf f0.type, P.cellsOf f1.type, P.cellsOf f2.type, P.cellsOf f3.type) = (4, 0, 1, 2, 3, 1, 1, 1, 1)) (h0 : Opens P f0.type d0 g0) (h1 : Opens P f1.type d1 g1) (h2 : Opens P f2.type d2 g2) (h3 : Opens P f3.type d3 g3) :
    Opens P t (Kd.pair d0 (Kd.pair d1 (Kd.pair d2 d3))) (fun x => g0 x.1 ∧ g1 x.2.1 ∧ g2 x.2.2.1 ∧ g3 x.2.2.2) := by
  intro H enc w fuel cs x h
  simp only [Prod.mk.injEq] at ho
  obtain ⟨hc, o0, o1, o2, o3, c0, c1, c2, c3⟩ := ho
  obtain ⟨hl, hf⟩ := struct_fields ht h
  obtain ⟨v0, v1, v2, v3, rfl⟩ : ∃ v0 v1 v2 v3, cs = [v0, v1, v2, v3] := by
    match cs, hl.trans hc with
    | [a, b, c, e], _ => exact ⟨a, b, c, e, rfl⟩
  obtain ⟨n0, y0, e0⟩ := hf 0 f0 rfl
  obtain ⟨n1, y1, e1⟩ := hf 1 f1 rfl
  obtain ⟨n2, y2, e2⟩ := hf 2 f2 rfl
  obtain ⟨n3, y3, e3⟩ := hf 3 f3 rfl
  rw [o0, c0] at e0
  rw [o1, c1] at e1
  rw [o2, c2] at e2
  rw [o3, c3] at e3
  obtain ⟨a0, k0, q0⟩ := h0 H enc w n0 _ _ e0
  obtain ⟨a1, k1, q1⟩ := h1 H enc w n1 _ _ e1
  obtain ⟨a2, k2, q2⟩ := h2 H enc w n2 _ _ e2
  obtain ⟨a3, k3, q3⟩ := h3 H enc w n3 _ _ e3
  exact ⟨(a0, a1, a2, a3), ⟨_, _, rfl, k0, _, _, rfl, k1, _, _, rfl, k2, k3⟩, q0, q1, q2, q3⟩
theorem opens_iso {P : Program} {t : TypeId} {α β : Type} {d : Kd α} {g : α → Prop} {f : β → α} (mk : α → β) (hm : ∀ a, f (mk a) = a) (h : Opens P t d g) : Opens P t (Kd.iso d f) (fun b => g (f b)) := by
  intro H enc w fuel cs x hx
  obtain ⟨a, k, q⟩ := h H enc w fuel cs x hx
  exact ⟨mk a, by show d.K w (f (mk a)) cs; rw [hm]; exact k, by show g (f (mk a)); rw [hm]; exact q⟩

/-! ### one cell's shape -/
theorem int_of {w : World} {k : IntKind} {x : Value} {a : Int} (h : (Kd.int k).K w a [x]) : x = .int k a := (List.cons.inj h).1
theorem bool_of {w : World} {x : Value} {a : Bool} (h : Kd.bool.K w a [x]) : x = .bool a := (List.cons.inj h).1
theorem str_of {w : World} {x : Value} {a : ByteArray} (h : Kd.string.K w a [x]) : x = .string a := (List.cons.inj h).1
theorem slice_of {α : Type} {w : World} {e : Nat} {d : Kd α} {x : Value} {l : List α} (h : (Kd.slice e d).K w l [x]) : ∃ A c, x = .slice A l.length c ∧ l.length ≤ c ∧ d.C w A l.length l := by
  obtain ⟨A, c, he, h1, h2⟩ := h
  exact ⟨A, c, (List.cons.inj he).1, h1, h2⟩
theorem cell_int_inj {w : World} {k : IntKind} {a b : Int} (h : (Kd.int k).K w a (Value.int k b).cells.toList) : a = b := by
  have h' : [Value.int k b] = [Value.int k a] := h
  simpa using h'.symm
theorem cell_bool_inj {w : World} {a b : Bool} (h : Kd.bool.K w a (Value.bool b).cells.toList) : a = b := by
  have h' : [Value.bool b] = [Value.bool a] := h
  simpa using h'.symm
theorem cell_str_inj {w : World} {a b : ByteArray} (h : Kd.string.K w a (Value.string b).cells.toList) : a = b := by
  have h' : [Value.string b] = [Value.string a] := h
  simpa using h'.symm
theorem slice_par {α : Type} {w : World} {e : Nat} {d : Kd α} {A : Option Addr} {len cap : Nat} {l : List α} (h : (Kd.slice e d).K w l (Value.slice A len cap).cells.toList) : len = l.length ∧ l.length ≤ cap ∧ d.C w A l.length l := by
  obtain ⟨A', c', he, h1, h2⟩ := h
  have he' : [Value.slice A len cap] = [Value.slice A' l.length c'] := he
  simp only [List.cons.injEq, Value.slice.injEq, and_true] at he'
  obtain ⟨rfl, hl, rfl⟩ := he'
  exact ⟨hl, h1, h2⟩
theorem arr2 {α : Type} {cs : Array α} (h : cs.size = 2) : ∃ c0 c1, cs = #[c0, c1] := by
  obtain ⟨l⟩ := cs
  match l, h with
  | [c0, c1], _ => exact ⟨c0, c1, rfl⟩
theorem arr3 {α : Type} {cs : Array α} (h : cs.size = 3) : ∃ c0 c1 c2, cs = #[c0, c1, c2] := by
  obtain ⟨l⟩ := cs
  match l, h with
  | [c0, c1, c2], _ => exact ⟨c0, c1, c2, rfl⟩
theorem arr4 {α : Type} {cs : Array α} (h : cs.size = 4) : ∃ c0 c1 c2 c3, cs = #[c0, c1, c2, c3] := by
  obtain ⟨l⟩ := cs
  match l, h with
  | [c0, c1, c2, c3], _ => exact ⟨c0, c1, c2, c3, rfl⟩
theorem arr7 {α : Type} {cs : Array α} (h : cs.size = 7) : ∃ c0 c1 c2 c3 c4 c5 c6, cs = #[c0, c1, c2, c3, c4, c5, c6] := by
  obtain ⟨l⟩ := cs
  match l, h with
  | [c0, c1, c2, c3, c4, c5, c6], _ => exact ⟨c0, c1, c2, c3, c4, c5, c6, rfl⟩

/-! ### parameters -/
section
variable {H : Type} {enc : TypeId × Value → H} {P : Program} {w : World} {t : TypeId} {v : Value} {d : DataW H} {p : List MemPlace}
/-- A parameter of one cell. -/
theorem param1 {α : Type} {k : Kd α} {good : α → Prop} (ho : Opens P t k good) (h : DataW.Trod enc P w 0 (fun _ => true) true t v d p) : ∃ a : α, k.K w a v.cells.toList ∧ good a := by
  obtain ⟨fuel, hf⟩ := h
  exact ho H enc w fuel _ _ hf
/-- A struct by value: its cells. -/
theorem param_struct {r : Reach} {b0 : Nat} {fs : Array Field} (ht : P.underlying t = some (.struct fs)) (hv : Value.okWide P w r b0 t v) (h : DataW.Trod enc P w 0 (fun _ => true) true t v d p) :
    ∃ cs : Array Value, v = .agg cs ∧ cs.size = P.cellsOf t ∧ ∀ (i : Nat) (f : Field), fs[i]? = some f → ∃ n y, DataW.trod enc P w 0 (fun _ => true) true n f.type ((cs.toList.drop f.offset).take (P.cellsOf f.type)) = some y := by
  obtain ⟨cs, rfl, hsz⟩ := okWide_struct ht hv
  obtain ⟨fuel, hf⟩ := h
  obtain ⟨_, g⟩ := struct_fields ht hf
  exact ⟨cs, rfl, hsz, g⟩
/-- A field of one cell. -/
theorem field1 {α : Type} {f : Field} {k : Kd α} {good : α → Prop} {cs : List Value} {x : Value} (ho : Opens P f.type k good) (hc : P.cellsOf f.type = 1) (hx : (cs.drop f.offset).head? = some x)
    (hf : ∃ (n : Nat) (y : DataW H × List MemPlace), DataW.trod enc P w 0 (fun _ => true) true n f.type ((cs.drop f.offset).take (P.cellsOf f.type)) = some y) : ∃ a : α, k.K w a [x] ∧ good a := by
  obtain ⟨n, y, h⟩ := hf
  rw [hc] at h
  have e : (cs.drop f.offset).take 1 = [x] := by
    match hd : cs.drop f.offset, hx with
    | v :: l, hx => simp at hx; subst hx; simp
  rw [e] at h
  exact ho H enc w n _ _ h
/-- Where an argument lies: below the heap's end. -/
theorem places_lt (h : DataW.Trod enc P w 0 (fun _ => true) true t v d p) : ∀ x ∈ p, x.block < w.heap.size := by
  obtain ⟨m, hm⟩ := h
  exact DataW.trod_lt m _ _ _ hm
end
end Go.Proofs.Ytimjjicbdnehlaa.Opn
