/- From what a row reads of an argument (DataW.trod) to what the walks ask of it (the kinds of the print's words): by its type, to the bottom. -/
import Derived.Deep.Slices
import Derived.Test.YtkohdojiockejaaWordsMore
namespace Go.Proofs.Ytkohdojiockejaa.O
open Go.RowKit Go.Proofs.YtkohdojiockejaaW.PrintWords
set_option linter.unusedVariables false

/-- Whatever cells of type t can be read are a value of kind d with 'ok'. -/
def Opens {α : Type} (P : Program) (d : Kd α) (t : TypeId) (ok : α → Prop) : Prop :=
  P.cellsOf t = d.sz ∧ ∀ (H : Type) (enc : TypeId × Value → H) (w : World) (fuel : Nat) (cs : List Value) (x : DataW H × List MemPlace),
    DataW.trod enc P w 0 (fun _ => true) true fuel t cs = some x → ∃ a, d.K w a cs ∧ ok a
theorem opens_int {P : Program} {t : TypeId} (k : IntKind) (ht : P.underlying t = some (.int k)) (hc : P.cellsOf t = 1) : Opens P (Kd.int k) t (fun n => (Lit.int k n).wf = true) := by
  refine ⟨hc, fun H enc w fuel cs x h => ?_⟩
  obtain ⟨n, rfl, _, hw⟩ := DataW.trod_int ht h
  exact ⟨n, rfl, hw⟩
theorem opens_bool {P : Program} {t : TypeId} (ht : P.underlying t = some .bool) (hc : P.cellsOf t = 1) : Opens P Kd.bool t (fun _ => True) := by
  refine ⟨hc, fun H enc w fuel cs x h => ?_⟩
  obtain ⟨n, rfl, _⟩ := DataW.trod_bool ht h
  exact ⟨n, rfl, trivial⟩
theorem opens_string {P : Program} {t : TypeId} (ht : P.underlying t = some .string) (hc : P.cellsOf t = 1) : Opens P Kd.string t (fun s => s.size ≤ maxLen) := by
  refine ⟨hc, fun H enc w fuel cs x h => ?_⟩
  obtain ⟨n, rfl, _, hs⟩ := DataW.trod_string ht h
  exact ⟨n, rfl, hs⟩
theorem cells_each {w : World} {a : Addr} {n : Nat} {cs : List Value} (h : w.cells? 0 a n = some cs) : cs.length = n ∧ ∀ i u, cs[i]? = some u → w.cell? (a.add i) = some u := by
  obtain ⟨h1, h2, h3⟩ := World.cells?_some h
  refine ⟨h2, fun i u hu => ?_⟩
  have hi : i < n := by
    have := (List.getElem?_eq_some_iff.1 hu).1
    omega
  rw [h3 i hi, hu]
theorem opens_slice {α : Type} {P : Program} {t e : TypeId} {d : Kd α} {ok : α → Prop} [Inhabited α] (ht : P.underlying t = some (.slice e)) (hc : P.cellsOf t = 1) (h : Opens P d e ok) :
    Opens P (Kd.slice e d) t (fun l => ∀ x ∈ l, ok x) := by
  refine ⟨hc, fun H enc w fuel cs x hx => ?_⟩
  rcases Go.Deep.open_slice ht hx with ⟨rfl, _⟩ | ⟨a, len, cap, m, n, D, Pl, rfl, _, hl, hm, hmm, _, hel⟩
  · exact ⟨[], ⟨none, 0, rfl, Nat.le_refl _, rfl, by simp, fun h0 => absurd h0 (by simp)⟩, by simp⟩
  · simp only [if_true] at hmm
    subst hmm
    have each : ∀ i, i < m → ∃ y : α, ∃ cs', w.cells? 0 (a.add (i * P.cellsOf e)) (P.cellsOf e) = some cs' ∧ d.K w y cs' ∧ ok y := by
      intro i hi
      obtain ⟨cs', h1, h2⟩ := hel i hi
      obtain ⟨y, h3, h4⟩ := h.2 H enc w n cs' _ h2
      exact ⟨y, cs', h1, h3, h4⟩
    obtain ⟨f, hf⟩ := Go.Deep.choose_lt each
    refine ⟨(List.range len).map f, ⟨some a, m, by simp, by simpa using hl, by simp, ?_, fun _ => ⟨a, rfl, fun j p hp => ?_⟩⟩, ?_⟩
    · simp only [List.length_map, List.length_range]
      unfold maxLen at hm
      omega
    · rw [List.getElem?_map] at hp
      have hj : j < len := by
        apply Decidable.byContradiction
        intro hj
        rw [List.getElem?_eq_none (by simpa using hj)] at hp
        simp at hp
      rw [List.getElem?_eq_getElem (by simpa using hj)] at hp
      simp only [List.getElem_range, Option.map_some, Option.some.injEq] at hp
      subst hp
      obtain ⟨cs', h1, h3, _⟩ := hf j (by omega)
      obtain ⟨h5, h6⟩ := cells_each h1
      refine ⟨cs', by rw [h5, h.1], h3, fun i u hu => ?_⟩
      have := h6 i u hu
      rw [Go.Deep.add_add, h.1] at this
      exact this
    · intro y hy
      simp only [List.mem_map, List.mem_range] at hy
      obtain ⟨i, hi, rfl⟩ := hy
      exact (hf i (by omega)).choose_spec.2.2
theorem opens_sliceL {α : Type} {P : Program} {t e : TypeId} {d : Kd α} {ok : α → Prop} [Inhabited α] (ht : P.underlying t = some (.slice e)) (hc : P.cellsOf t = 1) (h : Opens P d e ok) :
    Opens P (Kd.slice e d) t (fun l => l.length ≤ maxLen ∧ ∀ x ∈ l, ok x) := by
  refine ⟨hc, fun H enc w fuel cs x hx => ?_⟩
  rcases Go.Deep.open_slice ht hx with ⟨rfl, _⟩ | ⟨a, len, cap, m, n, D, Pl, rfl, _, hl, hm, hmm, _, hel⟩
  · exact ⟨[], ⟨none, 0, rfl, Nat.le_refl _, rfl, by simp, fun h0 => absurd h0 (by simp)⟩, by simp, by simp⟩
  · simp only [if_true] at hmm
    subst hmm
    have each : ∀ i, i < m → ∃ y : α, ∃ cs', w.cells? 0 (a.add (i * P.cellsOf e)) (P.cellsOf e) = some cs' ∧ d.K w y cs' ∧ ok y := by
      intro i hi
      obtain ⟨cs', h1, h2⟩ := hel i hi
      obtain ⟨y, h3, h4⟩ := h.2 H enc w n cs' _ h2
      exact ⟨y, cs', h1, h3, h4⟩
    obtain ⟨f, hf⟩ := Go.Deep.choose_lt each
    refine ⟨(List.range len).map f, ⟨some a, m, by simp, by simpa using hl, by simp, ?_, fun _ => ⟨a, rfl, fun j p hp => ?_⟩⟩, by simp only [List.length_map, List.length_range]; omega, ?_⟩
    · simp only [List.length_map, List.length_range]
      unfold maxLen at hm
      omega
    · rw [List.getElem?_map] at hp
      have hj : j < len := by
        apply Decidable.byContradiction
        intro hj
        rw [List.getElem?_eq_none (by simpa using hj)] at hp
        simp at hp
      rw [List.getElem?_eq_getElem (by simpa using hj)] at hp
      simp only [List.getElem_range, Option.map_some, Option.some.injEq] at hp
      subst hp
      obtain ⟨cs', h1, h3, _⟩ := hf j (by omega)
      obtain ⟨h5, h6⟩ := cells_each h1
      refine ⟨cs', by rw [h5, h.1], h3, fun i u hu => ?_⟩
      have := h6 i u hu
      rw [Go.Deep.add_add, h.1] at this
      exact this
    · intro y hy
      simp only [List.mem_map, List.mem_range] at hy
      obtain ⟨i, hi, rfl⟩ := hy
      exact (hf i (by omega)).choose_spec.2.2

/-- The fields of a struct, one by one. -/
theorem field {H : Type} {enc : TypeId × Value → H} {P : Program} {w : World} {t : TypeId} {fs : Array Field} {fuel : Nat} {cs : List Value} {x : DataW H × List MemPlace} (ht : P.underlying t = some (.struct fs)) (h : DataW.trod enc P w 0 (fun _ => true) true fuel t cs = some x)
    (j : Nat) (f : Field) (hj : fs[j]? = some f) : ∃ y n, DataW.trod enc P w 0 (fun _ => true) true n f.type ((cs.drop f.offset).take (P.cellsOf f.type)) = some y := by
  obtain ⟨xs, n, _, rfl, hl, hlen, hf⟩ := DataW.trod_struct ht h
  have hjl : j < fs.size := (Array.getElem?_eq_some_iff.1 hj).1
  exact ⟨xs[j]'(by omega), n, by rw [hf j f hj, List.getElem?_eq_getElem (by omega)]⟩
theorem seg {l : List Value} {j : Nat} {v : Value} {vs : List Value} (h : (l.drop j).take 1 = [v]) (h2 : l.drop (j + 1) = vs) : l.drop j = v :: vs := by
  rw [← h2, ← List.drop_drop]
  rcases hd : l.drop j with _ | ⟨a, m⟩
  · rw [hd] at h; simp at h
  · rw [hd] at h; simp at h; simp [h]
theorem seg_end {l : List Value} {n : Nat} (h : l.length = n) : l.drop n = [] := by rw [← h]; exact List.drop_length

end Go.Proofs.Ytkohdojiockejaa.O
