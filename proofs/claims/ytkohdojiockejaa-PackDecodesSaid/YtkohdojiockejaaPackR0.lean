/- The reader: a byte. -/
import Derived.Test.YtkohdojiockejaaQxfPlainBytes
import Derived.Test.YtkohdojiockejaaQxfLaw45Many
import Derived.Test.YtkohdojiockejaaQxfRef45Encode
import Derived.Test.YtkohdojiockejaaPackW0
namespace Go.Proofs.Ytkohdojiockejaa.Q
open Go.RowKit Go.Proofs.YtkohdojiockejaaW.PrintWords Go.Proofs.YtkohdojiockejaaW.PrintLast Go.Proofs.YtkohdojiockejaaW.PrintMore
attribute [local go_sem] max2_int min2_int max_two min_two max_three min_three max_four min_four
set_option linter.unusedVariables false
set_option linter.unusedSimpArgs false
namespace Pk
/-- Bytes lie from an address on, in a block of bytes. -/
def By (w : World) (A : Option Addr) (bs : List Int) : Prop := ∀ (j : Nat) (x : Int), bs[j]? = some x → ∃ ad, A = some ad ∧ ad.spot = none ∧ (∃ cs, w.heap[ad.block]? = some (.cells cs 5 (0, 0))) ∧ w.cell? ⟨ad.block, ad.off + j, none⟩ = some (.int .u8 x)
theorem cell_same {w w' : World} {g j : Nat} (h : w'.heap[g]? = w.heap[g]?) : w'.cell? ⟨g, j, none⟩ = w.cell? ⟨g, j, none⟩ := by
  unfold World.cell?
  simp only [h]
theorem By.fr {w w' : World} {A : Option Addr} {bs : List Int} {Q : List Nat} (h : By w A bs) (hf : Fr Q w w') (hq : 5 ∉ Q) : By w' A bs := fun j x hj => by
  obtain ⟨ad, e, hs, ⟨cs, hc⟩, hx⟩ := h j x hj
  exact ⟨ad, e, hs, ⟨cs, hf.blk hc hq⟩, (cell_same (hf.2 _ _ _ hc hq)).trans hx⟩
/-- What a reader has. -/
structure Sr (W w : World) (gs : Nat) (bs : List Int) : Prop where
  ex : ∃ A c, w.heap[gs]? = some (.cells #[.slice A bs.length c] 58 (0, 0)) ∧ bs.length ≤ c ∧ By w A bs
  ge : W.heap.size ≤ gs
  bel : Below W.heap.size W w
  ok : ∀ x ∈ bs, 0 ≤ x ∧ x < 256
theorem Sr.fr {W w w' : World} {gs : Nat} {bs : List Int} {Q : List Nat} (h : Sr W w gs bs) (hf : Fr Q w w') (hq : 5 ∉ Q) (hq' : 58 ∉ Q) (hb : Below W.heap.size W w') : Sr W w' gs bs := by
  obtain ⟨⟨A, c, h1, h2, h3⟩, h4, _, h6⟩ := h
  exact ⟨⟨A, c, hf.blk h1 hq', h2, h3.fr hf hq⟩, h4, hb, h6⟩
theorem Sr.step {W w w' : World} {gs : Nat} {bs : List Int} (h : Sr W w gs bs) (hb : Below w.heap.size w w') : Sr W w' gs bs :=
  h.fr (Q := []) (Fr.of_below hb) (by simp) (by simp) (below_step h.bel hb)
/-- All old blocks but one are as they were. -/
def Fo (g : Nat) (w w' : World) : Prop := w.heap.size ≤ w'.heap.size ∧ ∀ k, k < w.heap.size → k ≠ g → w'.heap[k]? = w.heap[k]?
theorem Fo.refl (g : Nat) (w : World) : Fo g w w := ⟨Nat.le_refl _, fun _ _ _ => rfl⟩
theorem Fo.trans {g : Nat} {w w1 w2 : World} (h : Fo g w w1) (h' : Fo g w1 w2) : Fo g w w2 := ⟨Nat.le_trans h.1 h'.1, fun k hk hg => (h'.2 k (Nat.lt_of_lt_of_le hk h.1) hg).trans (h.2 k hk hg)⟩
theorem Fo.of_below {g : Nat} {w w' : World} (h : Below w.heap.size w w') : Fo g w w' := ⟨h.size, fun k hk _ => h.block k hk⟩
theorem Fo.set {g j : Nat} {w w' : World} {v : Value} (h : Fo g w w') : Fo g w (w'.setCell ⟨g, j, none⟩ v) := ⟨by rw [World.size_setCell]; exact h.1, fun k hk hg => (Below.heap_setCell _ ⟨g, j, none⟩ _ k hg).trans (h.2 k hk hg)⟩
structure Fq (gs : Nat) (w w' : World) : Prop where
  fr : Fr [58] w w'
  fo : Fo gs w w'
theorem Fq.refl (gs : Nat) (w : World) : Fq gs w w := ⟨Fr.refl _ _, Fo.refl _ _⟩
theorem Fq.trans {gs : Nat} {w w1 w2 : World} (h : Fq gs w w1) (h' : Fq gs w1 w2) : Fq gs w w2 := ⟨h.fr.trans h'.fr, h.fo.trans h'.fo⟩
theorem Fq.of_below {gs : Nat} {w w' : World} (h : Below w.heap.size w w') : Fq gs w w' := ⟨Fr.of_below h, Fo.of_below h⟩
/-- It stops with a code. -/
def Stops (k : Int) (W w : World) (e : Ending) (w' : World) : Prop := e = .panicked [{ v := .iface 54 (.agg #[.int .i64 k]), recovered := false }] ∧ Below W.heap.size W w' ∧ Fr [58] w w'
theorem blk1 {w : World} {g t : Nat} {a0 : Value} (h : w.heap[g]? = some (.cells #[a0] t (0, 0))) : w.cell? ⟨g, 0, none⟩ = some a0 ∧ w.frozen? ⟨g, 0, none⟩ = false := ⟨(blk_cell h 0).trans rfl, blk_frozen h 0⟩
@[go_sem] theorem run_panic_ {P : Program} (t : TypeId) (v : Value) (w : World) : (Instr.panic (.iface t v)).run P w = .halt (.panic (.iface t v)) w := rfl
set_option maxHeartbeats 8000000 in
set_option maxRecDepth 100000 in
theorem next_none (gs : Nat) (W w : World) (h : Sr W w gs []) : Calls Try.prog 42 #[.pointer (some ⟨gs, 0, none⟩)] w fun e w' => Stops 2 W w e w' := by
  have hu58 := Try.underlying58
  have hu54 := Try.underlying54
  obtain ⟨⟨A, c, h1, h2, _⟩, h4, h5, h6⟩ := h
  have hc := blk1 h1
  have HB := aM h5
  clear h1 h2 h4 h5 h6
  go_enter Try.func42, Try.ntmps42
  go_wp2
  refine ⟨rfl, ?_⟩
  exact ⟨rfl, pB HB.out, Fr.of_below (by repeat (first | exact Below.refl _ _ | apply below_alloc | apply pw_below_drewN | apply below_drew1))⟩
set_option maxHeartbeats 8000000 in
set_option maxRecDepth 100000 in
theorem next_some (gs : Nat) (x : Int) (bs : List Int) (W w : World) (h : Sr W w gs (x :: bs)) : Calls Try.prog 42 #[.pointer (some ⟨gs, 0, none⟩)] w fun e w' => e = .returned (.int .u8 x) ∧ Sr W w' gs bs ∧ Fq gs w w' := by
  have hu58 := Try.underlying58
  obtain ⟨⟨A, c, h1, h2, h3⟩, h4, h5, h6⟩ := h
  obtain ⟨ad, rfl, hs, ⟨cs, hk⟩, hx⟩ := h3 0 x rfl
  rw [Nat.add_zero] at hx
  have had : (⟨ad.block, ad.off, none⟩ : Addr) = ad := by cases ad; cases hs; rfl
  rw [had] at hx
  have hc := blk1 h1
  rw [List.length_cons] at hc h2
  have HB := aM h5
  have H6 := aM h6
  have H4 := aM h4
  have H3 := aM h3
  have H1 := aM h1
  have H2 := aM h2
  have p1 : (0 : Int) < ((bs.length + 1 : Nat) : Int) := by omega
  have p2 : (0 : Int) < (bs.length : Int) + 1 := by omega
  have d1 : decide (((bs.length + 1 : Nat) : Int) = 0) = false := decide_eq_false (by omega)
  have d2 : decide ((bs.length : Int) + 1 = 0) = false := decide_eq_false (by omega)
  have d3 : ¬ ((bs.length : Int) + 1 = 0) := by omega
  have d4 : (1 : Int) ≤ (bs.length : Int) + 1 := by omega
  clear h1 h2 h3 h4 h5 h6 hk had hs
  have d5 : ((bs.length : Int) + 1 == 0) = false := by simp; omega
  have HF : Aside0 (Fq gs w (w.setCell ⟨gs, 0, none⟩ (.slice (if c = 1 then some ad else some ⟨ad.block, ad.off + 1, none⟩) bs.length (c - 1)))) := ⟨⟨Fr.set (Fr.refl [58] w) H1.out (by simp), Fo.set (Fo.refl gs w)⟩⟩
  have HS : Aside0 (Sr W (w.setCell ⟨gs, 0, none⟩ (.slice (if c = 1 then some ad else some ⟨ad.block, ad.off + 1, none⟩) bs.length (c - 1))) gs bs) := by
    refine ⟨⟨⟨_, _, blk_put H1.out 0 _ rfl, by have := H2.out; omega, ?_⟩, H4.out, below_set HB.out H4.out, fun y hy => H6.out y (List.mem_cons_of_mem _ hy)⟩⟩
    refine By.fr (Q := [58]) (w := w) ?_ HF.out.fr (by simp)
    intro j y hj
    have hl : j < bs.length := by
      by_cases hl : j < bs.length
      · exact hl
      · rw [List.getElem?_eq_none (by omega)] at hj; cases hj
    rw [if_neg (by have := H2.out; omega)]
    obtain ⟨ad', e, hs, hcs, hx'⟩ := H3.out (j + 1) y (by rw [List.getElem?_cons_succ]; exact hj)
    cases e
    exact ⟨_, rfl, rfl, hcs, by rw [show ad.off + 1 + j = ad.off + (j + 1) by omega]; exact hx'⟩
  clear H3 H6 HB H1
  by_cases hc1 : c = 1
  · subst hc1
    rw [if_pos rfl] at HS HF
    go_enter Try.func42, Try.ntmps42
    go_wp2
    go_ret
    exact ⟨rfl, HS.out, HF.out⟩
  · rw [if_neg hc1] at HS HF
    go_enter Try.func42, Try.ntmps42
    go_wp2
    go_ret
    exact ⟨rfl, HS.out, HF.out⟩
end Pk
end Go.Proofs.Ytkohdojiockejaa.Q
