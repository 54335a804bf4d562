-- By wip/gprint.py (this session's), out of the kit's print.py.
import Derived.Test.YthoilhonhjemmaaDoorQx0
import Derived.Test.YthoilhonhjemmaaDoorQxfRef30Word
namespace Go.Proofs.YthoilhonhjemmaaDoor.Q
open Go.RowKit Go.Proofs.YthoilhonhjemmaaDoorW.PrintWords Go.Proofs.YthoilhonhjemmaaDoorW.PrintLast Go.Proofs.YthoilhonhjemmaaDoorW.PrintMore
attribute [local go_sem] max2_int min2_int max_two min_two max_three min_three max_four min_four   -- for this text's walks alone
set_option linter.unusedVariables false
set_option linter.unusedSimpArgs false

/-! ### gradineref30_Find: function 6 -/
def gradineref30_Find.l0 : Nat → ByteArray → Int → Option (Int)
 | 0, _, _ => none
 | k + 1, x0, x3 => if x3 ≤ 40 then ((gradineref30_Word.f k x3).bind fun za => (if za.toList = x0.toList then (some x3) else (gradineref30_Find.l0 k x0 (wrap64 (x3 + 1))))) else (some 0)
def gradineref30_Find.f (k : Nat) (a0 : ByteArray) : Option (Int) := gradineref30_Find.l0 k a0 1
set_option maxHeartbeats 8000000 in
set_option maxRecDepth 100000 in
theorem gradineref30_Find.calls (k : Nat) (a0 : ByteArray) (r : Int) (w : World) (h : gradineref30_Find.f k a0 = some r) :
  Calls Tryd.prog 6 #[.string a0] w fun e w' => e = .returned (.int .i64 r) ∧ Below w.heap.size w w' := by
 have HB := aM (Below.refl w.heap.size w)
 have H : (gradineref30_Find.l0 k a0 1) = some r := h
 clear h
 have H' := aM H
 clear H
 go_enter Tryd.func6, Tryd.ntmps6
 go_wp2
 go_loopg [3] k (fun kq v3 w' => ∃ (x3_1 : Int), v3 = .int .i64 x3_1 ∧ Aside0 (gradineref30_Find.l0 kq a0 x3_1 = some r) ∧ Aside0 (kq ≤ k) ∧ Aside0 (Below w.heap.size w w'))
 case atStart => exact ⟨(1), (pF), H', ⟨Nat.le_refl _⟩, ⟨qB HB⟩⟩
 case round =>
  clear H'
  obtain ⟨x3_1, rfl, HA, HK1, HB⟩ := hrel
  cases gk with
  | zero => exact absurd HA.out (by simp [gradineref30_Find.l0])
  | succ k1 =>
   have H := HA.out
   clear HA
   simp only [gradineref30_Find.l0] at H
   by_cases c2 : x3_1 ≤ 40
   rotate_left
   ·rw [if_neg c2] at H
    have c2b0 : decide (x3_1 ≤ 40) = false := decide_eq_false c2
    clear c2
    obtain rfl := Option.some.inj H
    go_wp2
    go_ret
    exact ⟨pE, qB HB⟩

   rw [if_pos c2] at H
   have c2b0 : decide (x3_1 ≤ 40) = true := decide_eq_true c2
   clear c2
   replace H := Option.bind_eq_some_iff.mp H
   obtain ⟨za, A30, H⟩ := H
   try dsimp only at H
   have A3 := aM A30
   clear A30
   by_cases c4 : za.toList = a0.toList
   ·rw [if_pos c4] at H
    have c4b0 : (za.toList == a0.toList) = true := beq_iff_eq.mpr c4
    have c4b1 : (za.toList != a0.toList) = false := bne_eq_false_iff_eq.mpr c4
    clear c4
    obtain rfl := Option.some.inj H
    go_wp2_with (first | ((with_reducible refine gate_callee (f := 11) rfl ?_); refine goesL_ (some 9) rfl rfl Tryd.func11 (by kernel_rfl) rfl #[.int .i64 x3_1] rfl pA ?_; (with_reducible refine (gradineref30_Word.calls k1 x3_1 za _ A3.out).mono ?_); rintro e w5 ⟨rfl, hb⟩; refine ⟨_, rfl, ?_⟩; replace HB := bS (qB HB) hb; (try clear hb); (try clear hk); (try clear hi)))
    go_ret
    exact ⟨pE, qB HB⟩
   rw [if_neg c4] at H
   have c4b0 : (za.toList == a0.toList) = false := beq_eq_false_iff_ne.mpr c4
   have c4b1 : (za.toList != a0.toList) = true := bne_iff_ne.mpr c4
   have H' := aM H
   clear H
   go_wp2_with (first | ((with_reducible refine gate_callee (f := 11) rfl ?_); refine goesL_ (some 9) rfl rfl Tryd.func11 (by kernel_rfl) rfl #[.int .i64 x3_1] rfl pA ?_; (with_reducible refine (gradineref30_Word.calls k1 x3_1 za _ A3.out).mono ?_); rintro e w6 ⟨rfl, hb⟩; refine ⟨_, rfl, ?_⟩; replace HB := bS (qB HB) hb; (try clear hb); (try clear hk); (try clear hi)))
   go_roundg k1
   case measure => have := HK1.out; omega
   case rel => exact ⟨(wrap64 (x3_1 + 1)), (pF), H', ⟨by have := HK1.out; omega⟩, ⟨qB HB⟩⟩
end Go.Proofs.YthoilhonhjemmaaDoor.Q
