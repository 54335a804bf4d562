-- By wip/gprint.py (this session's), out of the kit's print.py.
import Derived.Test.YtkohdojiockejaaQx0
import Derived.Test.YtkohdojiockejaaQxfRef45Word
namespace Go.Proofs.Ytkohdojiockejaa.Q
open Go.RowKit Go.Proofs.YtkohdojiockejaaW.PrintWords Go.Proofs.YtkohdojiockejaaW.PrintLast Go.Proofs.YtkohdojiockejaaW.PrintMore
attribute [local go_sem] max2_int min2_int max_two min_two max_three min_three max_four min_four   -- for this text's walks alone
set_option linter.unusedVariables false
set_option linter.unusedSimpArgs false

/-! ### gradineref45_Number: function 17 -/
def gradineref45_Number.f (k : Nat) (a0 : Int) : Option (List Int) := if a0 ≥ 0 then ((gradineref45_Word.f k (IntKind.u64.wrap (2 * (IntKind.u64.wrap (a0))))).bind fun za => (some za)) else ((gradineref45_Word.f k (IntKind.u64.wrap ((IntKind.u64.wrap (2 * (IntKind.u64.wrap (wrap64 (-(wrap64 (a0 + 1))))))) + 1))).bind fun zb => (some zb))
set_option maxHeartbeats 8000000 in
set_option maxRecDepth 100000 in
theorem gradineref45_Number.calls (k : Nat) (a0 : Int) (r : List Int) (w : World) (h : gradineref45_Number.f k a0 = some r) :
  Calls Try.prog 17 #[.int .i64 a0] w fun e w' => ∃ v0_ : Value, e = .returned (v0_) ∧ Kd.R (Kd.int .u8) 5 w' w.heap.size (fun _ => True) v0_ r ∧ Below w.heap.size w w' := by
 have HB := aM (Below.refl w.heap.size w)
 have H : (if a0 ≥ 0 then ((gradineref45_Word.f k (IntKind.u64.wrap (2 * (IntKind.u64.wrap (a0))))).bind fun za => (some za)) else ((gradineref45_Word.f k (IntKind.u64.wrap ((IntKind.u64.wrap (2 * (IntKind.u64.wrap (wrap64 (-(wrap64 (a0 + 1))))))) + 1))).bind fun zb => (some zb))) = some r := h
 clear h
 by_cases c2 : a0 ≥ 0
 ·rw [if_pos c2] at H
  have c2b0 : decide (0 ≤ a0) = true := decide_eq_true c2
  clear c2
  replace H := Option.bind_eq_some_iff.mp H
  obtain ⟨za, A30, H⟩ := H
  try dsimp only at H
  have A3 := aM A30
  clear A30
  obtain rfl := Option.some.inj H
  go_enter Try.func17, Try.ntmps17
  go_wp2_with (first | ((with_reducible refine gate_callee (f := 28) rfl ?_); refine goesL_ (some 8) rfl rfl Try.func28 (by kernel_rfl) rfl #[.int .u64 (IntKind.u64.wrap (2 * (IntKind.u64.wrap (a0))))] rfl pA ?_; (with_reducible refine (gradineref45_Word.calls k (IntKind.u64.wrap (2 * (IntKind.u64.wrap (a0)))) za _ A3.out).mono ?_); rintro e w4 ⟨v126, rfl, ho0, hb⟩; refine ⟨_, rfl, ?_⟩; have HO127 := aM (Kd.R_lower ho0 (below_size (qB HB))); replace HB := bS (qB HB) hb; (try clear hb); (try clear hk); (try clear hi); (try clear ho0)))
  go_ret
  exact ⟨_, pE, pR HO127.out, qB HB⟩
 rw [if_neg c2] at H
 have c2b0 : decide (0 ≤ a0) = false := decide_eq_false c2
 clear c2
 replace H := Option.bind_eq_some_iff.mp H
 obtain ⟨zb, A50, H⟩ := H
 try dsimp only at H
 have A5 := aM A50
 clear A50
 obtain rfl := Option.some.inj H
 go_enter Try.func17, Try.ntmps17
 go_wp2_with (first | ((with_reducible refine gate_callee (f := 28) rfl ?_); refine goesL_ (some 15) rfl rfl Try.func28 (by kernel_rfl) rfl #[.int .u64 (IntKind.u64.wrap ((IntKind.u64.wrap (2 * (IntKind.u64.wrap (wrap64 (-(wrap64 (a0 + 1))))))) + 1))] rfl pA ?_; (with_reducible refine (gradineref45_Word.calls k (IntKind.u64.wrap ((IntKind.u64.wrap (2 * (IntKind.u64.wrap (wrap64 (-(wrap64 (a0 + 1))))))) + 1)) zb _ A5.out).mono ?_); rintro e w6 ⟨v129, rfl, ho0, hb⟩; refine ⟨_, rfl, ?_⟩; have HO130 := aM (Kd.R_lower ho0 (below_size (qB HB))); replace HB := bS (qB HB) hb; (try clear hb); (try clear hk); (try clear hi); (try clear ho0)))
 go_ret
 exact ⟨_, pE, pR HO130.out, qB HB⟩

end Go.Proofs.Ytkohdojiockejaa.Q
