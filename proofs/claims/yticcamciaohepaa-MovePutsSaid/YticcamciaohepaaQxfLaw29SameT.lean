-- By wip/gprint.py (this session's), out of the kit's print.py.
import Derived.Test.YticcamciaohepaaQx0
import Derived.Test.YticcamciaohepaaQxfLaw29Same0
import Derived.Test.YticcamciaohepaaPureSame29
namespace Go.Proofs.Yticcamciaohepaa.Q
open Go.RowKit Go.Proofs.YticcamciaohepaaW.PrintWords Go.Proofs.YticcamciaohepaaW.PrintLast Go.Proofs.YticcamciaohepaaW.PrintMore
attribute [local go_sem] max2_int min2_int max_two min_two max_three min_three max_four min_four   -- for this text's walks alone
set_option linter.unusedVariables false
set_option linter.unusedSimpArgs false

/-! ### gradinelaw29_sameT: function 6 (ours) -/
/-- It returns true. -/
def gradinelaw29_same.f : Option Bool := some true
theorem gradinelaw29_same.calls (r : Bool) (w : World) (h : gradinelaw29_same.f = some r) : Calls Try.prog 6 #[] w fun e w' => e = .returned (.bool r) ∧ Below w.heap.size w w' := by
 obtain rfl := Option.some.inj h
 obtain ⟨k, hk⟩ := Pure.Same29
 exact gradinelaw29_same0.calls k w hk

end Go.Proofs.Yticcamciaohepaa.Q
