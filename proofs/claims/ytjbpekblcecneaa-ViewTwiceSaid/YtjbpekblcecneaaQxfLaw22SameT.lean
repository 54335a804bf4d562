-- Written by this session's program wip/gprint.py, which drives the kit's print.py and puts the session's own texts in for some functions.
import Derived.Test.YtjbpekblcecneaaQx0
import Derived.Test.YtjbpekblcecneaaQxfLaw22Same0
import Derived.Test.YtjbpekblcecneaaPureSame22
namespace Go.Proofs.Ytjbpekblcecneaa.Q
open Go.RowKit Go.Proofs.YtjbpekblcecneaaW.PrintWords Go.Proofs.YtjbpekblcecneaaW.PrintLast Go.Proofs.YtjbpekblcecneaaW.PrintMore
attribute [local go_sem] max2_int min2_int max_two min_two max_three min_three max_four min_four   -- for this text's walks alone
set_option linter.unusedVariables false
set_option linter.unusedSimpArgs false

/-! ### gradinelaw22_sameT: function 9 (ours) -/
/-- It returns true. -/
def gradinelaw22_same.f : Option Bool := some true
theorem gradinelaw22_same.calls (r : Bool) (w : World) (h : gradinelaw22_same.f = some r) : Calls Try.prog 9 #[] w fun e w' => e = .returned (.bool r) ∧ Below w.heap.size w w' := by
 obtain rfl := Option.some.inj h
 obtain ⟨k, hk⟩ := Pure.Same22
 exact gradinelaw22_same0.calls k w hk

end Go.Proofs.Ytjbpekblcecneaa.Q
