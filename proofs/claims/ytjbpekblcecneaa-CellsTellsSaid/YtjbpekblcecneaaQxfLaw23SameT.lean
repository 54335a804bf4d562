-- By wip/gprint.py (this session's), out of the kit's print.py.
import Derived.Test.YtjbpekblcecneaaQx0
import Derived.Test.YtjbpekblcecneaaQxfLaw23Same0
import Derived.Test.YtjbpekblcecneaaPureSame23
namespace Go.Proofs.Ytjbpekblcecneaa.Q
open Go.RowKit Go.Proofs.YtjbpekblcecneaaW.PrintWords Go.Proofs.YtjbpekblcecneaaW.PrintLast Go.Proofs.YtjbpekblcecneaaW.PrintMore
attribute [local go_sem] max2_int min2_int max_two min_two max_three min_three max_four min_four   -- for this text's walks alone
set_option linter.unusedVariables false
set_option linter.unusedSimpArgs false

/-! ### gradinelaw23_sameT: function 26 (ours) -/
/-- It returns true. -/
def gradinelaw23_same.f : Option Bool := some true
theorem gradinelaw23_same.calls (r : Bool) (w : World) (h : gradinelaw23_same.f = some r) : Calls Try.prog 26 #[] w fun e w' => e = .returned (.bool r) ∧ Below w.heap.size w w' := by
 obtain rfl := Option.some.inj h
 obtain ⟨k, hk⟩ := Pure.Same23
 exact gradinelaw23_same0.calls k w hk

end Go.Proofs.Ytjbpekblcecneaa.Q
