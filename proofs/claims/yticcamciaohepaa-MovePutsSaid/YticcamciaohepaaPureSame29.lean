/- The known results that the statements of chapter 29 check come out true. -/
import Derived.Test.YticcamciaohepaaQxfLaw29Same0
import Derived.Test.YticcamciaohepaaMath
namespace Go.Proofs.Yticcamciaohepaa.Pure
open Go.RowKit Go.Proofs.Yticcamciaohepaa.Q Go.Proofs.YticcamciaohepaaW.PrintWords Go.Proofs.YticcamciaohepaaW.PrintLast

theorem Same29 : ∃ k, gradinelaw29_same0.f k = some true := ⟨30, by decide +kernel⟩

end Go.Proofs.Yticcamciaohepaa.Pure
