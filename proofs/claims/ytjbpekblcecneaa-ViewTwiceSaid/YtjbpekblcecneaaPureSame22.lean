-- SAME gradine/gradinelaw22.same
/- The known results that the statements of chapter 22 check come out true. -/
import Derived.Test.YtjbpekblcecneaaQxfLaw22Same0
namespace Go.Proofs.Ytjbpekblcecneaa.Pure
open Go.RowKit Go.Proofs.Ytjbpekblcecneaa.Q Go.Proofs.YtjbpekblcecneaaW.PrintWords Go.Proofs.YtjbpekblcecneaaW.PrintLast

theorem Same22 : ∃ k, gradinelaw22_same0.f k = some true := ⟨20, by decide +kernel⟩

end Go.Proofs.Ytjbpekblcecneaa.Pure
