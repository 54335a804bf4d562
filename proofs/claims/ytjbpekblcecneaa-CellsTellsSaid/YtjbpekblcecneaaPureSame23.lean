/- The known results that the statements of chapter 23 check come out true. -/
import Derived.Test.YtjbpekblcecneaaQxfLaw23Same0
import Derived.Test.YtjbpekblcecneaaMath
namespace Go.Proofs.Ytjbpekblcecneaa.Pure
open Go.RowKit Go.Proofs.Ytjbpekblcecneaa.Q Go.Proofs.YtjbpekblcecneaaW.PrintWords Go.Proofs.YtjbpekblcecneaaW.PrintLast

theorem Same23 : ∃ k, gradinelaw23_same0.f k = some true := ⟨20, by decide +kernel⟩

end Go.Proofs.Ytjbpekblcecneaa.Pure
