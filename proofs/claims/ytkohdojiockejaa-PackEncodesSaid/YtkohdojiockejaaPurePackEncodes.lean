/- PackEncodes: it returns true (the walk, for whatever arguments). -/
import Derived.Test.YtkohdojiockejaaPackE
import Derived.Test.YtkohdojiockejaaPackOpens
set_option linter.unusedVariables false
namespace Go.Proofs.Ytkohdojiockejaa.Pure
open Go.RowKit Go.Proofs.YtkohdojiockejaaW.PrintWords Go.Proofs.YtkohdojiockejaaW.PrintLast Go.Proofs.YtkohdojiockejaaW.PrintMore
theorem PackEncodes_walk (W : World) (A0 : Option Addr) (c0 : Nat) (l0 : List Q.S45) (hr0 : Kd.C Q.k45 W A0 l0.length l0) (hc0 : l0.length ≤ c0) (ok0 : ∀ x ∈ l0, Q.ok45 x) :
    Calls Try.prog 3 #[.slice A0 l0.length c0] W fun e W' => e = .returned (.bool true) ∧ Below W.heap.size W W' := Q.Pk.encodes.calls A0 c0 l0 W hr0 hc0 ok0
end Go.Proofs.Ytkohdojiockejaa.Pure
