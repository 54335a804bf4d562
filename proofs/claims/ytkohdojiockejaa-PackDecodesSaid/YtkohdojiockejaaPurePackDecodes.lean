/- PackDecodes: it returns true (the walk, for whatever arguments). -/
import Derived.Test.YtkohdojiockejaaPackD
import Derived.Test.YtkohdojiockejaaOpen
set_option linter.unusedVariables false
namespace Go.Proofs.Ytkohdojiockejaa.Pure
open Go.RowKit Go.Proofs.YtkohdojiockejaaW.PrintWords Go.Proofs.YtkohdojiockejaaW.PrintLast Go.Proofs.YtkohdojiockejaaW.PrintMore
theorem wf_u8' {x : Int} (h : (Lit.int .u8 x).wf = true) : 0 ≤ x ∧ x < 256 := by
  simp only [Lit.wf, Bool.and_eq_true, decide_eq_true_eq] at h
  have h1 : (0 : Int) ≤ x := h.1
  have h2 : x ≤ 255 := h.2
  omega
theorem PackDecodes_walk (W : World) (A0 : Option Addr) (c0 : Nat) (l0 : List Int) (hr0 : Kd.C (Kd.int .u8) W A0 l0.length l0) (hc0 : l0.length ≤ c0) (ok0 : ∀ x ∈ l0, (Lit.int .u8 x).wf = true) :
    Calls Try.prog 4 #[.slice A0 l0.length c0] W fun e W' => e = .returned (.bool true) ∧ Below W.heap.size W W' := Q.Pk.decodes.calls A0 c0 l0 W hr0 hc0 (fun x hx => wf_u8' (ok0 x hx))
end Go.Proofs.Ytkohdojiockejaa.Pure
