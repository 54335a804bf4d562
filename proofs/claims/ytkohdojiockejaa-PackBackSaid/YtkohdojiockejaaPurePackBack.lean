/- PackBack: it returns true (the walk, for whatever arguments). -/
import Derived.Test.YtkohdojiockejaaPackB
import Derived.Test.YtkohdojiockejaaPackOpens
set_option linter.unusedVariables false
namespace Go.Proofs.Ytkohdojiockejaa.Pure
open Go.RowKit Go.Proofs.YtkohdojiockejaaW.PrintWords Go.Proofs.YtkohdojiockejaaW.PrintLast Go.Proofs.YtkohdojiockejaaW.PrintMore
theorem wf_u8 {x : Int} (h : (Lit.int .u8 x).wf = true) : 0 ≤ x ∧ x < 256 := by
  simp only [Lit.wf, Bool.and_eq_true, decide_eq_true_eq] at h
  have h1 : (0 : Int) ≤ x := h.1
  have h2 : x ≤ 255 := h.2
  omega
theorem PackBack_walk (W : World) (A0 : Option Addr) (c0 : Nat) (l0 : List Q.S45) (hr0 : Kd.C Q.k45 W A0 l0.length l0) (hc0 : l0.length ≤ c0) (ok0 : ∀ x ∈ l0, Q.ok45 x) (A1 : Option Addr) (c1 : Nat) (l1 : List Int) (hr1 : Kd.C (Kd.int .u8) W A1 l1.length l1) (hc1 : l1.length ≤ c1) (ok1 : ∀ x ∈ l1, (Lit.int .u8 x).wf = true) :
    Calls Try.prog 5 #[.slice A0 l0.length c0, .slice A1 l1.length c1] W fun e W' => e = .returned (.bool true) ∧ Below W.heap.size W W' := Q.Pk.back.calls A0 c0 l0 A1 c1 l1 W hr0 hc0 ok0 hr1 hc1 (fun x hx => wf_u8 (ok1 x hx))
end Go.Proofs.Ytkohdojiockejaa.Pure
