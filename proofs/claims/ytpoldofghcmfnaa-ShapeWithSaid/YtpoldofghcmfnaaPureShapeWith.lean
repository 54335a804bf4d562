/- The law ShapeWith, on lists and numbers: With and Axes tell what the reference tells, for any sizes and ranks. -/
import Derived.Test.YtpoldofghcmfnaaQx1
import Derived.Test.YtpoldofghcmfnaaQx7
import Derived.Test.YtpoldofghcmfnaaS19w
namespace Go.Proofs.Ytpoldofghcmfnaa.Pure
open Go.RowKit Go.Proofs.Ytpoldofghcmfnaa.Q Go.Proofs.YtpoldofghcmfnaaW.PrintWords Go.Proofs.YtpoldofghcmfnaaW.PrintLast Go.Proofs.Ytpoldofghcmfnaa.S

theorem ShapeWith : gradinelaw19_ShapeWith.Pure := by
  intro d a s _ _ _ _ _
  refine Ev.rounds ?_
  by_cases h1 : (d.length : Int) > 100
  · refine Ev.congr (f := fun k => (gradinelaw19_same.f k).bind fun t201 => some t201) (fun k => by rw [gradinelaw19_ShapeWith.f, gradinelaw19_Many.f, if_pos h1, Option.bind_some, if_pos rfl]) ?_
    exact Ev.bind same19 (Ev.now _)
  · refine Ev.congr (fun k => by rw [gradinelaw19_ShapeWith.f, gradinelaw19_Many.f, if_neg h1, Option.bind_some, if_neg (by simp)]) ?_
    refine Ev.bind (withp d a s) ?_
    refine Ev.bind (ref_with d a s) ?_
    refine Ev.bind (axes s [] (by simp)) ?_
    refine Ev.bind (ref_axes s [] (by simp)) ?_
    simp only [if_true]
    refine Ev.bind (ints_eq rfl (by have := withd_fst_le d a s; omega)) ?_
    simp only [if_true]
    exact Ev.bind same19 (Ev.now _)

end Go.Proofs.Ytpoldofghcmfnaa.Pure
