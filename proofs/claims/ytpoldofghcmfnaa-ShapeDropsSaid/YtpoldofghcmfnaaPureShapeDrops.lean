/- The law ShapeDrops, on lists and numbers: Axes, Drop and Perm tell what the reference tells, for all dims and axes. -/
import Derived.Test.YtpoldofghcmfnaaQx1
import Derived.Test.YtpoldofghcmfnaaQx5
import Derived.Test.YtpoldofghcmfnaaS19
namespace Go.Proofs.Ytpoldofghcmfnaa.Pure
open Go.RowKit Go.Proofs.Ytpoldofghcmfnaa.Q Go.Proofs.YtpoldofghcmfnaaW.PrintWords Go.Proofs.YtpoldofghcmfnaaW.PrintLast Go.Proofs.Ytpoldofghcmfnaa.S

theorem ShapeDrops : gradinelaw19_ShapeDrops.Pure := by
  intro d l keep _ _ _ _ _ _
  refine Ev.rounds ?_
  by_cases h1 : (d.length : Int) > 100
  · refine Ev.congr (f := fun k => (gradinelaw19_same.f k).bind fun t201 => some t201) (fun k => by rw [gradinelaw19_ShapeDrops.f, gradinelaw19_Many.f, if_pos h1, Option.bind_some, if_pos rfl]) ?_
    exact Ev.bind same19 (Ev.now _)
  · by_cases h2 : (l.length : Int) > 100
    · refine Ev.congr (f := fun k => (gradinelaw19_same.f k).bind fun t201 => some t201) (fun k => by rw [gradinelaw19_ShapeDrops.f, gradinelaw19_Many.f, if_neg h1, Option.bind_some, if_pos (decide_eq_true h2)]) ?_
      exact Ev.bind same19 (Ev.now _)
    · have hn : l.length ≤ 1000000000 := by omega
      refine Ev.congr (fun k => by rw [gradinelaw19_ShapeDrops.f, gradinelaw19_Many.f, if_neg h1, Option.bind_some, if_neg (by simpa using h2)]) ?_
      refine Ev.bind (axes d.length l hn) ?_
      refine Ev.bind (ref_axes d.length l hn) ?_
      refine Ev.bind (drop d l keep hn) ?_
      refine Ev.bind (ref_drop d l keep hn) ?_
      refine Ev.bind (perm d l hn) ?_
      refine Ev.bind (ref_perm d l hn) ?_
      simp only [if_true]
      refine Ev.bind (bools_eq rfl (by have := axs_fst_le d.length l; omega)) ?_
      simp only [if_true]
      refine Ev.bind (ints_eq rfl (by have := drop_fst_le d l keep; omega)) ?_
      simp only [if_true]
      refine Ev.bind (ints_eq rfl (by have := perm_fst_le d l; omega)) ?_
      simp only [if_true]
      exact Ev.bind same19 (Ev.now _)

end Go.Proofs.Ytpoldofghcmfnaa.Pure
