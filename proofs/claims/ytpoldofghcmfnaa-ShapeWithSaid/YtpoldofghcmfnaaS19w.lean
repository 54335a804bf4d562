/- Plain laws of With (shape and its reference). -/
import Derived.Test.YtpoldofghcmfnaaQx6
import Derived.Test.YtpoldofghcmfnaaQx7
import Derived.Test.YtpoldofghcmfnaaS19
namespace Go.Proofs.Ytpoldofghcmfnaa.S
open Go.RowKit Go.Proofs.Ytpoldofghcmfnaa.Q Go.Proofs.YtpoldofghcmfnaaW.PrintWords Go.Proofs.YtpoldofghcmfnaaW.PrintLast
set_option linter.unusedVariables false
set_option linter.unusedSimpArgs false

theorem set_map (d : List Int) (a : Nat) (s : Int) (i : Nat) (hi : i < d.length) : (d.set a s)[i]'(by simpa using hi) = if i = a then s else rd d (i : Int) := by
  rw [List.getElem_set, rdg d i hi]
  by_cases e : a = i
  · rw [if_pos e, if_pos e.symm]
  · rw [if_neg e, if_neg (fun h => e h.symm)]
theorem ref_with_l (d : List Int) (a : Nat) (s : Int) (hn : d.length ≤ 6) (ha : a < d.length) : ∀ i, i ≤ d.length →
    Ev (fun k => gradineref19_With.l0 k d (a : Int) s ((d.set a s).take i) (d.length : Int) (i : Int)) (if Gr.chk (d.set a s) = 0 then (d.set a s, 0) else ([], Gr.chk (d.set a s))) := by
  apply down
  · rw [List.take_of_length_le (by simp)]
    refine Ev.step (fun k => by rw [gradineref19_With.l0, if_neg (by omega)]) (Ev.bind (ref_check _) ?_)
    by_cases h : Gr.chk (d.set a s) = 0
    · simp only [if_pos h]; exact Ev.now _
    · simp only [if_neg h]; exact Ev.now _
  · intro i hi ih
    have e : (d.set a s).take (i + 1) = (d.set a s).take i ++ [if i = a then s else rd d (i : Int)] := by
      rw [List.take_succ_eq_append_getElem (by simpa using hi), set_map d a s i hi]
    rw [e] at ih
    have hl : ((d.set a s).take i).length < 17592186044416 := by rw [List.length_take, List.length_set]; omega
    by_cases h : i = a
    · rw [if_pos h] at ih
      refine Ev.step (fun k => ?_) ih
      rw [gradineref19_With.l0, if_pos (by omega), if_pos (by omega), if_pos hl, nx i _ hi (by omega)]
    · rw [if_neg h] at ih
      refine Ev.step (fun k => ?_) ih
      rw [gradineref19_With.l0, if_pos (by omega), if_neg (by omega), if_pos (by omega), if_pos (by omega), if_pos hl, nx i _ hi (by omega)]
theorem ref_with (d : List Int) (a s : Int) : Ev (fun k => gradineref19_With.f k d a s) (Gr.withd d a s) := by
  unfold Gr.withd
  refine Ev.congr (fun k => by rw [gradineref19_With.f]) (Ev.bind (ref_check d) ?_)
  by_cases h : Gr.chk d = 0
  · have h6 := (Gr.chk_ok h).1
    simp only [if_pos h]
    by_cases h0 : a < 0
    · rw [if_pos (.inl h0)]
      simp only [if_pos h0]
      refine Ev.step (fun k => ?_) (Ev.now _)
      rw [gradineref19_With.j0, if_pos rfl]
    · simp only [if_neg h0]
      by_cases h1 : (d.length : Int) ≤ a
      · rw [if_pos (.inr h1)]
        refine Ev.step (fun k => ?_) (Ev.now _)
        rw [gradineref19_With.j0, if_pos (decide_eq_true h1)]
      · rw [if_neg (by omega)]
        obtain ⟨n, rfl⟩ := Int.eq_ofNat_of_zero_le (show 0 ≤ a by omega)
        rw [Int.toNat_natCast]
        refine Ev.step (fun k => ?_) (ref_with_l d n s h6 (by omega) 0 (by omega))
        rw [gradineref19_With.j0, if_neg (by simp; omega)]; rfl
  · simp only [if_neg h]; exact Ev.now _
theorem withp (d : List Int) (a s : Int) : Ev (fun k => shape_With.f k d a s) (Gr.withd d a s) := by
  unfold Gr.withd
  by_cases h : Gr.chk d = 0
  · have h6 := (Gr.chk_ok h).1
    rw [if_pos h]
    by_cases h0 : a < 0
    · rw [if_pos (.inl h0)]
      refine Ev.congr (fun k => by rw [shape_With.f, shape_check, Option.bind_some, if_pos h, if_pos h0]) ?_
      refine Ev.step (fun k => ?_) (Ev.now _)
      rw [shape_With.j0, if_pos rfl]
    · refine Ev.congr (fun k => by rw [shape_With.f, shape_check, Option.bind_some, if_pos h, if_neg h0]) ?_
      by_cases h1 : (d.length : Int) ≤ a
      · rw [if_pos (.inr h1)]
        refine Ev.step (fun k => ?_) (Ev.now _)
        rw [shape_With.j0, if_pos (decide_eq_true h1)]
      · rw [if_neg (by omega)]
        refine Ev.step (fun k => ?_) (Ev.now _)
        rw [shape_With.j0, if_neg (by simp; omega), slices_Clone_int_int.f, if_pos (by omega), Option.bind_some, if_pos (by omega), if_pos (by omega), Option.bind_some, shape_check, Option.bind_some]
        split <;> rfl
  · rw [if_neg h]
    refine Ev.congr (fun k => ?_) (Ev.now _)
    rw [shape_With.f, shape_check, Option.bind_some, if_neg h]
theorem withd_fst_le (d : List Int) (a s : Int) : (Gr.withd d a s).1.length ≤ 6 := by
  unfold Gr.withd
  split
  · rename_i h
    have h6 := (Gr.chk_ok h).1
    split
    · simp
    · split
      · simpa using h6
      · simp
  · simp

end Go.Proofs.Ytpoldofghcmfnaa.S
