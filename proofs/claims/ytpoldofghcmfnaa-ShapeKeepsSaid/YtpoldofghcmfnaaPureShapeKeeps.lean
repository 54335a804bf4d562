/- The law ShapeKeeps, on lists and numbers: an order of axes keeps the number of elements; the dims that are dropped account for the rest. -/
import Derived.Test.YtpoldofghcmfnaaQx1
import Derived.Test.YtpoldofghcmfnaaQx6
import Derived.Test.YtpoldofghcmfnaaS19
namespace Go.Proofs.Ytpoldofghcmfnaa.Pure
open Go.RowKit Go.Proofs.Ytpoldofghcmfnaa.Q Go.Proofs.YtpoldofghcmfnaaW.PrintWords Go.Proofs.YtpoldofghcmfnaaW.PrintLast Go.Proofs.Ytpoldofghcmfnaa.S

theorem keeps_l (d : List Int) (m : List Bool) (hm : m.length = d.length) (hok : Gr.chk d = 0) : ∀ i, i ≤ d.length → ∀ n : Int, 1 ≤ n → n * Gr.pm (m.drop i) (d.drop i) = Gr.prod d →
    Ev (fun k => gradinelaw19_ShapeKeeps.l0 k d m n (d.length : Int) (i : Int)) true := by
  obtain ⟨h6, h1, h2⟩ := Gr.chk_ok hok
  apply down
  · intro n hn he
    rw [List.drop_length, ← hm, List.drop_length] at he
    simp only [Gr.pm, Int.mul_one] at he
    refine Ev.step (fun k => by rw [gradinelaw19_ShapeKeeps.l0, if_neg (by omega)]) ?_
    refine Ev.bind (count d) ?_
    rw [(Gr.cnt_ok hok).1]
    simp only [if_pos he]
    exact Ev.bind same19 (Ev.now _)
  · intro i hi ih n hn he
    rw [dropc d i hi, List.drop_eq_getElem_cons (show i < m.length by omega)] at he
    simp only [Gr.pm] at he
    have hb := rdb m i (by omega)
    have hp := Gr.pm_pos (m.drop (i + 1)) (d.drop (i + 1)) (fun x hx => h1 x (List.mem_of_mem_drop hx))
    by_cases hmi : m[i] = true
    · rw [if_pos hmi, ← Int.mul_assoc] at he
      have hd1 : 1 ≤ rd d (i : Int) := by rw [rdg d i hi]; exact h1 _ (List.getElem_mem hi)
      have q1 : 1 * 1 ≤ n * rd d (i : Int) := Int.mul_le_mul hn hd1 (by omega) (by omega)
      have q2 : n * rd d (i : Int) * 1 ≤ n * rd d (i : Int) * Gr.pm (m.drop (i + 1)) (d.drop (i + 1)) := Int.mul_le_mul_of_nonneg_left hp (by omega)
      refine Ev.step (fun k => ?_) (ih (n * rd d (i : Int)) (by omega) he)
      rw [gradinelaw19_ShapeKeeps.l0, if_pos (by omega), if_pos (by omega), if_pos (by omega), hb, if_pos hmi, if_pos (by omega), w64 (by omega) (by omega), nx i _ hi (by omega)]
    · rw [if_neg hmi] at he
      refine Ev.step (fun k => ?_) (ih n hn he)
      rw [gradinelaw19_ShapeKeeps.l0, if_pos (by omega), if_pos (by omega), if_pos (by omega), hb, if_neg hmi, nx i _ hi (by omega)]
theorem keeps_err (d _l : List Int) (x y : List Int) (m : List Bool) (e1 e2 e3 : Int) (h : e1 = e2) (h2 : e1 = e3 ∨ Gr.chk d ≠ 0) :
    Ev (fun k => gradinelaw19_ShapeKeeps.j1 k d x e1 y e2 m e3 true) true := by
  refine Ev.step (fun k => by rw [gradinelaw19_ShapeKeeps.j1, if_pos rfl, if_pos h]) ?_
  by_cases e : e1 = e3
  · simp only [if_pos e]
    exact Ev.bind same19 (Ev.now _)
  · have hc : ¬ Gr.chk d = 0 := by rcases h2 with h2 | h2; exact absurd h2 e; exact h2
    simp only [if_neg e]
    refine Ev.congr (fun k => by rw [shape_check, Option.bind_some, if_neg hc]) ?_
    exact Ev.bind same19 (Ev.now _)
theorem keeps_0 (d l : List Int) (hn : l.length ≤ 1000000000) : Ev (fun k => gradinelaw19_ShapeKeeps.j0 k d l false) true := by
  refine Ev.step (fun k => by rw [gradinelaw19_ShapeKeeps.j0, if_neg (by simp)]) ?_
  refine Ev.bind (drop d l false hn) ?_
  refine Ev.bind (drop d l true hn) ?_
  refine Ev.bind (axes d.length l hn) ?_
  by_cases hc : Gr.chk d = 0
  · have e1 : Gr.drop d l false = if (Gr.axs d.length l).2 = 0 then (Gr.drp false (Gr.axs d.length l).1 d, 0) else ([], (Gr.axs d.length l).2) := by unfold Gr.drop; rw [if_pos hc]
    have e2 : Gr.drop d l true = if (Gr.axs d.length l).2 = 0 then (Gr.drp true (Gr.axs d.length l).1 d, 0) else ([], (Gr.axs d.length l).2) := by unfold Gr.drop; rw [if_pos hc]
    by_cases hx : (Gr.axs d.length l).2 = 0
    · rw [if_pos hx] at e1 e2
      have hm := axs_length d l hx
      obtain ⟨k1, k2⟩ := Gr.drp_ok false _ d hm hc
      obtain ⟨k3, k4⟩ := Gr.drp_ok true _ d hm hc
      obtain ⟨t1, t2⟩ := Gr.drp_true _ d hm
      have p1 := Gr.prod_pos _ (Gr.chk_ok k1).2.1
      rw [e1, e2]
      simp only [if_true, hx]
      refine Ev.step (fun k => by rw [gradinelaw19_ShapeKeeps.j1, if_neg (by simp)]) ?_
      refine Ev.bind (count _) ?_
      rw [(Gr.cnt_ok k1).1]
      simp only [hm, t2, if_true]
      refine Ev.bind (count _) ?_
      rw [(Gr.cnt_ok k3).1, t1]
      refine Ev.step (fun k => by rw [gradinelaw19_ShapeKeeps.j2, if_neg (by simp)]) ?_
      exact keeps_l d _ hm hc 0 (by omega) _ p1 (by simpa using k2)
    · rw [if_neg hx] at e1 e2
      rw [e1, e2]
      simp only [if_neg hx]
      exact keeps_err d l _ _ _ _ _ _ rfl (.inl rfl)
  · have e1 : Gr.drop d l false = ([], Gr.chk d) := by unfold Gr.drop; rw [if_neg hc]
    have e2 : Gr.drop d l true = ([], Gr.chk d) := by unfold Gr.drop; rw [if_neg hc]
    rw [e1, e2]
    simp only [if_neg hc]
    exact keeps_err d l _ _ _ _ _ _ rfl (.inr hc)

theorem ShapeKeeps : gradinelaw19_ShapeKeeps.Pure := by
  intro d l _ _ _ _ _ _
  refine Ev.rounds ?_
  by_cases h1 : (d.length : Int) > 100
  · refine Ev.congr (f := fun k => (gradinelaw19_same.f k).bind fun t201 => some t201) (fun k => by rw [gradinelaw19_ShapeKeeps.f, gradinelaw19_Many.f, if_pos h1, Option.bind_some, if_pos rfl]) ?_
    exact Ev.bind same19 (Ev.now _)
  · by_cases h2 : (l.length : Int) > 100
    · refine Ev.congr (f := fun k => (gradinelaw19_same.f k).bind fun t201 => some t201) (fun k => by rw [gradinelaw19_ShapeKeeps.f, gradinelaw19_Many.f, if_neg h1, Option.bind_some, if_pos (decide_eq_true h2)]) ?_
      exact Ev.bind same19 (Ev.now _)
    · have hn : l.length ≤ 1000000000 := by omega
      refine Ev.congr (fun k => by rw [gradinelaw19_ShapeKeeps.f, gradinelaw19_Many.f, if_neg h1, Option.bind_some, if_neg (by simpa using h2)]) ?_
      refine Ev.bind (perm d l hn) ?_
      by_cases he : (Gr.perm d l).2 = 0
      · simp only [if_pos he]
        refine Ev.bind (count _) ?_
        refine Ev.bind (count _) ?_
        have e : Gr.cnt (Gr.perm d l).1 = Gr.cnt d := by
          unfold Gr.perm at he ⊢
          split at he
          · rename_i hc
            rw [if_pos hc]
            split at he
            · rename_i hx
              rw [if_pos hx]
              have hp := Gr.prm_perm hx.2 hx.1
              rw [(Gr.cnt_ok hc).1, (Gr.cnt_ok (Gr.chk_perm hp hc)).1, Gr.prod_perm hp]
            · simp at he
          · rename_i hc; exact absurd he hc
        rw [e]
        simpa using keeps_0 d l hn
      · simp only [if_neg he]
        exact keeps_0 d l hn

end Go.Proofs.Ytpoldofghcmfnaa.Pure
