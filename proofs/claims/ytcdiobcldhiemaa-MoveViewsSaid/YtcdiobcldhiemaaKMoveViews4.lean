/- Texts of the proof of MoveViews, part 4: what functions of the program compute, and that they compute it. -/
import Derived.Test.YtcdiobcldhiemaaWordsMore
import Derived.Deep.Slices
import Derived.Test.YtcdiobcldhiemaaKMoveViews3
namespace Go.Proofs.Ytcdiobcldhiemaa.S
open Go.RowKit Go.Proofs.Ytcdiobcldhiemaa.Q Go.Proofs.YtcdiobcldhiemaaW.PrintWords Go.Proofs.YtcdiobcldhiemaaW.PrintLast Go.Proofs.YtcdiobcldhiemaaW.PrintMore
set_option linter.unusedVariables false
set_option linter.unusedSimpArgs false
theorem w64 {x : Int} (h0 : -9223372036854775808 ≤ x) (h1 : x ≤ 9223372036854775807) : wrap64 x = x := by
  unfold wrap64; omega
theorem down (P : Nat → Prop) (n : Nat) (h0 : P n) (hs : ∀ i, i < n → P (i + 1) → P i) : ∀ i, i ≤ n → P i := by
  intro i hi
  obtain ⟨d, rfl⟩ : ∃ d, n = i + d := ⟨n - i, by omega⟩
  clear hi
  induction d generalizing i with
  | zero => exact h0
  | succ d ih =>
    apply hs i (by omega)
    exact ih (i + 1) (by rw [show i + 1 + d = i + (d + 1) by omega]; exact h0) (fun j hj hp => hs j (by omega) hp)
theorem rdg (l : List Int) (i : Nat) (h : i < l.length) : rd l (i : Int) = l[i] := by
  simp [rd, List.getD_eq_getElem?_getD, List.getElem?_eq_getElem h]
theorem rdb (l : List Bool) (i : Nat) (h : i < l.length) : rdOf false l (i : Int) = l[i] := by
  simp [rdOf, List.getD_eq_getElem?_getD, List.getElem?_eq_getElem h]
theorem dropc (l : List Int) (i : Nat) (h : i < l.length) : l.drop i = rd l (i : Int) :: l.drop (i + 1) := by
  rw [rdg l i h]; exact (List.drop_eq_getElem_cons h)
theorem nx (i n : Nat) (h : i < n) (hn : n ≤ 1000000000) : wrap64 ((i : Int) + 1) = ((i + 1 : Nat) : Int) := by
  rw [w64 (by omega) (by omega)]; omega
theorem ints_l (a b : List Int) (hl : a.length = b.length) (hn : a.length ≤ 1000000000) : ∀ i, i ≤ a.length →
    Ev (fun k => gradineplain_Ints.l0 k a b (a.length : Int) (i : Int)) (decide (a.drop i = b.drop i)) := by
  apply down
  · refine Ev.step (f := fun _ => some true) (fun k => ?_) ?_
    · rw [gradineplain_Ints.l0, if_neg (by omega)]
    · rw [List.drop_length, hl, List.drop_length]; exact Ev.now true
  · intro i hi ih
    rw [dropc a i hi, dropc b i (by omega)]
    by_cases e : rd a (i : Int) = rd b (i : Int)
    · rw [show decide (rd a (i : Int) :: a.drop (i + 1) = rd b (i : Int) :: b.drop (i + 1)) = decide (a.drop (i + 1) = b.drop (i + 1)) by simp [e]]
      refine Ev.step (fun k => ?_) ih
      rw [gradineplain_Ints.l0, if_pos (by omega), if_pos (by omega), if_pos (by omega), if_pos (by omega), if_pos e, nx i _ hi hn]
    · rw [show decide (rd a (i : Int) :: a.drop (i + 1) = rd b (i : Int) :: b.drop (i + 1)) = false by simp [e]]
      refine Ev.step (fun k => ?_) (Ev.now false)
      rw [gradineplain_Ints.l0, if_pos (by omega), if_pos (by omega), if_pos (by omega), if_pos (by omega), if_neg e]
theorem ints (a b : List Int) (hn : a.length ≤ 1000000000) : Ev (fun k => gradineplain_Ints.f k a b) (decide (a = b)) := by
  by_cases hl : a.length = b.length
  · refine Ev.congr (fun k => ?_) (by have := ints_l a b hl hn 0 (by omega); simpa using this)
    rw [gradineplain_Ints.f, if_pos (by omega)]
  · rw [show decide (a = b) = false from decide_eq_false (fun e => hl (by rw [e]))]
    refine Ev.congr (fun k => ?_) (Ev.now false)
    rw [gradineplain_Ints.f, if_neg (by omega)]
theorem shape_check (d : List Int) : shape_Check.f d = some (Gr.chk d) := rfl
theorem check_1 (d : List Int) (hok : ∀ x ∈ d, 1 ≤ x) (hn : d.length ≤ 6) : ∀ i, i ≤ d.length → Gr.prod (d.take i) ≤ 64 →
    Ev (fun k => gradineref19_Check.l1 k d (Gr.prod (d.take i)) (d.length : Int) (i : Int)) (if 64 < Gr.prod d then 12 else 0) := by
  apply down
  · intro h
    rw [List.take_length] at h ⊢
    rw [if_neg (by omega)]
    refine Ev.step (fun k => ?_) (Ev.now 0)
    rw [gradineref19_Check.l1, if_neg (by omega)]
  · intro i hi ih h
    have hp := Gr.prod_pos (d.take i) (fun x hx => hok x (List.mem_of_mem_take hx))
    have hs := Gr.prod_take_succ d i hi
    have h1 : 1 ≤ d[i] := hok _ (List.getElem_mem hi)
    have hle := Gr.prod_take_le d hok (i + 1)
    have hge : d[i] ≤ Gr.prod (d.take i) * d[i] := by
      have : 1 * d[i] ≤ Gr.prod (d.take i) * d[i] := Int.mul_le_mul_of_nonneg_right hp (by omega)
      omega
    by_cases e : 64 < d[i]
    · rw [if_pos (by omega)]
      refine Ev.step (fun k => ?_) (Ev.now 12)
      rw [gradineref19_Check.l1, if_pos (by omega), if_pos (by omega), if_pos (by omega), rdg d i hi, if_pos (by omega)]
    · have hb : Gr.prod (d.take i) * d[i] ≤ 64 * 64 := Int.mul_le_mul h (by omega) (by omega) (by omega)
      by_cases e2 : 64 < Gr.prod (d.take i) * d[i]
      · rw [if_pos (by omega)]
        refine Ev.step (fun k => ?_) (Ev.now 12)
        rw [gradineref19_Check.l1, if_pos (by omega), if_pos (by omega), if_pos (by omega), rdg d i hi, if_neg (by omega), w64 (by omega) (by omega), if_pos (by omega)]
      · refine Ev.step (fun k => ?_) (ih (by omega))
        rw [gradineref19_Check.l1, if_pos (by omega), if_pos (by omega), if_pos (by omega), rdg d i hi, if_neg (by omega), w64 (by omega) (by omega), if_neg (by omega), nx i _ hi (by omega), ← hs]
theorem check_0 (d : List Int) (hn : d.length ≤ 6) : ∀ i, i ≤ d.length → (∀ x ∈ d.take i, 1 ≤ x) →
    Ev (fun k => gradineref19_Check.l0 k d (d.length : Int) (i : Int)) (Gr.chk d) := by
  apply down
  · intro h
    rw [List.take_length] at h
    have e : Gr.chk d = if 64 < Gr.prod d then 12 else 0 := by
      unfold Gr.chk
      rw [if_neg (by omega), if_neg]
      rw [Bool.not_eq_true, List.any_eq_false]
      intro x hx
      have := h x hx
      simp; omega
    rw [e]
    refine Ev.step (fun k => ?_) (check_1 d h hn 0 (by omega) (by simp [Gr.prod]))
    rw [gradineref19_Check.l0, if_neg (by omega)]; simp [Gr.prod]
  · intro i hi ih h
    by_cases e : d[i] < 1
    · have e8 : Gr.chk d = 8 := by
        unfold Gr.chk
        rw [if_neg (by omega), if_pos]
        rw [List.any_eq_true]
        exact ⟨d[i], List.getElem_mem hi, by simpa using e⟩
      rw [e8]
      refine Ev.step (fun k => ?_) (Ev.now 8)
      rw [gradineref19_Check.l0, if_pos (by omega), if_pos (by omega), if_pos (by omega), rdg d i hi, if_pos (by omega)]
    · refine Ev.step (fun k => ?_) (ih ?_)
      · rw [gradineref19_Check.l0, if_pos (by omega), if_pos (by omega), if_pos (by omega), rdg d i hi, if_neg (by omega), nx i _ hi (by omega)]
      · intro x hx
        rw [List.take_succ_eq_append_getElem hi, List.mem_append] at hx
        rcases hx with hx | hx
        · exact h x hx
        · simp at hx; omega
theorem ref_check (d : List Int) : Ev (fun k => gradineref19_Check.f k d) (Gr.chk d) := by
  by_cases h : 6 < d.length
  · have e : Gr.chk d = 9 := by unfold Gr.chk; rw [if_pos h]
    rw [e]
    refine Ev.congr (fun k => ?_) (Ev.now 9)
    rw [gradineref19_Check.f, if_pos (by omega)]
  · refine Ev.congr (fun k => ?_) (check_0 d (by omega) 0 (by omega) (by simp))
    rw [gradineref19_Check.f, if_neg (by omega)]; rfl
theorem prod_step {d : List Int} (hok : Gr.chk d = 0) (i : Nat) (hi : i < d.length) :
    1 ≤ Gr.prod (d.take i) ∧ Gr.prod (d.take i) * d[i] = Gr.prod (d.take (i + 1)) ∧ Gr.prod (d.take (i + 1)) ≤ 64 ∧ 1 ≤ Gr.prod (d.take (i + 1)) := by
  obtain ⟨h6, h1, h2⟩ := Gr.chk_ok hok
  have := Gr.prod_take_le d h1 (i + 1)
  exact ⟨Gr.prod_pos _ (fun x hx => h1 x (List.mem_of_mem_take hx)), (Gr.prod_take_succ d i hi).symm, by omega, Gr.prod_pos _ (fun x hx => h1 x (List.mem_of_mem_take hx))⟩
theorem count_l (d : List Int) (hok : Gr.chk d = 0) : ∀ i, i ≤ d.length →
    Ev (fun k => shape_Count.l0 k (Gr.prod (d.take i)) d (d.length : Int) (i : Int)) (Gr.prod d) := by
  obtain ⟨h6, h1, h2⟩ := Gr.chk_ok hok
  apply down
  · rw [List.take_length]
    refine Ev.step (fun k => ?_) (Ev.now _)
    rw [shape_Count.l0, if_neg (by omega)]
  · intro i hi ih
    obtain ⟨p1, p2, p3, p4⟩ := prod_step hok i hi
    refine Ev.step (fun k => ?_) ih
    rw [shape_Count.l0, if_pos (by omega), if_pos (by omega), if_pos (by omega), rdg d i hi, w64 (by omega) (by omega), nx i _ hi (by omega), p2]
theorem shape_count (d : List Int) : Ev (fun k => shape_Count.f k d) (Gr.cnt d) := by
  unfold Gr.cnt
  by_cases h : Gr.chk d = 0
  · rw [if_pos h]
    refine Ev.congr (fun k => ?_) (count_l d h 0 (by omega))
    rw [shape_Count.f, shape_check, Option.bind_some, if_pos h]; simp [Gr.prod]
  · rw [if_neg h]
    refine Ev.congr (fun k => ?_) (Ev.now 0)
    rw [shape_Count.f, shape_check, Option.bind_some, if_neg h]
theorem steps_set (d x : List Int) (i : Nat) (hi : i < d.length) (hl : x.length = d.length) (hx : x.drop (i + 1) = Gr.stp (d.drop (i + 1))) :
    (x.set i (Gr.prod (d.drop (i + 1)))).drop i = Gr.stp (d.drop i) := by
  rw [List.drop_eq_getElem_cons (by simp; omega), List.drop_eq_getElem_cons hi]
  simp only [List.getElem_set_self, Gr.stp, List.cons.injEq, true_and]
  rw [List.drop_set_of_lt (by omega)]
  exact hx
theorem steps_l (d : List Int) (hok : Gr.chk d = 0) : ∀ i, i ≤ d.length → ∀ x : List Int, x.length = d.length → x.drop i = Gr.stp (d.drop i) →
    Ev (fun k => shape_Steps.l0 k d x (Gr.prod (d.drop i)) ((i : Int) - 1)) (Gr.stp d) := by
  obtain ⟨h6, h1, h2⟩ := Gr.chk_ok hok
  intro i
  induction i with
  | zero =>
    intro hi x hl hx
    simp at hx
    subst hx
    refine Ev.step (fun k => ?_) (Ev.now _)
    rw [shape_Steps.l0, if_neg (by omega)]
  | succ i ih =>
    intro hi x hl hx
    have hlt : i < d.length := by omega
    have hd : d.drop i = d[i] :: d.drop (i + 1) := List.drop_eq_getElem_cons hlt
    obtain ⟨q6, q1, q2⟩ := Gr.chk_ok (Gr.ok_drop hok i)
    have q3 := Gr.prod_pos _ q1
    have hp : Gr.prod (d.drop i) = Gr.prod (d.drop (i + 1)) * d[i] := by rw [hd]; simp only [Gr.prod]; rw [Int.mul_comm]
    refine Ev.step (fun k => ?_) (ih (by omega) (x.set i (Gr.prod (d.drop (i + 1)))) (by simp [hl]) (steps_set d x i hlt hl hx))
    rw [shape_Steps.l0, show (((i + 1 : Nat) : Int) - 1) = (i : Int) by omega, if_pos (by omega), if_pos (by omega), if_pos (by omega), if_pos (by omega), rdg d i hlt, ← hp, w64 (by omega) (by omega), w64 (by omega) (by omega), Int.toNat_natCast]
theorem shape_steps (d : List Int) : Ev (fun k => shape_Steps.f k d) (Gr.steps d) := by
  unfold Gr.steps
  by_cases h : Gr.chk d = 0
  · rw [if_pos h]
    obtain ⟨h6, h1, h2⟩ := Gr.chk_ok h
    refine Ev.congr (fun k => ?_) (steps_l d h d.length (by omega) (List.replicate d.length 0) (by simp) (by simp [Gr.stp]))
    rw [shape_Steps.f, shape_check, Option.bind_some, if_pos h, if_pos (by omega), if_pos (by simp; omega), w64 (by omega) (by omega)]
    simp [Gr.prod]
  · rw [if_neg h]
    refine Ev.congr (fun k => ?_) (Ev.now _)
    rw [shape_Steps.f, shape_check, Option.bind_some, if_neg h]
theorem has_l (l : List Int) (x : Int) (hn : l.length ≤ 1000000000) : ∀ i, i ≤ l.length →
    Ev (fun k => gradineref19_Has.l0 k l x (l.length : Int) (i : Int)) ((l.drop i).contains x) := by
  apply down
  · rw [List.drop_length]
    refine Ev.step (fun k => ?_) (Ev.now _)
    rw [gradineref19_Has.l0, if_neg (by omega)]; rfl
  · intro i hi ih
    rw [dropc l i hi, List.contains_cons]
    by_cases e : rd l (i : Int) = x
    · rw [show (x == rd l (i : Int)) = true by simp [e], Bool.true_or]
      refine Ev.step (fun k => ?_) (Ev.now true)
      rw [gradineref19_Has.l0, if_pos (by omega), if_pos (by omega), if_pos (by omega), if_pos e]
    · rw [show (x == rd l (i : Int)) = false by simp; exact fun h => e h.symm, Bool.false_or]
      refine Ev.step (fun k => ?_) ih
      rw [gradineref19_Has.l0, if_pos (by omega), if_pos (by omega), if_pos (by omega), if_neg e, nx i _ hi hn]
theorem has (l : List Int) (x : Int) (hn : l.length ≤ 1000000000) : Ev (fun k => gradineref19_Has.f k l x) (l.contains x) := by
  exact has_l l x hn 0 (by omega)
theorem contains_snoc (s : List Int) (a x : Int) : (s ++ [a]).contains x = (s.contains x || x == a) := by
  simp [List.contains_eq_mem, List.mem_append, Bool.decide_or]
  rfl
theorem marks_set (r : Nat) (s : List Int) (a : Int) (h0 : 0 ≤ a) (h1 : a < r) : (Gr.marks r s).set a.toNat true = Gr.marks r (s ++ [a]) := by
  apply List.ext_getElem (by simp [Gr.marks])
  intro j hj hj2
  simp only [Gr.marks, List.getElem_set, List.getElem_map, List.getElem_range, contains_snoc]
  by_cases e : a.toNat = j
  · rw [if_pos e, show ((j : Int) == a) = true by simp; omega, Bool.or_true]
  · rw [if_neg e, show ((j : Int) == a) = false by simp; omega, Bool.or_false]
theorem marks_at (r : Nat) (s : List Int) (a : Int) (h0 : 0 ≤ a) (h1 : a < r) : rdOf false (Gr.marks r s) a = s.contains a := by
  obtain ⟨n, rfl⟩ := Int.eq_ofNat_of_zero_le h0
  rw [rdb _ n (by simp [Gr.marks]; omega)]
  simp [Gr.marks]
theorem marks_length (r : Nat) (s : List Int) : (Gr.marks r s).length = r := by simp [Gr.marks]
theorem mks_of_ne (r : Nat) (l : List Int) (h : l ≠ []) : Gr.mks r l = Gr.marks r l := by
  unfold Gr.mks Gr.marks
  rw [show l.isEmpty = false by cases l <;> simp_all]
  simp
theorem axes_1 (r : Nat) (hr : r ≤ 6) (x : List Bool) (hx : x.length = r) : ∀ i, i ≤ r → (x.take i = List.replicate i true) →
    Ev (fun k => shape_Axes.l1 k x (r : Int) (i : Int)) (List.replicate r true, 0) := by
  intro i hi
  obtain ⟨d, hd⟩ : ∃ d, r = i + d := ⟨r - i, by omega⟩
  induction d generalizing i x with
  | zero =>
    intro h
    have : i = x.length := by omega
    subst this
    rw [List.take_length] at h
    refine Ev.step (fun k => ?_) (Ev.now _)
    rw [shape_Axes.l1, if_neg (by omega), h, hx]
  | succ d ih =>
    intro h
    refine Ev.step (fun k => ?_) (ih (x.set i true) (by simp [hx]) (i + 1) (by omega) (by omega) ?_)
    · rw [shape_Axes.l1, if_pos (by omega), if_pos (by omega), if_pos (by omega), Int.toNat_natCast, nx i r (by omega) (by omega)]
    · rw [List.take_succ_eq_append_getElem (by simp; omega), List.take_set_of_le (by omega), h, List.getElem_set_self, List.replicate_succ']
theorem axes_0 (r : Nat) (hr : r ≤ 6) (l : List Int) (hn : l.length ≤ 1000000000) : ∀ i, i ≤ l.length →
    Ev (fun k => shape_Axes.l0 k (r : Int) l (Gr.marks r (l.take i)) l (l.length : Int) (i : Int)) (if Gr.axv r (l.take i) (l.drop i) = true then (Gr.mks r l, 0) else ([], 10)) := by
  apply down
  · rw [List.take_length, List.drop_length]
    rw [if_pos (by rfl)]
    by_cases e : l = []
    · subst e
      have := axes_1 r hr (Gr.marks r []) (marks_length _ _) 0 (by omega) (by simp)
      rw [show Gr.mks r [] = List.replicate r true by
        unfold Gr.mks
        apply List.ext_getElem (by simp)
        intro j _ _; simp]
      refine Ev.step (fun k => ?_) this
      rw [shape_Axes.l0, if_neg (by simp), if_pos (by simp), marks_length]; rfl
    · rw [mks_of_ne r l e]
      have h0 : ¬ ((l.length : Int) = 0) := by
        intro h; apply e; apply List.eq_nil_of_length_eq_zero; omega
      refine Ev.step (fun k => ?_) (Ev.now _)
      rw [shape_Axes.l0, if_neg (by omega), if_neg h0]
  · intro i hi ih
    rw [dropc l i hi, Gr.axv]
    by_cases h1 : rd l (i : Int) < 0
    · rw [if_neg (by simp; omega)]
      refine Ev.step (fun k => ?_) (Ev.now _)
      rw [shape_Axes.l0, if_pos (by omega), if_pos (by omega), if_pos (by omega), if_pos h1]
    · by_cases h2 : (r : Int) ≤ rd l (i : Int)
      · rw [if_neg (by simp; omega)]
        refine Ev.step (fun k => ?_) (Ev.now _)
        rw [shape_Axes.l0, if_pos (by omega), if_pos (by omega), if_pos (by omega), if_neg h1, if_pos h2]
      · have ha := marks_at r (l.take i) (rd l (i : Int)) (by omega) (by omega)
        by_cases h3 : (l.take i).contains (rd l (i : Int)) = true
        · rw [h3, if_neg (by simp)]
          refine Ev.step (fun k => ?_) (Ev.now _)
          rw [shape_Axes.l0, if_pos (by omega), if_pos (by omega), if_pos (by omega), if_neg h1, if_neg h2, if_pos (by omega), if_pos (by rw [marks_length]; omega), ha, if_pos h3]
        · have e : l.take (i + 1) = l.take i ++ [rd l (i : Int)] := by rw [List.take_succ_eq_append_getElem hi, rdg l i hi]
          rw [e] at ih
          rw [show (decide (0 ≤ rd l (i : Int)) && decide (rd l (i : Int) < (r : Int)) && !((l.take i).contains (rd l (i : Int)))) = true by simp [h3]; simp at h3; exact ⟨by omega, h3⟩, Bool.true_and]
          refine Ev.step (fun k => ?_) ih
          rw [shape_Axes.l0, if_pos (by omega), if_pos (by omega), if_pos (by omega), if_neg h1, if_neg h2, if_pos (by omega), if_pos (by rw [marks_length]; omega), ha, if_neg h3, marks_set r _ _ (by omega) (by omega), nx i _ hi hn]
theorem shape_axes (r : Int) (l : List Int) (hn : l.length ≤ 1000000000) : Ev (fun k => shape_Axes.f k r l) (Gr.axs r l) := by
  unfold Gr.axs
  by_cases h0 : r < 0
  · rw [if_pos (.inl h0)]
    refine Ev.congr (f := fun k => shape_Axes.j0 k r l true) (fun k => by rw [shape_Axes.f, if_pos h0]) ?_
    refine Ev.step (fun k => ?_) (Ev.now _)
    rw [shape_Axes.j0, if_pos rfl]
  · refine Ev.congr (f := fun k => shape_Axes.j0 k r l (decide (r > 6))) (fun k => by rw [shape_Axes.f, if_neg h0]) ?_
    by_cases h6 : 6 < r
    · rw [if_pos (.inr h6)]
      refine Ev.step (fun k => ?_) (Ev.now _)
      rw [shape_Axes.j0, if_pos (by simpa using h6)]
    · rw [if_neg (by omega)]
      obtain ⟨n, rfl⟩ := Int.eq_ofNat_of_zero_le (show 0 ≤ r by omega)
      have := axes_0 n (by omega) l hn 0 (by omega)
      rw [List.take_zero, List.drop_zero] at this
      refine Ev.step (fun k => ?_) this
      rw [shape_Axes.j0, if_neg (by simp; omega), if_pos (by omega), if_pos (by simp; omega), Int.toNat_natCast]
      rw [show Gr.marks n [] = List.replicate n false by
        unfold Gr.marks
        apply List.ext_getElem (by simp)
        intro j _ _; simp]
      rfl
theorem axv_all (r : Int) (s l : List Int) (h : Gr.axv r s l = true) : ∀ a ∈ l, 0 ≤ a ∧ a < r := by
  induction l generalizing s with
  | nil => simp
  | cons x l ih =>
    simp only [Gr.axv, Bool.and_eq_true, decide_eq_true_eq] at h
    intro a ha
    rcases List.mem_cons.1 ha with rfl | ha
    · exact ⟨h.1.1.1, h.1.1.2⟩
    · exact ih _ h.2 a ha
theorem axs_all (d l : List Int) (h : (Gr.axs d.length l).2 = 0) : ∀ a ∈ l, 0 ≤ a ∧ a < (d.length : Int) := by
  unfold Gr.axs at h
  split at h
  · simp at h
  · split at h
    · rename_i h2; exact axv_all _ _ _ h2
    · simp at h
theorem axs_err (d l : List Int) (hd : d.length ≤ 6) (h : ¬ (Gr.axs d.length l).2 = 0) : Gr.axs d.length l = ([], 10) := by
  unfold Gr.axs at h ⊢
  rw [if_neg (by omega)] at h ⊢
  split
  · rename_i h2; rw [if_pos h2] at h; simp at h
  · rfl
theorem at0_rd (d : List Int) (a : Int) : Gr.at0 d a = rd d a := rfl
theorem perm_l (d l : List Int) (hall : ∀ a ∈ l, 0 ≤ a ∧ a < (d.length : Int)) (hn : l.length ≤ 6) : ∀ i, i ≤ l.length → ∀ o : List Int, o.length ≤ i →
    Ev (fun k => shape_Perm.l0 k d o l (l.length : Int) (i : Int)) (o ++ Gr.prm d (l.drop i), 0) := by
  apply down
  · intro o ho
    rw [List.drop_length]
    simp only [Gr.prm, List.map_nil, List.append_nil]
    refine Ev.step (fun k => ?_) (Ev.now _)
    rw [shape_Perm.l0, if_neg (by omega)]
  · intro i hi ih o ho
    have ha := hall (rd l (i : Int)) (by rw [rdg l i hi]; exact List.getElem_mem hi)
    rw [dropc l i hi]
    have := ih (o ++ [rd d (rd l (i : Int))]) (by simp; omega)
    rw [List.append_assoc, List.singleton_append] at this
    refine Ev.step (fun k => ?_) this
    rw [shape_Perm.l0, if_pos (by omega), if_pos (by omega), if_pos (by omega), if_pos (by omega), if_pos (by omega), if_pos (by omega), nx i _ hi (by omega)]
theorem shape_perm (d l : List Int) (hn : l.length ≤ 1000000000) : Ev (fun k => shape_Perm.f k d l) (Gr.perm d l) := by
  unfold Gr.perm
  by_cases h : Gr.chk d = 0
  · rw [if_pos h]
    have h6 := (Gr.chk_ok h).1
    by_cases hl : l.length = d.length
    · refine Ev.congr (f := fun k => (shape_Axes.f k (d.length : Int) l).bind fun bt179 => if bt179.2 = 0 then shape_Perm.l0 k d ([] : List Int) l (l.length : Int) 0 else some (([] : List Int), bt179.2)) (fun k => by rw [shape_Perm.f, shape_check, Option.bind_some, if_pos h, if_pos (by omega)]) ?_
      refine Ev.bind (shape_axes d.length l hn) ?_
      by_cases h2 : (Gr.axs d.length l).2 = 0
      · simp only [if_pos h2]
        rw [if_pos ⟨hl, h2⟩]
        have := perm_l d l (axs_all d l h2) (by omega) 0 (by omega) [] (by simp)
        rw [List.drop_zero, List.nil_append] at this
        exact this
      · simp only [if_neg h2]
        rw [if_neg (fun hh => h2 hh.2), axs_err d l h6 h2]
        exact Ev.now _
    · rw [if_neg (fun hh => hl hh.1)]
      refine Ev.congr (fun k => ?_) (Ev.now _)
      rw [shape_Perm.f, shape_check, Option.bind_some, if_pos h, if_neg (by omega)]
  · rw [if_neg h]
    refine Ev.congr (fun k => ?_) (Ev.now _)
    rw [shape_Perm.f, shape_check, Option.bind_some, if_neg h]
theorem withp (d : List Int) (a s : Int) : Ev (fun k => shape_With.f k d a s) (Gr.withd d a s) := by
  unfold Gr.withd
  by_cases h : Gr.chk d = 0
  · have h6 := (Gr.chk_ok h).1
    rw [if_pos h]
    by_cases h0 : a < 0
    · rw [if_pos (.inl h0)]
      refine Ev.congr (fun k => by rw [shape_With.f, shape_check, Option.bind_some, if_pos h, if_pos h0]) ?_
      refine Ev.step (fun k => ?_) (Ev.now _)
      rw [shape_With.j0, if_pos rfl]
    · refine Ev.congr (fun k => by rw [shape_With.f, shape_check, Option.bind_some, if_pos h, if_neg h0]) ?_
      by_cases h1 : (d.length : Int) ≤ a
      · rw [if_pos (.inr h1)]
        refine Ev.step (fun k => ?_) (Ev.now _)
        rw [shape_With.j0, if_pos (decide_eq_true h1)]
      · rw [if_neg (by omega)]
        refine Ev.step (fun k => ?_) (Ev.now _)
        rw [shape_With.j0, if_neg (by simp; omega), slices_Clone_int_int.f, if_pos (by omega), Option.bind_some, if_pos (by omega), if_pos (by omega), Option.bind_some, shape_check, Option.bind_some]
        split <;> rfl
  · rw [if_neg h]
    refine Ev.congr (fun k => ?_) (Ev.now _)
    rw [shape_With.f, shape_check, Option.bind_some, if_neg h]
theorem ref_count_l (d : List Int) (hok : Gr.chk d = 0) : ∀ i, i ≤ d.length → Ev (fun k => gradineref19_Count.l0 k d (Gr.prod (d.take i)) (d.length : Int) (i : Int)) (Gr.prod d) := by
  obtain ⟨h6, h1, h2⟩ := Gr.chk_ok hok
  apply down
  · rw [List.take_length]
    refine Ev.step (fun k => ?_) (Ev.now _)
    rw [gradineref19_Count.l0, if_neg (by omega)]
  · intro i hi ih
    have hs := Gr.prod_take_succ d i hi
    have hle := Gr.prod_take_le d h1 (i + 1)
    have hp := Gr.prod_pos (d.take (i + 1)) (fun x hx => h1 x (List.mem_of_mem_take hx))
    rw [hs] at ih hle hp
    refine Ev.step (fun k => ?_) ih
    rw [gradineref19_Count.l0, if_pos (by omega), if_pos (by omega), if_pos (by omega), rdg d i hi, w64 (by omega) (by omega), nx i _ hi (by omega)]
theorem ref_count (d : List Int) : Ev (fun k => gradineref19_Count.f k d) (Gr.cnt d) := by
  refine Ev.congr (fun k => by rw [gradineref19_Count.f]) (Ev.bind (ref_check d) ?_)
  unfold Gr.cnt
  by_cases h : Gr.chk d = 0
  · simp only [if_pos h]
    have := ref_count_l d h 0 (by omega)
    exact this
  · simp only [if_neg h]; exact Ev.now _
theorem rdl (l : List (List Int)) (i : Nat) (h : i < l.length) : rd_L1 l (i : Int) = l[i] := by
  simp [rd_L1, List.getD_eq_getElem?_getD, List.getElem?_eq_getElem h]
theorem at_set (d x : List Int) (m : Int) (i : Nat) (hi : i < d.length) (hl : x.length = d.length) (hx : x.drop (i + 1) = Gr.dig (d.drop (i + 1)) m) :
    (x.set i (m / Gr.prod (d.drop (i + 1)) % rd d (i : Int))).drop i = Gr.dig (d.drop i) m := by
  rw [List.drop_eq_getElem_cons (by simp; omega), dropc d i hi]
  simp only [List.getElem_set_self, Gr.dig, List.cons.injEq, true_and]
  rw [List.drop_set_of_lt (by omega)]
  exact hx
theorem at_l (d : List Int) (hok : Gr.chk d = 0) (m : Int) (hm : 0 ≤ m) (hm2 : m ≤ 64) : ∀ i, i ≤ d.length → ∀ x : List Int, x.length = d.length → x.drop i = Gr.dig (d.drop i) m →
    Ev (fun k => walk_At.l0 k d (m / Gr.prod (d.drop i)) x ((i : Int) - 1)) (Gr.dig d m, true) := by
  obtain ⟨h6, h1, h2⟩ := Gr.chk_ok hok
  intro i
  induction i with
  | zero =>
    intro hi x hl hx
    simp at hx
    subst hx
    refine Ev.step (fun k => ?_) (Ev.now _)
    rw [walk_At.l0, if_neg (by omega)]
  | succ i ih =>
    intro hi x hl hx
    have hlt : i < d.length := by omega
    have hd : d.drop i = d[i] :: d.drop (i + 1) := List.drop_eq_getElem_cons hlt
    have hge : 1 ≤ d[i] := h1 _ (List.getElem_mem hlt)
    have hle : d[i] ≤ 64 := Gr.ok_le hok _ (List.getElem_mem hlt)
    have q3 := Gr.prod_pos (d.drop (i + 1)) (fun y hy => h1 y (List.mem_of_mem_drop hy))
    have hp : Gr.prod (d.drop i) = Gr.prod (d.drop (i + 1)) * d[i] := by rw [hd]; simp only [Gr.prod]; rw [Int.mul_comm]
    have h0 : 0 ≤ m / Gr.prod (d.drop (i + 1)) := Int.ediv_nonneg hm (by omega)
    have h64 : m / Gr.prod (d.drop (i + 1)) ≤ m := Int.ediv_le_self _ hm
    have e1 : Int.tdiv (m / Gr.prod (d.drop (i + 1))) d[i] = m / Gr.prod (d.drop i) := by
      rw [Int.tdiv_eq_ediv_of_nonneg h0, hp, Int.ediv_ediv, if_neg (by omega), Int.sub_zero]
    have e2 : Int.tmod (m / Gr.prod (d.drop (i + 1))) d[i] = m / Gr.prod (d.drop (i + 1)) % d[i] := Int.tmod_eq_emod_of_nonneg h0
    have b0 : 0 ≤ m / Gr.prod (d.drop i) := Int.ediv_nonneg hm (by have := Gr.prod_pos (d.drop i) (fun y hy => h1 y (List.mem_of_mem_drop hy)); omega)
    have b1 : m / Gr.prod (d.drop i) ≤ m := Int.ediv_le_self _ hm
    refine Ev.step (fun k => ?_) (ih (by omega) (x.set i (m / Gr.prod (d.drop (i + 1)) % rd d (i : Int))) (by simp [hl]) (at_set d x m i hlt hl hx))
    rw [walk_At.l0, show (((i + 1 : Nat) : Int) - 1) = (i : Int) by omega, if_pos (by omega), if_pos (by omega), if_pos (by omega), rdg d i hlt, if_neg (by omega), if_pos (by omega), e1, e2, w64 (by omega) (by omega), w64 (by omega) (by omega), Int.toNat_natCast]
theorem walk_at (d : List Int) (n : Int) : Ev (fun k => walk_At.f k d n) (Gr.att d n) := by
  unfold Gr.att
  by_cases h0 : n < 0
  · rw [if_neg (by omega)]
    refine Ev.congr (f := fun k => walk_At.j0 k d n true) (fun k => by rw [walk_At.f, if_pos h0]) ?_
    refine Ev.step (fun k => ?_) (Ev.now _)
    rw [walk_At.j0, if_pos rfl]
  · refine Ev.congr (f := fun k => (shape_Count.f k d).bind fun t => walk_At.j0 k d n (decide (n ≥ t))) (fun k => by rw [walk_At.f, if_neg h0]) ?_
    refine Ev.bind (shape_count d) ?_
    by_cases h1 : n < Gr.cnt d
    · rw [if_pos ⟨by omega, h1⟩]
      have hok : Gr.chk d = 0 := by
        apply Decidable.byContradiction
        intro hc; unfold Gr.cnt at h1; rw [if_neg hc] at h1; omega
      obtain ⟨c1, c2, c3⟩ := Gr.cnt_ok hok
      have h6 := (Gr.chk_ok hok).1
      have := at_l d hok n (by omega) (by omega) d.length (by omega) (List.replicate d.length 0) (by simp) (by simp [Gr.dig])
      rw [List.drop_length] at this
      simp only [Gr.prod, Int.ediv_one] at this
      refine Ev.step (fun k => ?_) this
      rw [walk_At.j0, if_neg (by simp; omega), if_pos (by omega), if_pos (by simp; omega), w64 (by omega) (by omega), Int.toNat_natCast]
    · rw [if_neg (by omega)]
      refine Ev.step (fun k => ?_) (Ev.now _)
      rw [walk_At.j0, if_pos (by simp; omega)]
theorem in_l (d r : List Int) (hl : r.length = d.length) (hn : d.length ≤ 6) : ∀ i, i ≤ r.length →
    Ev (fun k => walk_in.l0 k d r (r.length : Int) (i : Int)) (Gr.inb (d.drop i) (r.drop i)) := by
  apply down
  · rw [List.drop_length, hl, List.drop_length]
    refine Ev.step (fun k => ?_) (Ev.now _)
    rw [walk_in.l0, if_neg (by omega)]; rfl
  · intro i hi ih
    rw [dropc d i (by omega), dropc r i hi]
    simp only [Gr.inb]
    by_cases h1 : rd r (i : Int) < 0
    · rw [show decide (0 ≤ rd r (i : Int)) = false by simp; omega, Bool.false_and, Bool.false_and]
      refine Ev.step (fun k => ?_) (Ev.now _)
      rw [walk_in.l0, if_pos (by omega), if_pos (by omega), if_pos (by omega), if_pos h1]
    · rw [show decide (0 ≤ rd r (i : Int)) = true by simp; omega, Bool.true_and]
      by_cases h2 : rd d (i : Int) ≤ rd r (i : Int)
      · rw [show decide (rd r (i : Int) < rd d (i : Int)) = false by simp; omega, Bool.false_and]
        refine Ev.step (fun k => ?_) (Ev.now _)
        rw [walk_in.l0, if_pos (by omega), if_pos (by omega), if_pos (by omega), if_neg h1, if_pos (by omega), if_pos h2]
      · rw [show decide (rd r (i : Int) < rd d (i : Int)) = true by simp; omega, Bool.true_and]
        refine Ev.step (fun k => ?_) ih
        rw [walk_in.l0, if_pos (by omega), if_pos (by omega), if_pos (by omega), if_neg h1, if_pos (by omega), if_neg h2, nx i _ hi (by omega)]
theorem walk_ind (d r : List Int) : Ev (fun k => walk_in.f k d r) (Gr.ind d r) := by
  unfold Gr.ind
  refine Ev.congr (fun k => by rw [walk_in.f, shape_check, Option.bind_some]) ?_
  by_cases h : Gr.chk d = 0
  · have h6 := (Gr.chk_ok h).1
    simp only [if_pos h]
    rw [decide_eq_true h, Bool.true_and]
    by_cases hl : r.length = d.length
    · refine Ev.step (fun k => ?_) (in_l d r hl h6 0 (by omega))
      rw [walk_in.j0, if_neg (by simp; omega)]; rfl
    · rw [show Gr.inb d r = false by
        apply Decidable.byContradiction
        intro hc; exact hl (Gr.inb_length (by simpa using hc))]
      refine Ev.step (fun k => ?_) (Ev.now _)
      rw [walk_in.j0, if_pos (by simp; omega)]
  · simp only [if_neg h]
    rw [decide_eq_false h, Bool.false_and]
    refine Ev.step (fun k => ?_) (Ev.now _)
    rw [walk_in.j0, if_pos rfl]
theorem place_l (d r : List Int) (hok : Gr.chk d = 0) (hi2 : Gr.inb d r = true) : ∀ i, i ≤ r.length → ∀ n : Int, 0 ≤ n → n * Gr.prod (d.drop i) + Gr.num (d.drop i) (r.drop i) ≤ 64 → Gr.inb (d.drop i) (r.drop i) = true →
    Ev (fun k => walk_Place.l0 k d n r (r.length : Int) (i : Int)) (n * Gr.prod (d.drop i) + Gr.num (d.drop i) (r.drop i), true) := by
  obtain ⟨h6, h1, h2⟩ := Gr.chk_ok hok
  have hl := Gr.inb_length hi2
  apply down
  · intro n hn hb _
    rw [hl, List.drop_length, ← hl, List.drop_length]
    simp only [Gr.prod, Gr.num, Int.mul_one, Int.add_zero]
    refine Ev.step (fun k => ?_) (Ev.now _)
    rw [walk_Place.l0, if_neg (by omega)]
  · intro i hi ih n hn hb hin
    have hq := Gr.num_lt (d.drop (i + 1)) (r.drop (i + 1)) (fun x hx => h1 x (List.mem_of_mem_drop hx))
    have hp := Gr.prod_pos (d.drop (i + 1)) (fun x hx => h1 x (List.mem_of_mem_drop hx))
    have hx1 : 1 ≤ rd d (i : Int) := by rw [rdg d i (by omega)]; exact h1 _ (List.getElem_mem _)
    rw [dropc d i (by omega), dropc r i hi] at hin hb ⊢
    simp only [Gr.inb, Bool.and_eq_true, decide_eq_true_eq] at hin
    obtain ⟨q1, q2⟩ := hq hin.2
    simp only [Gr.prod, Gr.num] at hb ⊢
    have e : n * (rd d (i : Int) * Gr.prod (d.drop (i + 1))) + (rd r (i : Int) * Gr.prod (d.drop (i + 1)) + Gr.num (d.drop (i + 1)) (r.drop (i + 1))) = (n * rd d (i : Int) + rd r (i : Int)) * Gr.prod (d.drop (i + 1)) + Gr.num (d.drop (i + 1)) (r.drop (i + 1)) := by
      rw [Int.add_mul, ← Int.mul_assoc]; omega
    rw [e] at hb ⊢
    have b1 : 0 ≤ n * rd d (i : Int) := Int.mul_nonneg hn (by omega)
    have b2 : (n * rd d (i : Int) + rd r (i : Int)) * 1 ≤ (n * rd d (i : Int) + rd r (i : Int)) * Gr.prod (d.drop (i + 1)) := Int.mul_le_mul_of_nonneg_left hp (by omega)
    refine Ev.step (fun k => ?_) (ih _ (by omega) hb hin.2)
    rw [walk_Place.l0, if_pos (by omega), if_pos (by omega), if_pos (by omega), if_pos (by omega), show wrap64 (n * rd d (i : Int)) = n * rd d (i : Int) from w64 (by omega) (by omega), w64 (by omega) (by omega), nx i _ hi (by omega)]
theorem walk_place (d r : List Int) : Ev (fun k => walk_Place.f k d r) (Gr.plc d r) := by
  unfold Gr.plc
  refine Ev.congr (fun k => by rw [walk_Place.f]) (Ev.bind (walk_ind d r) ?_)
  by_cases h : Gr.ind d r = true
  · simp only [if_pos h]
    unfold Gr.ind at h
    simp only [Bool.and_eq_true, decide_eq_true_eq] at h
    obtain ⟨h6, h1, h2⟩ := Gr.chk_ok h.1
    have hb := (Gr.num_lt d r h1 h.2)
    have := place_l d r h.1 h.2 0 (by omega) 0 (by omega) (by simp; omega) (by simpa using h.2)
    rw [List.drop_zero, List.drop_zero, Int.zero_mul, Int.zero_add] at this
    exact this
  · simp only [if_neg h]
    exact Ev.now _
theorem all_2 (d : List Int) (L : List (List Int)) (i : Nat) (hi : i < d.length) (q : Nat) (hq : q < L.length) (hn : d.length ≤ 6) (hL : L.length ≤ 64) (hL6 : ∀ p ∈ L, p.length ≤ 6) (X : Nat) (hX : X ≤ 64) (hXd : rd d (i : Int) = (X : Int)) (r : List (List Int)) :
    ∀ v, v ≤ X → ∀ acc : List (List Int), acc.length ≤ 64 * q + v →
    Ev (fun k => gradineref20_All.l1 k d L (i : Int) (acc ++ ((List.range (X - v)).map fun u : Nat => L[q] ++ [((v + u : Nat) : Int)])) (d.length : Int) (i : Int) (L.length : Int) ((q + 1 : Nat) : Int)) r →
    Ev (fun k => gradineref20_All.l2 k d L (i : Int) acc (q : Int) (d.length : Int) (i : Int) (L.length : Int) (q : Int) (rd d (i : Int)) (v : Int)) r := by
  apply down
  · intro acc hacc h
    simp at h
    refine Ev.step (fun k => ?_) h
    rw [gradineref20_All.l2, if_neg (by omega), nx q _ hq (by omega)]; rfl
  · intro v hv ih acc hacc h
    have h6 := hL6 L[q] (List.getElem_mem hq)
    have e : acc ++ ((List.range (X - v)).map fun u : Nat => L[q] ++ [((v + u : Nat) : Int)]) = (acc ++ [L[q] ++ [(v : Int)]]) ++ ((List.range (X - (v + 1))).map fun u : Nat => L[q] ++ [((v + 1 + u : Nat) : Int)]) := by
      rw [show X - v = (X - (v + 1)) + 1 by omega, List.range_succ_eq_map, List.map_cons, List.map_map, List.append_assoc, List.singleton_append]
      congr 2
      apply List.map_congr_left
      intro u _
      simp only [Function.comp]
      rw [show v + u.succ = v + 1 + u by omega]
    rw [e] at h
    refine Ev.step (fun k => ?_) (ih (acc ++ [L[q] ++ [(v : Int)]]) (by simp; omega) h)
    rw [gradineref20_All.l2, if_pos (by omega), Option.bind_some, if_pos (by omega), if_pos (by omega), rdl L q hq, if_pos (by simp; omega), Option.bind_some, if_pos (by simp; omega), if_pos (by omega), nx v X hv (by omega), List.nil_append]
theorem all_1 (d : List Int) (L : List (List Int)) (i : Nat) (hi : i < d.length) (hn : d.length ≤ 6) (hL : L.length ≤ 64) (hL6 : ∀ p ∈ L, p.length ≤ 6) (X : Nat) (hX : X ≤ 64) (hXd : rd d (i : Int) = (X : Int)) (r : List (List Int)) :
    ∀ q, q ≤ L.length → ∀ acc : List (List Int), acc.length ≤ 64 * q →
    Ev (fun k => gradineref20_All.l0 k d (acc ++ (L.drop q).flatMap fun p => (List.range X).map fun v : Nat => p ++ [(v : Int)]) (d.length : Int) ((i + 1 : Nat) : Int)) r →
    Ev (fun k => gradineref20_All.l1 k d L (i : Int) acc (d.length : Int) (i : Int) (L.length : Int) (q : Int)) r := by
  apply down
  · intro acc hacc h
    rw [List.drop_length] at h
    simp only [List.flatMap_nil, List.append_nil] at h
    refine Ev.step (fun k => ?_) h
    rw [gradineref20_All.l1, if_neg (by omega), nx i _ hi (by omega)]
  · intro q hq ih acc hacc h
    rw [List.drop_eq_getElem_cons hq, List.flatMap_cons, ← List.append_assoc] at h
    have := ih _ (by simp; omega) h
    refine Ev.step (fun k => ?_) (all_2 d L i hi q hq hn hL hL6 X hX hXd r 0 (by omega) acc (by omega) (by simpa using this))
    rw [gradineref20_All.l1, if_pos (by omega), if_pos (by omega), if_pos (by omega)]; rfl
theorem all_0 (d : List Int) (hok : Gr.chk d = 0) : ∀ i, i ≤ d.length →
    Ev (fun k => gradineref20_All.l0 k d (Gr.pre (d.take i)) (d.length : Int) (i : Int)) (Gr.pre d) := by
  obtain ⟨h6, h1, h2⟩ := Gr.chk_ok hok
  apply down
  · rw [List.take_length]
    refine Ev.step (fun k => ?_) (Ev.now _)
    rw [gradineref20_All.l0, if_neg (by omega)]
  · intro i hi ih
    have hx := h1 _ (List.getElem_mem hi)
    have hx2 := Gr.ok_le hok _ (List.getElem_mem hi)
    have e : d.take (i + 1) = d.take i ++ [rd d (i : Int)] := by rw [List.take_succ_eq_append_getElem hi, rdg d i hi]
    rw [e, Gr.pre_snoc _ _ (fun y hy => h1 y (List.mem_of_mem_take hy)) (by rw [rdg d i hi]; exact hx)] at ih
    have hp := Gr.chk_ok (Gr.ok_take hok i)
    refine Ev.step (fun k => ?_) (all_1 d (Gr.pre (d.take i)) i hi h6 (by rw [Gr.pre_length]; omega) ?_ (rd d (i : Int)).toNat (by rw [rdg d i hi]; omega) (by rw [rdg d i hi]; omega) _ 0 (by omega) [] (by simp) (by simpa using ih))
    · rw [gradineref20_All.l0, if_pos (by omega)]; rfl
    · intro p hp
      simp only [Gr.pre, List.mem_map] at hp
      obtain ⟨n, _, rfl⟩ := hp
      rw [Gr.dig_length, List.length_take]; omega
theorem ref_all (d : List Int) : Ev (fun k => gradineref20_All.f k d) (Gr.alls d) := by
  refine Ev.congr (fun k => by rw [gradineref20_All.f]) (Ev.bind (ref_check d) ?_)
  by_cases h : Gr.chk d = 0
  · simp only [if_pos h]
    rw [Gr.alls_ok h]
    have := all_0 d h 0 (by omega)
    rw [List.take_zero, Gr.pre_nil] at this
    exact this
  · simp only [if_neg h]
    unfold Gr.alls
    rw [if_neg h]
    exact Ev.now _
theorem move_put_l (x : List Int) (n a a2 a3 a4 a5 a6 a7 : Int) (a8 : Bool) (l : List Int) (hn : l.length ≤ 1000000000) : ∀ i, i ≤ l.length →
    Ev (fun k => move_put.l0 k x l (l.length : Int) (i : Int) n a a2 a3 a4 a5 a6 a7 a8 l) (if Gr.inr (l.drop i) a = true then (x, 0) else ([], 11)) := by
  apply down
  · rw [List.drop_length]
    refine Ev.step (fun k => ?_) (Ev.now _)
    rw [move_put.l0, if_neg (by omega)]; rfl
  · intro i hi ih
    have e := Gr.inr_cons (rd l (i : Int)) (l.drop (i + 1)) a
    rw [dropc l i hi]
    by_cases h0 : rd l (i : Int) < 0
    · rw [if_neg (fun c => absurd (e.1 c).1.1 (by omega))]
      refine Ev.step (fun k => ?_) (Ev.now _)
      rw [move_put.l0, if_pos (by omega), if_pos (by omega), if_pos (by omega), if_pos h0]
    · by_cases h1 : a ≤ rd l (i : Int)
      · rw [if_neg (fun c => absurd (e.1 c).1.2 (by omega))]
        refine Ev.step (fun k => ?_) (Ev.now _)
        rw [move_put.l0, if_pos (by omega), if_pos (by omega), if_pos (by omega), if_neg h0, if_pos h1]
      · rw [show Gr.inr (rd l (i : Int) :: l.drop (i + 1)) a = Gr.inr (l.drop (i + 1)) a by rw [Bool.eq_iff_iff, e]; exact ⟨fun h => h.2, fun h => ⟨⟨by omega, by omega⟩, h⟩⟩]
        refine Ev.step (fun k => ?_) ih
        rw [move_put.l0, if_pos (by omega), if_pos (by omega), if_pos (by omega), if_neg h0, if_neg h1, nx i _ hi hn]
theorem mput (d : List Int) (n a a2 a3 a4 a5 a6 a7 : Int) (a8 : Bool) (l : List Int) (hn : l.length ≤ 1000000000) : Ev (fun k => move_put.f k d n a a2 a3 a4 a5 a6 a7 a8 l) (Gr.putd d n a l) := by
  refine Ev.congr (fun k => by rw [move_put.f]) (Ev.bind (withp d n a) ?_)
  unfold Gr.putd
  by_cases h : (Gr.withd d n a).2 = 0
  · obtain ⟨w1, w2, w3, w4, w5⟩ := Gr.withd_o29 h
    rw [if_pos h]
    simp only [if_pos h, if_pos w2, if_pos w3]
    by_cases h2 : (l.length : Int) = Gr.at0 d n
    · rw [if_pos h2]
      refine Ev.congr (fun k => by rw [← at0_rd, if_pos h2]) ?_
      have := move_put_l (Gr.withd d n a).1 n a a2 a3 a4 a5 a6 a7 a8 l hn 0 (by omega)
      rwa [List.drop_zero] at this
    · rw [if_neg h2]
      exact Ev.congr (fun k => by rw [← at0_rd, if_neg h2]) (Ev.now _)
  · rw [if_neg h]
    exact Ev.congr (fun k => by rw [if_neg h]) (Ev.now _)
theorem move_taken_l (d : List Int) (n a a2 a3 a4 a5 a6 a7 : Int) (a8 : Bool) (l : List Int) (hn : l.length ≤ 1000000000) (h0 : 0 ≤ n) (h1 : n < (d.length : Int)) : ∀ i, i ≤ l.length →
    Ev (fun k => move_taken.l0 k d l (l.length : Int) (i : Int) n a a2 a3 a4 a5 a6 a7 a8 l) (if Gr.inr (l.drop i) (Gr.at0 d n) = true then Gr.withd d n (l.length : Int) else ([], 11)) := by
  apply down
  · rw [List.drop_length]
    refine Ev.step (fun k => by rw [move_taken.l0, if_neg (by omega)]) (Ev.bind (withp d n (l.length : Int)) ?_)
    exact Ev.now _
  · intro i hi ih
    have e := Gr.inr_cons (rd l (i : Int)) (l.drop (i + 1)) (Gr.at0 d n)
    rw [dropc l i hi]
    by_cases g0 : rd l (i : Int) < 0
    · rw [if_neg (fun c => absurd (e.1 c).1.1 (by omega))]
      refine Ev.step (fun k => ?_) (Ev.now _)
      rw [move_taken.l0, if_pos (by omega), if_pos (by omega), if_pos (by omega), if_pos g0]
    · by_cases g1 : Gr.at0 d n ≤ rd l (i : Int)
      · rw [if_neg (fun c => absurd (e.1 c).1.2 (by omega))]
        refine Ev.step (fun k => ?_) (Ev.now _)
        rw [move_taken.l0, if_pos (by omega), if_pos (by omega), if_pos (by omega), if_neg g0, if_pos h0, if_pos h1, ← at0_rd d, if_pos g1]
      · rw [show Gr.inr (rd l (i : Int) :: l.drop (i + 1)) (Gr.at0 d n) = Gr.inr (l.drop (i + 1)) (Gr.at0 d n) by rw [Bool.eq_iff_iff, e]; exact ⟨fun h => h.2, fun h => ⟨⟨by omega, by omega⟩, h⟩⟩]
        refine Ev.step (fun k => ?_) ih
        rw [move_taken.l0, if_pos (by omega), if_pos (by omega), if_pos (by omega), if_neg g0, if_pos h0, if_pos h1, ← at0_rd d, if_neg g1, nx i _ hi hn]
theorem mtaken (d : List Int) (n a a2 a3 a4 a5 a6 a7 : Int) (a8 : Bool) (l : List Int) (hn : l.length ≤ 1000000000) : Ev (fun k => move_taken.f k d n a a2 a3 a4 a5 a6 a7 a8 l) (Gr.takd d n l) := by
  unfold Gr.takd
  by_cases h0 : n < 0
  · rw [if_pos (.inl h0)]
    refine Ev.congr (fun k => by rw [move_taken.f, if_pos h0]) (Ev.step (fun k => ?_) (Ev.now _))
    rw [move_taken.j0, if_pos rfl]
  · refine Ev.congr (fun k => by rw [move_taken.f, if_neg h0]) ?_
    by_cases h1 : (d.length : Int) ≤ n
    · rw [if_pos (.inr h1)]
      refine Ev.step (fun k => ?_) (Ev.now _)
      rw [move_taken.j0, if_pos (decide_eq_true h1)]
    · rw [if_neg (by omega)]
      refine Ev.step (fun k => by rw [move_taken.j0, if_neg (by simp; omega)]) ?_
      have := move_taken_l d n a a2 a3 a4 a5 a6 a7 a8 l hn (by omega) (by omega) 0 (by omega)
      rwa [List.drop_zero] at this
theorem att_ok {d : List Int} {i : Int} (h : (Gr.att d i).2 = true) : 0 ≤ i ∧ i < Gr.cnt d ∧ Gr.chk d = 0 ∧ Gr.att d i = (Gr.dig d i, true) ∧ Gr.inb d (Gr.dig d i) = true := by
  unfold Gr.att at h ⊢
  split at h
  · rename_i h1
    have hc : Gr.chk d = 0 := by
      by_cases c : Gr.chk d = 0
      · exact c
      · unfold Gr.cnt at h1; rw [if_neg c] at h1; omega
    exact ⟨h1.1, h1.2, hc, by rw [if_pos h1], Gr.inb_dig d (Gr.chk_ok hc).2.1 i⟩
  · simp at h
theorem mx_gr (a b : Int) : mx a b = Gr.mx a b := rfl
theorem size_at (l : List Int) (n : Nat) (hl : l.length ≤ n) (hn : n ≤ 6) (i : Nat) (hi : i < n) : spread_size.f l (((n - i : Nat)) : Int) = some ((Gr.pad n l)[i]'(by rw [Gr.pad_length n l hl]; exact hi)) := by
  rw [spread_size.f, Gr.pad_at n l hl i hi]
  by_cases h : n - l.length ≤ i
  · rw [dif_pos h, if_neg (by omega), w64 (by omega) (by omega), if_pos (by omega), if_pos (by omega), show ((l.length : Int) - ((n - i : Nat) : Int)) = ((i - (n - l.length) : Nat) : Int) by omega, rdg l _ (by omega)]
  · rw [dif_neg h, if_pos (by omega)]
theorem mxs_drop (p q : List Int) (i : Nat) (hp : i < p.length) (hq : i < q.length) : (Gr.mxs p q).drop i = Gr.mx p[i] q[i] :: (Gr.mxs p q).drop (i + 1) := by
  induction i generalizing p q with
  | zero =>
    cases p with
    | nil => simp at hp
    | cons x p =>
      cases q with
      | nil => simp at hq
      | cons y q => rfl
  | succ i ih =>
    cases p with
    | nil => simp at hp
    | cons x p =>
      cases q with
      | nil => simp at hq
      | cons y q =>
        have := ih p q (by simpa using hp) (by simpa using hq)
        simpa [Gr.mxs] using this
theorem fitz_at (p q : List Int) (i : Nat) (hp : i < p.length) (hq : i < q.length) (h : Gr.fitz p q = true) : p[i] = q[i] ∨ p[i] = 1 ∨ q[i] = 1 := by
  have := Gr.fitz_drop p q i h
  rw [List.drop_eq_getElem_cons hp, List.drop_eq_getElem_cons hq] at this
  simp only [Gr.fitz, Bool.and_eq_true, Bool.or_eq_true, beq_iff_eq] at this
  rcases this.1 with (h | h) | h
  · exact .inl h
  · exact .inr (.inl h)
  · exact .inr (.inr h)
theorem fitz_drop_of (p q : List Int) (i : Nat) (hp : i < p.length) (hq : i < q.length) (h1 : p[i] = q[i] ∨ p[i] = 1 ∨ q[i] = 1) (h : Gr.fitz (p.drop (i + 1)) (q.drop (i + 1)) = true) : Gr.fitz (p.drop i) (q.drop i) = true := by
  rw [List.drop_eq_getElem_cons hp, List.drop_eq_getElem_cons hq]
  simp only [Gr.fitz, Bool.and_eq_true, Bool.or_eq_true, beq_iff_eq]
  refine ⟨?_, h⟩
  rcases h1 with h | h | h
  · exact .inl (.inl h)
  · exact .inl (.inr h)
  · exact .inr h
theorem two_l1 (a b : List Int) (n : Nat) (ha : a.length ≤ n) (hb : b.length ≤ n) (hn : n ≤ 6) : ∀ i, i ≤ n → ∀ x : List Int, x.length = n → x.drop i = (Gr.mxs (Gr.pad n a) (Gr.pad n b)).drop i →
    Gr.fitz ((Gr.pad n a).drop i) ((Gr.pad n b).drop i) = true →
    Ev (fun k => spread_Two.l1 k a b (n : Int) x (((n - i : Nat) : Int) + 1)) (Gr.tw (Gr.pad n a) (Gr.pad n b)) := by
  have la := Gr.pad_length n a ha
  have lb := Gr.pad_length n b hb
  intro i
  induction i with
  | zero =>
    intro hi x hl hx hf
    simp only [List.drop_zero] at hx hf
    subst hx
    unfold Gr.tw
    rw [if_pos hf]
    by_cases hc : Gr.chk (Gr.mxs (Gr.pad n a) (Gr.pad n b)) = 0
    · rw [if_pos hc]
      refine Ev.step (fun k => ?_) (Ev.now _)
      rw [spread_Two.l1, if_neg (by omega), shape_check, Option.bind_some, if_pos hc]
    · rw [if_neg hc]
      refine Ev.step (fun k => ?_) (Ev.now _)
      rw [spread_Two.l1, if_neg (by omega), shape_check, Option.bind_some, if_neg hc]
  | succ i ih =>
    intro hi x hl hx hf
    have hlt : i < n := by omega
    have sa := size_at a n ha hn i hlt
    have sb := size_at b n hb hn i hlt
    have ei : (((n - (i + 1) : Nat) : Int) + 1) = ((n - i : Nat) : Int) := by omega
    have ei2 : (n : Int) - ((n - i : Nat) : Int) = (i : Int) := by omega
    rw [ei]
    by_cases hfit : (Gr.pad n a)[i] = (Gr.pad n b)[i] ∨ (Gr.pad n a)[i] = 1 ∨ (Gr.pad n b)[i] = 1
    · have hnew := ih (by omega) (x.set i (Gr.mx (Gr.pad n a)[i] (Gr.pad n b)[i])) (by simp [hl]) (by
        rw [List.drop_eq_getElem_cons (by simp; omega), mxs_drop _ _ i (by omega) (by omega)]
        simp only [List.getElem_set_self, List.cons.injEq, true_and]
        rw [List.drop_set_of_lt (by omega)]
        exact hx) (fitz_drop_of _ _ i (by omega) (by omega) hfit hf)
      refine Ev.step (fun k => ?_) hnew
      rw [spread_Two.l1, if_pos (by omega), sa, Option.bind_some, sb, Option.bind_some, ei2, w64 (x := (i : Int)) (by omega) (by omega), w64 (by omega) (by omega)]
      simp only [if_pos (show (0 : Int) ≤ (i : Int) by omega), if_pos (show (i : Int) < (x.length : Int) by omega), Int.toNat_natCast, mx_gr]
      by_cases e1 : (Gr.pad n a)[i] = (Gr.pad n b)[i]
      · rw [if_pos e1]
      · rw [if_neg e1]
        by_cases e2 : (Gr.pad n a)[i] = 1
        · rw [if_pos e2]
        · rw [if_neg e2, if_pos (by rcases hfit with h | h | h <;> first | exact absurd h e1 | exact absurd h e2 | exact h)]
    · unfold Gr.tw
      rw [if_neg (fun h => hfit (fitz_at _ _ i (by omega) (by omega) h))]
      refine Ev.step (fun k => ?_) (Ev.now _)
      rw [spread_Two.l1, if_pos (by omega), sa, Option.bind_some, sb, Option.bind_some, if_neg (fun h => hfit (.inl h)), if_neg (fun h => hfit (.inr (.inl h))), if_neg (fun h => hfit (.inr (.inr h)))]
theorem two (a b : List Int) : Ev (fun k => spread_Two.f k a b) (Gr.two a b) := by
  unfold Gr.two
  refine Ev.congr (f := fun k => spread_Two.l0 k a b [a, b] 2 0) (fun k => by rw [spread_Two.f, Option.bind_some]; rfl) ?_
  have r0 : rd_L1 [a, b] 0 = a := rfl
  have r1 : rd_L1 [a, b] 1 = b := rfl
  by_cases ha : Gr.chk a = 0
  · rw [if_pos ha]
    have h6 := (Gr.chk_ok ha).1
    refine Ev.step (f := fun k => spread_Two.l0 k a b [a, b] 2 1) (fun k => by rw [spread_Two.l0, if_pos (by omega), if_pos (by omega), if_pos (by simp), r0, shape_check, Option.bind_some, if_pos ha, w64 (by omega) (by omega)]; rfl) ?_
    by_cases hb : Gr.chk b = 0
    · rw [if_pos hb]
      have k6 := (Gr.chk_ok hb).1
      refine Ev.step (f := fun k => spread_Two.l0 k a b [a, b] 2 2) (fun k => by rw [spread_Two.l0, if_pos (by omega), if_pos (by omega), if_pos (by simp), r1, shape_check, Option.bind_some, if_pos hb, w64 (by omega) (by omega)]; rfl) ?_
      have hm : mx (a.length : Int) (b.length : Int) = (Gr.rank2 a b : Int) := by unfold mx Gr.rank2; split <;> omega
      have := two_l1 a b (Gr.rank2 a b) (by unfold Gr.rank2; omega) (by unfold Gr.rank2; omega) (by unfold Gr.rank2; omega) (Gr.rank2 a b) (by omega) (List.replicate (Gr.rank2 a b) 0) (by simp) (by
        rw [List.drop_of_length_le (by simp), List.drop_of_length_le]
        rw [Gr.mxs_length, Gr.pad_length _ _ (by unfold Gr.rank2; omega)]; omega
        rw [Gr.pad_length _ _ (by unfold Gr.rank2; omega), Gr.pad_length _ _ (by unfold Gr.rank2; omega)]) (by
        rw [List.drop_of_length_le (by rw [Gr.pad_length _ _ (by unfold Gr.rank2; omega)]; omega)]; rfl)
      rw [show (((Gr.rank2 a b - Gr.rank2 a b : Nat) : Int) + 1) = 1 by omega] at this
      refine Ev.step (fun k => ?_) this
      rw [spread_Two.l0, if_neg (by omega), hm, if_pos (by omega), if_pos (by unfold Gr.rank2; omega), Int.toNat_natCast]
    · rw [if_neg hb]
      refine Ev.step (fun k => ?_) (Ev.now _)
      rw [spread_Two.l0, if_pos (by omega), if_pos (by omega), if_pos (by simp), r1, shape_check, Option.bind_some, if_neg hb]
  · rw [if_neg ha]
    refine Ev.step (fun k => ?_) (Ev.now _)
    rw [spread_Two.l0, if_pos (by omega), if_pos (by omega), if_pos (by simp), r0, shape_check, Option.bind_some, if_neg ha]
theorem equal_l (a b : List Int) (hl : a.length = b.length) (hn : a.length ≤ 1000000000) : ∀ i, i ≤ a.length →
    Ev (fun k => slices_Equal_int_int.l0 k a b (a.length : Int) (i : Int)) (decide (a.drop i = b.drop i)) := by
  apply down
  · refine Ev.step (f := fun _ => some true) (fun k => ?_) ?_
    · rw [slices_Equal_int_int.l0, if_neg (by omega)]
    · rw [List.drop_length, hl, List.drop_length]; exact Ev.now true
  · intro i hi ih
    rw [dropc a i hi, dropc b i (by omega)]
    by_cases e : rd a (i : Int) = rd b (i : Int)
    · rw [show decide (rd a (i : Int) :: a.drop (i + 1) = rd b (i : Int) :: b.drop (i + 1)) = decide (a.drop (i + 1) = b.drop (i + 1)) by simp [e]]
      refine Ev.step (fun k => ?_) ih
      rw [slices_Equal_int_int.l0, if_pos (by omega), if_pos (by omega), if_pos (by omega), if_pos (by omega), if_pos e, nx i _ hi hn]
    · rw [show decide (rd a (i : Int) :: a.drop (i + 1) = rd b (i : Int) :: b.drop (i + 1)) = false by simp [e]]
      refine Ev.step (fun k => ?_) (Ev.now false)
      rw [slices_Equal_int_int.l0, if_pos (by omega), if_pos (by omega), if_pos (by omega), if_pos (by omega), if_neg e]
theorem equal (a b : List Int) (hn : a.length ≤ 1000000000) : Ev (fun k => slices_Equal_int_int.f k a b) (decide (a = b)) := by
  by_cases hl : a.length = b.length
  · refine Ev.congr (fun k => ?_) (by have := equal_l a b hl hn 0 (by omega); simpa using this)
    rw [slices_Equal_int_int.f, if_pos (by omega)]
  · rw [show decide (a = b) = false from decide_eq_false (fun e => hl (by rw [e]))]
    refine Ev.congr (fun k => ?_) (Ev.now false)
    rw [slices_Equal_int_int.f, if_neg (by omega)]
theorem two_fst_le (a b : List Int) : (Gr.two a b).1.length ≤ 6 := by
  unfold Gr.two
  split
  · split
    · unfold Gr.tw
      split
      · split
        · rename_i h; exact (Gr.chk_ok h).1
        · simp
      · simp
    · simp
  · simp
theorem fits (a b : List Int) : Ev (fun k => spread_Fits.f k a b) (Gr.fts a b) := by
  refine Ev.congr (fun k => by rw [spread_Fits.f]) (Ev.bind (two a b) ?_)
  unfold Gr.fts
  by_cases h : (Gr.two a b).2 = 0
  · simp only [if_pos h]
    rw [decide_eq_true h, Bool.true_and]
    refine Ev.bind (f := fun k t => some t) ?_ (Ev.now _)
    refine Ev.congr (fun k => by rw [shape_Same.f]) (Ev.bind (f := fun k t => some t) (equal _ _ (by have := two_fst_le a b; omega)) (Ev.now _))
  · simp only [if_neg h]
    rw [decide_eq_false h, Bool.false_and]
    exact Ev.now _
theorem source_l (a : List Int) (hn : a.length ≤ 6) (v : Int × Bool) : ∀ i, i ≤ a.length → ∀ q : List Int, q.length = a.length →
    (∀ k, q.take i = (Gr.sat a k).take i → q.drop i = k.drop i → k.length = a.length → Ev (fun n => walk_Place.f n a (Gr.sat a k)) v →
    Ev (fun n => spread_Source.l0 n a q a (a.length : Int) (i : Int)) v) := by
  have sl : ∀ (a k : List Int), k.length = a.length → (Gr.sat a k).length = a.length := by
    intro a
    induction a with
    | nil => intro k hk; cases k <;> simp [Gr.sat]
    | cons x a ih =>
      intro k hk
      cases k with
      | nil => simp at hk
      | cons y k => simp [Gr.sat, ih k (by simpa using hk)]
  have sg : ∀ (a k : List Int) (hk : k.length = a.length) (i : Nat) (hi : i < a.length), (Gr.sat a k)[i]'(by rw [sl a k hk]; exact hi) = if a[i] = 1 then 0 else k[i]'(by omega) := by
    intro a
    induction a with
    | nil => intro k hk i hi; simp at hi
    | cons x a ih =>
      intro k hk i hi
      cases k with
      | nil => simp at hk
      | cons y k =>
        cases i with
        | zero => simp [Gr.sat]
        | succ i => simpa [Gr.sat] using ih k (by simpa using hk) i (by simpa using hi)
  apply down
  · intro q hq k h1 h2 hk hp
    have : q = Gr.sat a k := by
      rw [List.take_of_length_le (by omega), List.take_of_length_le (by rw [sl a k hk]; omega)] at h1
      exact h1
    subst this
    refine Ev.step (fun n => by rw [spread_Source.l0, if_neg (by omega)]) (Ev.bind hp ?_)
    exact Ev.now _
  · intro i hi ih q hq k h1 h2 hk hp
    have hsg := sg a k hk i hi
    have e : (Gr.sat a k).take (i + 1) = (Gr.sat a k).take i ++ [if a[i] = 1 then 0 else k[i]'(by omega)] := by
      rw [List.take_succ_eq_append_getElem (by rw [sl a k hk]; exact hi), hsg]
    have h3 : q.drop (i + 1) = k.drop (i + 1) := by
      have := congrArg (List.drop 1) h2
      rw [List.drop_drop, List.drop_drop] at this
      exact this
    by_cases h : a[i] = 1
    · rw [if_pos h] at e
      refine Ev.step (fun n => ?_) (ih (q.set i 0) (by simp [hq]) k ?_ ?_ hk hp)
      · rw [spread_Source.l0, if_pos (by omega), if_pos (by omega), if_pos (by omega), rdg a i hi, if_pos h, if_pos (by omega), Int.toNat_natCast, nx i _ hi (by omega)]
      · rw [e, ← h1, List.take_succ_eq_append_getElem (by simp; omega), List.getElem_set_self, List.take_set_of_le (by omega)]
      · rw [List.drop_set_of_lt (by omega)]; exact h3
    · rw [if_neg h] at e
      refine Ev.step (fun n => ?_) (ih q hq k ?_ h3 hk hp)
      · rw [spread_Source.l0, if_pos (by omega), if_pos (by omega), if_pos (by omega), rdg a i hi, if_neg h, nx i _ hi (by omega)]
      · rw [e, ← h1, List.take_succ_eq_append_getElem (by omega)]
        have h4 : q[i]'(by omega) = k[i]'(by omega) := by
          have hq2 : i < q.length := by omega
          have hk2 : i < k.length := by omega
          rw [List.drop_eq_getElem_cons hq2, List.drop_eq_getElem_cons hk2] at h2
          simp only [List.cons.injEq] at h2
          exact h2.1
        rw [h4]
theorem source (a b : List Int) (n : Int) : Ev (fun k => spread_Source.f k a b n) (if Gr.fts a b = true ∧ 0 ≤ n ∧ n < Gr.cnt b then (Gr.src a b n, true) else (0, false)) := by
  refine Ev.congr (fun k => by rw [spread_Source.f]) (Ev.bind (walk_at b n) ?_)
  unfold Gr.att
  by_cases h1 : 0 ≤ n ∧ n < Gr.cnt b
  · rw [if_pos h1]
    simp only [if_true]
    refine Ev.bind (fits a b) ?_
    by_cases h2 : Gr.fts a b = true
    · rw [if_pos ⟨h2, h1⟩, h2]
      obtain ⟨ca, cb, hle, hsub⟩ := (Gr.fts_iff a b).1 h2
      have a6 := (Gr.chk_ok ca).1
      have b6 := (Gr.chk_ok cb).1
      have hin := Gr.src_in h2 n
      have hpl := walk_place a (Gr.sat a ((Gr.dig b n).drop (b.length - a.length)))
      unfold Gr.plc at hpl
      rw [if_pos (by unfold Gr.ind; rw [decide_eq_true ca, hin]; rfl)] at hpl
      have hlen : ((Gr.dig b n).drop (b.length - a.length)).length = a.length := by rw [List.length_drop, Gr.dig_length]; omega
      refine Ev.step (fun k => ?_) (source_l a a6 _ 0 (by omega) ((Gr.dig b n).drop (b.length - a.length)) hlen _ (by simp) rfl hlen hpl)
      rw [spread_Source.j0, if_neg (by simp), w64 (by omega) (by omega), if_pos (by omega), if_pos (by rw [Gr.dig_length]; omega), show ((b.length : Int) - (a.length : Int)).toNat = b.length - a.length by omega]; rfl
    · rw [if_neg (fun h => h2 h.1), show Gr.fts a b = false by simpa using h2]
      refine Ev.step (fun k => ?_) (Ev.now _)
      rw [spread_Source.j0, if_pos (by rfl)]
  · rw [if_neg h1, if_neg (fun h => h1 h.2)]
    simp only [Bool.false_eq_true, if_false]
    refine Ev.step (fun k => ?_) (Ev.now _)
    rw [spread_Source.j0, if_pos rfl]
theorem mul_bound {a t : Int} (h0 : 0 ≤ a) (h1 : a ≤ 63) (ht : a = 0 ∨ (-64 < t ∧ t < 64)) : -4000 ≤ a * t ∧ a * t ≤ 4000 := by
  rcases ht with rfl | ⟨t0, t1⟩
  · simp
  · have e1 : a * t ≤ a * 63 := Int.mul_le_mul_of_nonneg_left (by omega) h0
    have e2 : a * (-63) ≤ a * t := Int.mul_le_mul_of_nonneg_left (by omega) h0
    omega
theorem right_l (o : Int) (d s : List Int) (room : Int) (hok : Gr.chk d = 0) (hl : s.length = d.length) (hr0 : 1 ≤ room) (hr : room ≤ 64) : ∀ i, i ≤ d.length → ∀ lo hi : Int, -(64 + 4096 * (i : Int)) ≤ lo → lo ≤ 64 + 4096 * (i : Int) → -(64 + 4096 * (i : Int)) ≤ hi → hi ≤ 64 + 4096 * (i : Int) →
    Ev (fun k => view_Right.l0 k room lo hi d (d.length : Int) (i : Int) o d s) (Gr.sok room (d.drop i) (s.drop i) && decide (0 ≤ lo + Gr.low (d.drop i) (s.drop i)) && decide (hi + Gr.hgh (d.drop i) (s.drop i) < room)) := by
  obtain ⟨h6, h1, h2⟩ := Gr.chk_ok hok
  apply down
  · intro lo hi a1 a2 a3 a4
    rw [List.drop_length, ← hl, List.drop_length]
    simp only [Gr.sok, Gr.low, Gr.hgh, Bool.true_and, Int.add_zero]
    by_cases h : lo ≥ 0
    · rw [decide_eq_true (show 0 ≤ lo from h), Bool.true_and]
      refine Ev.step (fun k => ?_) (Ev.now _)
      rw [view_Right.l0, if_neg (by omega), if_pos h]
    · rw [decide_eq_false (show ¬ 0 ≤ lo from h), Bool.false_and]
      refine Ev.step (fun k => ?_) (Ev.now _)
      rw [view_Right.l0, if_neg (by omega), if_neg h]
  · intro i hi ih lo hg a1 a2 a3 a4
    have hx := h1 _ (List.getElem_mem hi)
    have hx2 := Gr.ok_le hok _ (List.getElem_mem hi)
    rw [← rdg d i hi] at hx hx2
    rw [dropc d i hi, dropc s i (by omega)]
    simp only [Gr.sok, Gr.low, Gr.hgh]
    by_cases e1 : rd d (i : Int) = 1
    · have := ih lo hg (by omega) (by omega) (by omega) (by omega)
      rw [e1]
      simp only [Int.le_refl, decide_true, Bool.true_or, Bool.true_and, Int.sub_self, Int.zero_mul, Int.lt_irrefl, if_false, Int.zero_add]
      refine Ev.step (fun k => ?_) this
      rw [view_Right.l0, if_pos (by omega), if_pos (by omega), if_pos (by omega), if_pos (by omega), view_reach.f, if_pos e1, Option.bind_some, if_pos rfl, nx i _ hi (by omega), show mn 0 0 = 0 by decide, show mx 0 0 = 0 by decide, Int.add_zero, Int.add_zero, w64 (by omega) (by omega), w64 (by omega) (by omega)]
    · rw [decide_eq_false (show ¬ rd d (i : Int) ≤ 1 by omega), Bool.false_or]
      have hwr : wrap64 (-room) = -room := w64 (by omega) (by omega)
      by_cases e2 : rd s (i : Int) ≥ room
      · rw [decide_eq_false (show ¬ rd s (i : Int) < room by omega), Bool.and_false, Bool.false_and, Bool.false_and, Bool.false_and]
        refine Ev.step (fun k => ?_) (Ev.now _)
        rw [view_Right.l0, if_pos (by omega), if_pos (by omega), if_pos (by omega), if_pos (by omega), view_reach.f, if_neg e1, if_pos e2, Option.bind_some, if_neg (by simp)]
      · by_cases e3 : rd s (i : Int) ≤ -room
        · rw [decide_eq_false (show ¬ -room < rd s (i : Int) by omega), Bool.false_and, Bool.false_and, Bool.false_and, Bool.false_and]
          refine Ev.step (fun k => ?_) (Ev.now _)
          rw [view_Right.l0, if_pos (by omega), if_pos (by omega), if_pos (by omega), if_pos (by omega), view_reach.f, if_neg e1, if_neg e2, hwr, if_pos e3, Option.bind_some, if_neg (by simp)]
        · obtain ⟨b1, b2⟩ := mul_bound (a := rd d (i : Int) - 1) (t := rd s (i : Int)) (by omega) (by omega) (.inr ⟨by omega, by omega⟩)
          rw [decide_eq_true (show -room < rd s (i : Int) by omega), decide_eq_true (show rd s (i : Int) < room by omega), Bool.true_and, Bool.true_and]
          have hwm : wrap64 (wrap64 (rd d (i : Int) - 1) * rd s (i : Int)) = (rd d (i : Int) - 1) * rd s (i : Int) := by rw [w64 (x := rd d (i : Int) - 1) (by omega) (by omega), w64 (by omega) (by omega)]
          obtain ⟨m, hm⟩ : ∃ m, (rd d (i : Int) - 1) * rd s (i : Int) = m := ⟨_, rfl⟩
          rw [hm] at b1 b2 hwm
          simp only [hm]
          have hmn : mn m 0 = if m < 0 then m else 0 := by unfold mn; split <;> split <;> omega
          have hmx : mx m 0 = if m < 0 then 0 else m := by unfold mx; rfl
          have hlo : wrap64 (lo + mn m 0) = lo + if m < 0 then m else 0 := by rw [hmn, w64] <;> split <;> omega
          have hhg : wrap64 (hg + mx m 0) = hg + if m < 0 then 0 else m := by rw [hmx, w64] <;> split <;> omega
          have := ih (lo + if m < 0 then m else 0) (hg + if m < 0 then 0 else m) (by split <;> omega) (by split <;> omega) (by split <;> omega) (by split <;> omega)
          rw [← Int.add_assoc, ← Int.add_assoc]
          refine Ev.step (fun k => ?_) this
          rw [view_Right.l0, if_pos (by omega), if_pos (by omega), if_pos (by omega), if_pos (by omega), view_reach.f, if_neg e1, if_neg e2, hwr, if_neg e3, hwm, Option.bind_some, if_pos rfl, nx i _ hi (by omega), hlo, hhg]
theorem view_rgt (o : Int) (d s : List Int) (room : Int) : Ev (fun k => view_Right.f k o d s room) (Gr.rgt o d s room) := by
  have no : ¬ Gr.vok o d s room → Gr.rgt o d s room = false := fun h => by unfold Gr.rgt; rw [decide_eq_false h]; rfl
  have stop : ¬ Gr.vok o d s room → Ev (fun k => view_Right.j0 k room true o d s) (Gr.rgt o d s room) := fun h => by
    rw [no h]
    refine Ev.step (fun k => ?_) (Ev.now _)
    rw [view_Right.j0, if_pos rfl]
  refine Ev.congr (fun k => by rw [view_Right.f, shape_check, Option.bind_some]) ?_
  by_cases h1 : Gr.chk d = 0
  · simp only [if_pos h1]
    by_cases h2 : (s.length : Int) = (d.length : Int)
    · simp only [if_pos h2]
      by_cases h3 : room > 64
      · simp only [if_pos h3]; exact stop (fun hv => by have := hv.2.2.1; omega)
      · simp only [if_neg h3]
        by_cases h4 : o < 0
        · simp only [if_pos h4]; exact stop (fun hv => by have := hv.2.2.2.1; omega)
        · simp only [if_neg h4]
          by_cases h5 : o ≥ room
          · rw [decide_eq_true h5]; exact stop (fun hv => by have := hv.2.2.2.2.1; omega)
          · rw [decide_eq_false h5]
            have := right_l o d s room h1 (by omega) (by omega) (by omega) 0 (by omega) o o (by omega) (by omega) (by omega) (by omega)
            rw [List.drop_zero, List.drop_zero] at this
            have e : Gr.rgt o d s room = (Gr.sok room d s && decide (0 ≤ o + Gr.low d s) && decide (o + Gr.hgh d s < room)) := by
              have hd : decide (Gr.vok o d s room) = Gr.sok room d s := by
                by_cases hs : Gr.sok room d s = true
                · exact (decide_eq_true ⟨h1, by omega, by omega, by omega, by omega, hs⟩).trans hs.symm
                · exact (decide_eq_false (fun hv => hs hv.2.2.2.2.2)).trans (Bool.eq_false_iff.2 hs).symm
              unfold Gr.rgt; rw [hd]
            rw [e]
            refine Ev.step (fun k => ?_) this
            rw [view_Right.j0, if_neg (by simp)]; rfl
    · simp only [if_neg h2]; exact stop (fun hv => by have := hv.2.1; omega)
  · simp only [if_neg h1]; exact stop (fun hv => h1 hv.1)
theorem view_rgt64 (o : Int) (d s : List Int) : Ev (fun k => view_right.f k o d s) (Gr.rgt o d s 64) :=
  Ev.congr (fun k => by rw [view_right.f]) (Ev.bind (view_rgt o d s 64) (Ev.now _))
/-- What is asked of a place and steps so that nothing overflows. -/
def Fit (s p : List Int) : Prop := p.length ≤ 6 ∧ p.length = s.length ∧ ∀ i, (h : i < p.length) → 0 ≤ rd p (i : Int) ∧ rd p (i : Int) ≤ 63 ∧ (rd p (i : Int) = 0 ∨ (-64 < rd s (i : Int) ∧ rd s (i : Int) < 64))
theorem fit_of {d s p : List Int} {room : Int} (hok : Gr.chk d = 0) (hl : s.length = d.length) (hs : Gr.sok room d s = true) (hr : room ≤ 64) (hi : Gr.inb d p = true) : Fit s p := by
  have hpl := Gr.inb_length hi
  have h6 := (Gr.chk_ok hok).1
  refine ⟨by omega, by omega, fun i h => ?_⟩
  have hd := Gr.inb_dropn d p hi i
  rw [dropc d i (by omega), dropc p i h] at hd
  simp only [Gr.inb, Bool.and_eq_true, decide_eq_true_eq] at hd
  have hx2 := Gr.ok_le hok _ (List.getElem_mem (show i < d.length by omega))
  have hg := Gr.sok_get hs i (by omega) (by omega)
  rw [← rdg d i (by omega)] at hx2 hg
  rw [← rdg s i (by omega)] at hg
  refine ⟨hd.1.1, by omega, ?_⟩
  rcases hg with hg | hg
  · left; omega
  · right; omega
theorem at_l22 (o : Int) (d s p : List Int) (hf : Fit s p) : ∀ i, i ≤ p.length → ∀ c : Int, -(64 + 4096 * (i : Int)) ≤ c → c ≤ 64 + 4096 * (i : Int) →
    Ev (fun k => view_At.l0 k c p (p.length : Int) (i : Int) o d s) (c + Gr.ofs (p.drop i) (s.drop i), true) := by
  obtain ⟨h6, hl, hb⟩ := hf
  apply down
  · intro c _ _
    rw [List.drop_length, hl, List.drop_length]
    simp only [Gr.ofs, Int.add_zero]
    refine Ev.step (fun k => ?_) (Ev.now _)
    rw [view_At.l0, if_neg (by omega)]
  · intro i hi ih c a1 a2
    obtain ⟨b0, b1, b2⟩ := hb i hi
    obtain ⟨m1, m2⟩ := mul_bound b0 b1 b2
    rw [dropc p i hi, dropc s i (by omega)]
    simp only [Gr.ofs]
    rw [← Int.add_assoc]
    refine Ev.step (fun k => ?_) (ih (c + rd p (i : Int) * rd s (i : Int)) (by omega) (by omega))
    by_cases hp : rd p (i : Int) > 0
    · rw [view_At.l0, if_pos (by omega), if_pos (by omega), if_pos (by omega), if_pos hp, if_pos (by omega), nx i _ hi (by omega), w64 (x := rd p (i : Int) * rd s (i : Int)) (by omega) (by omega), w64 (by omega) (by omega)]
    · rw [view_At.l0, if_pos (by omega), if_pos (by omega), if_pos (by omega), if_neg hp, nx i _ hi (by omega), show rd p (i : Int) = 0 by omega, Int.zero_mul, Int.add_zero]
theorem view_at (o : Int) (d s : List Int) (n : Int) : Ev (fun k => view_At.f k o d s n) (Gr.vat o d s n) := by
  refine Ev.congr (fun k => by rw [view_At.f]) (Ev.bind (view_rgt64 o d s) ?_)
  by_cases h : Gr.rgt o d s 64 = true
  · rw [h]
    simp only [if_true]
    obtain ⟨⟨v1, v2, v3, v4, v5, v6⟩, _, _⟩ := Gr.rgt_ok h
    refine Ev.bind (walk_at d n) ?_
    unfold Gr.att Gr.vat
    by_cases hn : 0 ≤ n ∧ n < Gr.cnt d
    · rw [if_pos hn, if_pos ⟨h, hn⟩]
      simp only [if_true]
      have := at_l22 o d s (Gr.dig d n) (fit_of v1 v2 v6 (by omega) (Gr.inb_dig d (Gr.chk_ok v1).2.1 n)) 0 (by omega) o (by omega) (by omega)
      rw [List.drop_zero, List.drop_zero] at this
      exact this
    · rw [if_neg hn, if_neg (fun hh => hn hh.2)]
      exact Ev.now _
  · rw [Bool.eq_false_iff.2 h]
    unfold Gr.vat
    rw [if_neg (fun hh => h hh.1)]
    exact Ev.now _
theorem cells_2 (o : Int) (d s : List Int) (room : Int) (L acc : List (List Int)) (q : Nat) (hq : q < L.length) (ac : List Int) (hf : Fit s L[q]) (R : List Int) :
    ∀ j, j ≤ L[q].length → ∀ c : Int, -(64 + 4096 * (j : Int)) ≤ c → c ≤ 64 + 4096 * (j : Int) →
    (0 ≤ c + Gr.ofs (L[q].drop j) (s.drop j) → c + Gr.ofs (L[q].drop j) (s.drop j) < room → Ev (fun k => if ac.length < 17592186044416 then gradineref22_Cells.l1 k room L (ac ++ [c + Gr.ofs (L[q].drop j) (s.drop j)]) (L.length : Int) (wrap64 ((q : Int) + 1)) o d s else none) R) →
    Ev (fun k => gradineref22_Cells.l2 k room L ac (q : Int) c (L.length : Int) (q : Int) (L[q].length : Int) (j : Int) o d s) (if 0 ≤ c + Gr.ofs (L[q].drop j) (s.drop j) ∧ c + Gr.ofs (L[q].drop j) (s.drop j) < room then R else []) := by
  obtain ⟨h6, hl, hb⟩ := hf
  apply down
  · intro c _ _
    rw [List.drop_length, hl, List.drop_length]
    simp only [Gr.ofs, Int.add_zero]
    intro h
    by_cases h0 : c < 0
    · rw [if_neg (by omega)]
      refine Ev.step (fun k => ?_) (Ev.now _)
      rw [gradineref22_Cells.l2, if_neg (by omega), if_pos h0]
    · by_cases h1 : c ≥ room
      · rw [if_neg (by omega)]
        refine Ev.step (fun k => ?_) (Ev.now _)
        rw [gradineref22_Cells.l2, if_neg (by omega), if_neg h0, if_pos h1]
      · rw [if_pos (by omega)]
        refine Ev.step (fun k => ?_) (h (by omega) (by omega))
        rw [gradineref22_Cells.l2, if_neg (by omega), if_neg h0, if_neg h1]
  · intro j hj ih c a1 a2
    obtain ⟨b0, b1, b2⟩ := hb j hj
    obtain ⟨m1, m2⟩ := mul_bound b0 b1 b2
    have eo : Gr.ofs (L[q].drop j) (s.drop j) = rd L[q] (j : Int) * rd s (j : Int) + Gr.ofs (L[q].drop (j + 1)) (s.drop (j + 1)) := by rw [dropc L[q] j hj, dropc s j (by omega)]; rfl
    simp only [eo, ← Int.add_assoc]
    intro h
    have := ih (c + rd L[q] (j : Int) * rd s (j : Int)) (by omega) (by omega) h
    refine Ev.step (fun k => ?_) this
    by_cases hp : rd L[q] (j : Int) > 0
    · rw [gradineref22_Cells.l2, if_pos (by omega), if_pos (by omega), if_pos (by omega), if_pos (by omega), rdl L q hq, if_pos (by omega), if_pos hp, if_pos (by omega), nx j _ hj (by omega), w64 (x := rd L[q] (j : Int) * rd s (j : Int)) (by omega) (by omega), w64 (by omega) (by omega)]
    · rw [gradineref22_Cells.l2, if_pos (by omega), if_pos (by omega), if_pos (by omega), if_pos (by omega), rdl L q hq, if_pos (by omega), if_neg hp, nx j _ hj (by omega), show rd L[q] (j : Int) = 0 by omega, Int.zero_mul, Int.add_zero]
theorem cells_1 (o : Int) (ho : 0 ≤ o) (ho2 : o < 64) (d s : List Int) (room : Int) (L : List (List Int)) (hL : L.length ≤ 64) (hf : ∀ p ∈ L, Fit s p) : ∀ q, q ≤ L.length → ∀ ac : List Int, ac.length ≤ q →
    Ev (fun k => gradineref22_Cells.l1 k room L ac (L.length : Int) (q : Int) o d s) (if ∀ p ∈ L.drop q, 0 ≤ o + Gr.ofs p s ∧ o + Gr.ofs p s < room then ac ++ (L.drop q).map (fun p => o + Gr.ofs p s) else []) := by
  apply down
  · intro ac _
    rw [List.drop_length]
    simp only [List.not_mem_nil, false_imp_iff, implies_true, if_true, List.map_nil, List.append_nil]
    refine Ev.step (fun k => ?_) (Ev.now _)
    rw [gradineref22_Cells.l1, if_neg (by omega)]
  · intro q hq ih ac hac
    have hd := List.drop_eq_getElem_cons hq
    have := cells_2 o d s room L L q hq ac (hf _ (List.getElem_mem hq)) (if ∀ p ∈ L.drop (q + 1), 0 ≤ o + Gr.ofs p s ∧ o + Gr.ofs p s < room then (ac ++ [o + Gr.ofs L[q] s]) ++ (L.drop (q + 1)).map (fun p => o + Gr.ofs p s) else []) 0 (by omega) o (by omega) (by omega) (by
      rw [List.drop_zero, List.drop_zero]
      intro _ _
      refine Ev.congr (fun k => ?_) (ih (ac ++ [o + Gr.ofs L[q] s]) (by simp; omega))
      rw [if_pos (by omega), nx q _ hq (by omega)])
    rw [List.drop_zero, List.drop_zero] at this
    have e : (if ∀ p ∈ L.drop q, 0 ≤ o + Gr.ofs p s ∧ o + Gr.ofs p s < room then ac ++ (L.drop q).map (fun p => o + Gr.ofs p s) else []) = (if 0 ≤ o + Gr.ofs L[q] s ∧ o + Gr.ofs L[q] s < room then (if ∀ p ∈ L.drop (q + 1), 0 ≤ o + Gr.ofs p s ∧ o + Gr.ofs p s < room then (ac ++ [o + Gr.ofs L[q] s]) ++ (L.drop (q + 1)).map (fun p => o + Gr.ofs p s) else []) else []) := by
      rw [hd]
      simp only [List.mem_cons, forall_eq_or_imp, List.map_cons, List.append_assoc, List.singleton_append]
      by_cases g1 : 0 ≤ o + Gr.ofs L[q] s ∧ o + Gr.ofs L[q] s < room
      · simp only [g1, and_self, true_and, if_true]
      · simp only [g1, false_and, if_false]
    rw [e]
    refine Ev.step (fun k => ?_) this
    rw [gradineref22_Cells.l1, if_pos (by omega), if_pos (by omega), if_pos (by omega), rdl L q hq]
    rfl
theorem cells_0 (o : Int) (d s : List Int) (room : Int) (hl : s.length = d.length) (h6 : d.length ≤ 6) (hr0 : 1 ≤ room) (hr : room ≤ 64) (R : List Int)
    (h : Gr.sok room d s = true → Ev (fun k => (gradineref20_All.f k d).bind fun t => gradineref22_Cells.l1 k room t [] (t.length : Int) 0 o d s) R) : ∀ i, i ≤ d.length → (Gr.sok room (d.drop i) (s.drop i) = Gr.sok room d s) →
    Ev (fun k => gradineref22_Cells.l0 k room (d.length : Int) (i : Int) o d s) (if Gr.sok room d s = true then R else []) := by
  apply down
  · intro e
    rw [List.drop_length, ← hl, List.drop_length] at e
    have e : Gr.sok room d s = true := by rw [← e]; rfl
    rw [if_pos e]
    refine Ev.step (fun k => ?_) (h e)
    rw [gradineref22_Cells.l0, if_neg (by omega)]
  · intro i hi ih e
    rw [dropc d i hi, dropc s i (by omega)] at e
    simp only [Gr.sok] at e
    have hwr : wrap64 (-room) = -room := w64 (by omega) (by omega)
    by_cases e1 : rd d (i : Int) > 1
    · rw [decide_eq_false (by omega), Bool.false_or] at e
      by_cases e2 : rd s (i : Int) ≥ room
      · rw [decide_eq_false (show ¬ rd s (i : Int) < room by omega), Bool.and_false, Bool.false_and] at e
        rw [← e, if_neg (by simp)]
        refine Ev.step (fun k => ?_) (Ev.now _)
        rw [gradineref22_Cells.l0, if_pos (by omega), if_pos (by omega), if_pos (by omega), if_pos e1, if_pos (by omega), if_pos e2]
      · by_cases e3 : rd s (i : Int) ≤ -room
        · rw [decide_eq_false (show ¬ -room < rd s (i : Int) by omega), Bool.false_and, Bool.false_and] at e
          rw [← e, if_neg (by simp)]
          refine Ev.step (fun k => ?_) (Ev.now _)
          rw [gradineref22_Cells.l0, if_pos (by omega), if_pos (by omega), if_pos (by omega), if_pos e1, if_pos (by omega), if_neg e2, hwr, if_pos e3]
        · rw [decide_eq_true (show -room < rd s (i : Int) by omega), decide_eq_true (show rd s (i : Int) < room by omega), Bool.true_and, Bool.true_and] at e
          refine Ev.step (fun k => ?_) (ih e)
          rw [gradineref22_Cells.l0, if_pos (by omega), if_pos (by omega), if_pos (by omega), if_pos e1, if_pos (by omega), if_neg e2, hwr, if_neg e3, nx i _ hi (by omega)]
    · rw [decide_eq_true (by omega), Bool.true_or, Bool.true_and] at e
      refine Ev.step (fun k => ?_) (ih e)
      rw [gradineref22_Cells.l0, if_pos (by omega), if_pos (by omega), if_pos (by omega), if_neg e1, nx i _ hi (by omega)]
theorem cells_vok (o : Int) (d s : List Int) (room : Int) (hv : Gr.vok o d s room) : Ev (fun k => (gradineref20_All.f k d).bind fun t => gradineref22_Cells.l1 k room t [] (t.length : Int) 0 o d s) (Gr.cls o d s room) := by
  obtain ⟨v1, v2, v3, v4, v5, v6⟩ := hv
  refine Ev.bind (ref_all d) ?_
  have hlen := Gr.alls_length d
  have := (Gr.cnt_ok v1).2.2
  have := cells_1 o v4 (by omega) d s room (Gr.alls d) (by omega) (fun p hp => fit_of v1 v2 v6 v3 ((Gr.mem_alls v1).1 hp)) 0 (by omega) [] (by simp)
  rw [List.drop_zero, List.nil_append] at this
  have e : Gr.cls o d s room = if ∀ p ∈ Gr.alls d, 0 ≤ o + Gr.ofs p s ∧ o + Gr.ofs p s < room then (Gr.alls d).map (fun p => o + Gr.ofs p s) else [] := by
    unfold Gr.cls
    simp only [Gr.rgt_iff ⟨v1, v2, v3, v4, v5, v6⟩]
  rw [e]
  exact this
theorem ref_cells (o : Int) (d s : List Int) (room : Int) : Ev (fun k => gradineref22_Cells.f k o d s room) (Gr.cls o d s room) := by
  have no : ¬ Gr.vok o d s room → Gr.cls o d s room = [] := fun h => Gr.cls_none (fun hh => h (Gr.rgt_ok hh).1)
  have stop : ¬ Gr.vok o d s room → Ev (fun k => gradineref22_Cells.j0 k room true o d s) (Gr.cls o d s room) := fun h => by
    rw [no h]
    refine Ev.step (fun k => ?_) (Ev.now _)
    rw [gradineref22_Cells.j0, if_pos rfl]
  refine Ev.congr (fun k => by rw [gradineref22_Cells.f]) (Ev.bind (ref_check d) ?_)
  by_cases h1 : Gr.chk d = 0
  · simp only [if_pos h1]
    by_cases h2 : (s.length : Int) = (d.length : Int)
    · simp only [if_pos h2]
      by_cases h3 : room > 64
      · simp only [if_pos h3]; exact stop (fun hv => by have := hv.2.2.1; omega)
      · simp only [if_neg h3]
        by_cases h4 : o < 0
        · simp only [if_pos h4]; exact stop (fun hv => by have := hv.2.2.2.1; omega)
        · simp only [if_neg h4]
          by_cases h5 : o ≥ room
          · rw [decide_eq_true h5]; exact stop (fun hv => by have := hv.2.2.2.2.1; omega)
          · rw [decide_eq_false h5]
            have key := cells_0 o d s room (by omega) (Gr.chk_ok h1).1 (by omega) (by omega) (Gr.cls o d s room) (fun hs => cells_vok o d s room ⟨h1, by omega, by omega, by omega, by omega, hs⟩) 0 (by omega) (by simp)
            have e : (if Gr.sok room d s = true then Gr.cls o d s room else []) = Gr.cls o d s room := by
              split
              · rfl
              · rename_i hs; exact (no (fun hv => hs hv.2.2.2.2.2)).symm
            rw [e] at key
            refine Ev.step (fun k => ?_) key
            rw [gradineref22_Cells.j0, if_neg (by simp)]; rfl
    · simp only [if_neg h2]; exact stop (fun hv => by have := hv.2.1; omega)
  · simp only [if_neg h1]; exact stop (fun hv => h1 hv.1)
theorem ref_right (o : Int) (d s : List Int) (room : Int) : Ev (fun k => gradineref22_Right.f k o d s room) (Gr.rgt o d s room) := by
  have := Ev.bind (f := fun k (t : List Int) => some (decide ((t.length : Int) > 0))) (ref_cells o d s room) (Ev.now _)
  have e : decide (((Gr.cls o d s room).length : Int) > 0) = Gr.rgt o d s room := by
    have := Gr.cls_pos o d s room
    rcases hb : Gr.rgt o d s room with _ | _
    · rw [hb] at this; exact decide_eq_false (fun h => by have := this.1 (by omega); cases this)
    · rw [hb] at this; exact decide_eq_true (by have := this.2 rfl; omega)
  rw [e] at this
  exact Ev.congr (fun k => by rw [gradineref22_Right.f]) this
theorem rws_drop {d s : List Int} (h : Gr.rws d s = true) : ∀ i, Gr.rws (d.drop i) (s.drop i) = true := by
  intro i
  induction i generalizing d s with
  | zero => simpa using h
  | succ i ih =>
    cases d with
    | nil => simp [Gr.rws]
    | cons x d =>
      cases s with
      | nil => simp; cases d.drop i <;> rfl
      | cons t s =>
        simp only [Gr.rws, Bool.and_eq_true] at h
        simpa using ih h.1
theorem vrow_l (o : Int) (d s : List Int) (hok : Gr.chk d = 0) (hl : s.length = d.length) : ∀ i, i ≤ d.length → Gr.rws (d.drop i) (s.drop i) = true →
    Ev (fun k => view_Row.l0 k (Gr.prod (d.drop i)) ((i : Int) - 1) o d s) (Gr.rws d s) := by
  obtain ⟨h6, h1, h2⟩ := Gr.chk_ok hok
  intro i
  induction i with
  | zero =>
    intro _ h
    rw [List.drop_zero, List.drop_zero] at h
    rw [h]
    refine Ev.step (fun k => ?_) (Ev.now _)
    rw [view_Row.l0, if_neg (by omega)]
  | succ i ih =>
    intro hi h
    have hlt : i < d.length := by omega
    have hd : d.drop i = rd d (i : Int) :: d.drop (i + 1) := dropc d i hlt
    have hs : s.drop i = rd s (i : Int) :: s.drop (i + 1) := dropc s i (by omega)
    have hx : 1 ≤ rd d (i : Int) := by rw [rdg d i hlt]; exact h1 _ (List.getElem_mem hlt)
    have hx2 : rd d (i : Int) ≤ 64 := by rw [rdg d i hlt]; exact Gr.ok_le hok _ (List.getElem_mem hlt)
    have hp := Gr.prod_pos (d.drop (i + 1)) (fun y hy => h1 y (List.mem_of_mem_drop hy))
    have hpi := (Gr.chk_ok (Gr.ok_drop hok i)).2.2
    have hpe : Gr.prod (d.drop i) = rd d (i : Int) * Gr.prod (d.drop (i + 1)) := by rw [hd]; rfl
    rw [hpe] at ih hpi
    have hw : wrap64 (Gr.prod (d.drop (i + 1)) * rd d (i : Int)) = rd d (i : Int) * Gr.prod (d.drop (i + 1)) := by
      have : 0 ≤ rd d (i : Int) * Gr.prod (d.drop (i + 1)) := Int.mul_nonneg (by omega) (by omega)
      rw [Int.mul_comm, w64 (by omega) (by omega)]
    have hri : Gr.rws (d.drop i) (s.drop i) = (decide (rd d (i : Int) ≤ 1) || decide (rd s (i : Int) = Gr.prod (d.drop (i + 1)))) := by
      rw [hd, hs]; simp only [Gr.rws, h, Bool.true_and]
    by_cases e1 : rd d (i : Int) > 1
    · by_cases e2 : rd s (i : Int) = Gr.prod (d.drop (i + 1))
      · refine Ev.step (fun k => ?_) (ih (by omega) (by rw [hri, decide_eq_true e2, Bool.or_true]))
        rw [view_Row.l0, show (((i + 1 : Nat) : Int) - 1) = (i : Int) by omega, if_pos (by omega), if_pos (by omega), if_pos (by omega), if_pos e1, if_pos (by omega), if_pos e2, hw, w64 (by omega) (by omega)]
      · have er : Gr.rws d s = false := by
          rw [Bool.eq_false_iff]
          intro hr
          have := rws_drop hr i
          rw [hri, decide_eq_false e2, decide_eq_false (by omega)] at this
          cases this
        rw [er]
        refine Ev.step (fun k => ?_) (Ev.now _)
        rw [view_Row.l0, show (((i + 1 : Nat) : Int) - 1) = (i : Int) by omega, if_pos (by omega), if_pos (by omega), if_pos (by omega), if_pos e1, if_pos (by omega), if_neg e2]
    · refine Ev.step (fun k => ?_) (ih (by omega) (by rw [hri, decide_eq_true (by omega), Bool.true_or]))
      rw [view_Row.l0, show (((i + 1 : Nat) : Int) - 1) = (i : Int) by omega, if_pos (by omega), if_pos (by omega), if_pos (by omega), if_neg e1, hw, w64 (by omega) (by omega)]
theorem view_row (o : Int) (d s : List Int) : Ev (fun k => view_Row.f k o d s) (Gr.row (Gr.cls o d s 64)) := by
  refine Ev.congr (fun k => by rw [view_Row.f]) (Ev.bind (view_rgt64 o d s) ?_)
  by_cases h : Gr.rgt o d s 64 = true
  · rw [← Gr.rws_row h, h]
    simp only [if_true]
    have hv := (Gr.rgt_ok h).1
    have h6 := (Gr.chk_ok hv.1).1
    have := vrow_l o d s hv.1 hv.2.1 d.length (by omega) (by rw [List.drop_length]; rfl)
    rw [List.drop_length] at this
    refine Ev.congr (fun k => ?_) this
    rw [w64 (by omega) (by omega)]; rfl
  · rw [Gr.cls_none h, Bool.eq_false_iff.2 h]
    exact Ev.now _
theorem view_whole (d : List Int) (hn : d.length ≤ 100) : Ev (fun k => view_Whole.f k d) (if Gr.chk d = 0 then (0, d, Gr.stp d) else (0, [], [])) := by
  refine Ev.congr (fun k => by rw [view_Whole.f, shape_check, Option.bind_some]) ?_
  by_cases h : Gr.chk d = 0
  · rw [if_pos h]
    simp only [if_pos h]
    refine Ev.congr (fun k => by rw [slices_Clone_int_int.f, if_pos (by omega), Option.bind_some]) ?_
    refine Ev.bind (shape_steps d) ?_
    rw [show Gr.steps d = Gr.stp d by unfold Gr.steps; rw [if_pos h]]
    exact Ev.now _
  · rw [if_neg h]
    simp only [if_neg h]
    exact Ev.now _
theorem rd_at0 (l : List Int) (i : Int) : rd l i = Gr.at0 l i := rfl
theorem copied (o : Int) (d s : List Int) (hd : d.length ≤ 100) (hs : s.length ≤ 100) : view_copied.f o d s = some (o, d, s) := by
  rw [view_copied.f, slices_Clone_int_int.f, if_pos (by omega), Option.bind_some, slices_Clone_int_int.f, if_pos (by omega), Option.bind_some]
theorem steps_bound {o : Int} {d s : List Int} {r : Int} (h : Gr.rgt o d s r = true) (i : Nat) (hi : i < d.length) : 1 ≤ Gr.at0 d (i : Int) ∧ Gr.at0 d (i : Int) ≤ 64 ∧ (1 < Gr.at0 d (i : Int) → -64 < Gr.at0 s (i : Int) ∧ Gr.at0 s (i : Int) < 64) := by
  obtain ⟨v1, v2, v3, v4, v5, v6⟩ := (Gr.rgt_ok h).1
  have hx := (Gr.chk_ok v1).2.1 _ (List.getElem_mem hi)
  have hx2 := Gr.ok_le v1 _ (List.getElem_mem hi)
  have hg := Gr.sok_get v6 i hi (by omega)
  rw [Gr.at0_get d i hi, Gr.at0_get s i (by omega)]
  exact ⟨hx, hx2, fun hlt => by rcases hg with hg | hg <;> omega⟩
theorem view_flip (o : Int) (d s : List Int) (a : Int) : Ev (fun k => view_Flip.f k o d s a) (Gr.flp o d s a) := by
  refine Ev.congr (fun k => by rw [view_Flip.f]) (Ev.bind (view_rgt64 o d s) ?_)
  unfold Gr.flp
  by_cases h : Gr.rgt o d s 64 = true
  · rw [h]
    simp only [if_true]
    obtain ⟨v1, v2, v3, v4, v5, v6⟩ := (Gr.rgt_ok h).1
    have h6 := (Gr.chk_ok v1).1
    by_cases h0 : a < 0
    · rw [if_pos (.inl h0)]
      simp only [if_pos h0]
      refine Ev.step (fun k => ?_) (Ev.now _)
      rw [view_Flip.j0, if_pos rfl]
    · simp only [if_neg h0]
      by_cases h1 : a ≥ (d.length : Int)
      · rw [decide_eq_true h1, if_pos (.inr h1)]
        refine Ev.step (fun k => ?_) (Ev.now _)
        rw [view_Flip.j0, if_pos rfl]
      · rw [decide_eq_false h1, if_neg (by omega)]
        obtain ⟨i, rfl⟩ := Int.eq_ofNat_of_zero_le (show 0 ≤ a by omega)
        obtain ⟨b1, b2, b3⟩ := steps_bound h i (by omega)
        refine Ev.step (f := fun k => some _) (fun k => ?_) (Ev.now _)
        rw [view_Flip.j0, if_neg (by simp), copied o d s (by omega) (by omega), Option.bind_some, if_pos (by omega), if_pos (by omega), rd_at0, rd_at0]
        by_cases h2 : 1 < Gr.at0 d (i : Int)
        · obtain ⟨c1, c2⟩ := b3 h2
          obtain ⟨m1, m2⟩ := mul_bound (a := Gr.at0 d (i : Int) - 1) (t := Gr.at0 s (i : Int)) (by omega) (by omega) (.inr ⟨c1, c2⟩)
          rw [if_pos h2, if_pos h2, if_pos (by omega), if_pos (by simp only; omega), w64 (x := Gr.at0 d (i : Int) - 1) (by omega) (by omega), w64 (x := (Gr.at0 d (i : Int) - 1) * Gr.at0 s (i : Int)) (by omega) (by omega), w64 (by omega) (by omega), w64 (by omega) (by omega)]
        · rw [if_neg h2, if_neg h2]
  · rw [Bool.eq_false_iff.2 h]
    exact Ev.now _
theorem permute_l (o : Int) (d s dims axes : List Int) (hl : axes.length ≤ 1000000000) (hr : ∀ a ∈ axes, 0 ≤ a ∧ a < (s.length : Int)) : ∀ i, i ≤ axes.length → ∀ ac : List Int, ac.length ≤ i →
    Ev (fun k => view_Permute.l0 k dims ac axes (axes.length : Int) (i : Int) o d s) (o, dims, ac ++ Gr.prm s (axes.drop i), 0) := by
  apply down
  · intro ac _
    rw [List.drop_length]
    simp only [Gr.prm, List.map_nil, List.append_nil]
    refine Ev.step (fun k => ?_) (Ev.now _)
    rw [view_Permute.l0, if_neg (by omega)]
  · intro i hi ih ac hac
    have hx := hr _ (List.getElem_mem hi)
    rw [← rdg axes i hi] at hx
    have := ih (ac ++ [rd s (rd axes (i : Int))]) (by simp; omega)
    rw [List.append_assoc] at this
    rw [dropc axes i hi]
    refine Ev.step (fun k => ?_) this
    rw [view_Permute.l0, if_pos (by omega), if_pos (by omega), if_pos (by omega), if_pos hx.1, if_pos hx.2, if_pos (by omega), nx i _ hi hl]
theorem view_permute (o : Int) (d s axes : List Int) (hl : axes.length ≤ 1000000000) : Ev (fun k => view_Permute.f k o d s axes) (Gr.pmt o d s axes) := by
  refine Ev.congr (fun k => by rw [view_Permute.f]) (Ev.bind (view_rgt64 o d s) ?_)
  unfold Gr.pmt
  by_cases h : Gr.rgt o d s 64 = true
  · rw [h]
    simp only [if_true]
    have v2 := (Gr.rgt_ok h).1.2.1
    refine Ev.bind (shape_perm d axes hl) ?_
    by_cases h2 : (Gr.perm d axes).2 = 0
    · obtain ⟨p1, p2, p3, p4, p5⟩ := Gr.perm_ok h2
      simp only [if_pos h2, p5]
      exact permute_l o d s (Gr.prm d axes) axes hl (fun a ha => by have := p2.range a ha; omega) 0 (by omega) [] (by simp)
    · simp only [if_neg h2]
      exact Ev.now _
  · rw [Bool.eq_false_iff.2 h]
    exact Ev.now _
theorem view_reshape (o : Int) (d s to_ : List Int) : Ev (fun k => view_Reshape.f k o d s to_) (Gr.vrs o d s to_) := by
  refine Ev.congr (fun k => by rw [view_Reshape.f]) (Ev.bind (view_rgt64 o d s) ?_)
  unfold Gr.vrs
  by_cases h : Gr.rgt o d s 64 = true
  · rw [h]
    simp only [if_true, shape_check, Option.bind_some]
    by_cases h1 : Gr.chk to_ = 0
    · simp only [if_pos h1]
      refine Ev.bind (shape_count to_) (Ev.bind (shape_count d) ?_)
      by_cases h2 : Gr.cnt to_ = Gr.cnt d
      · simp only [if_pos h2]
        refine Ev.bind (view_row o d s) ?_
        by_cases h3 : Gr.row (Gr.cls o d s 64) = true
        · rw [h3]
          simp only [if_true]
          refine Ev.congr (fun k => by rw [slices_Clone_int_int.f, if_pos (by have := (Gr.chk_ok h1).1; omega), Option.bind_some]) ?_
          refine Ev.bind (shape_steps to_) ?_
          rw [show Gr.steps to_ = Gr.stp to_ by unfold Gr.steps; rw [if_pos h1]]
          exact Ev.now _
        · rw [Bool.eq_false_iff.2 h3]
          exact Ev.now _
      · simp only [if_neg h2]; exact Ev.now _
    · simp only [if_neg h1]; exact Ev.now _
  · rw [Bool.eq_false_iff.2 h]; exact Ev.now _
theorem slice_3 (o : Int) (d s : List Int) (i0 : Nat) (start count : Int) (hd : d.length ≤ 100) (hi0 : i0 < d.length) (hs : s.length = d.length) (s1 : List Int) (hs1 : s1.length = d.length) (hw : 0 < start → wrap64 (o + wrap64 (start * Gr.at0 s (i0 : Int))) = o + start * Gr.at0 s (i0 : Int)) (k : Nat) :
    view_Slice.j3 (k + 1) (i0 : Int) start count o d s o d s1 = some (if 0 < start then o + start * Gr.at0 s (i0 : Int) else o, d.set i0 count, if count = 1 then s1.set i0 0 else s1, 0) := by
  rw [view_Slice.j3]
  by_cases h : 0 < start
  · rw [if_pos h, if_pos h, if_pos (by omega), if_pos (by omega), if_pos (by omega), Option.bind_some, Int.toNat_natCast, rd_at0, hw h]
    by_cases h1 : count = 1
    · rw [if_pos h1, if_pos h1, if_pos (by omega)]
    · rw [if_neg h1, if_neg h1]
  · rw [if_neg (by omega), if_neg h, if_pos (by omega), if_pos (by omega), Option.bind_some, Int.toNat_natCast]
    by_cases h1 : count = 1
    · rw [if_pos h1, if_pos h1, if_pos (by omega)]
    · rw [if_neg h1, if_neg h1]
theorem view_slice (o : Int) (d s : List Int) (a start count step : Int) : Ev (fun k => view_Slice.f k o d s a start count step) (Gr.vsl o d s a start count step) := by
  refine Ev.congr (fun k => by rw [view_Slice.f]) (Ev.bind (view_rgt64 o d s) ?_)
  unfold Gr.vsl
  by_cases h : Gr.rgt o d s 64 = true
  · rw [h]
    simp only [if_true]
    obtain ⟨v1, v2, v3, v4, v5, v6⟩ := (Gr.rgt_ok h).1
    have h6 := (Gr.chk_ok v1).1
    by_cases h0 : a < 0
    · rw [if_pos (.inl h0)]
      simp only [if_pos h0]
      refine Ev.step (fun k => ?_) (Ev.now _)
      rw [view_Slice.j0, if_pos rfl]
    · simp only [if_neg h0]
      by_cases h1 : a ≥ (d.length : Int)
      · rw [decide_eq_true h1, if_pos (.inr h1)]
        refine Ev.step (fun k => ?_) (Ev.now _)
        rw [view_Slice.j0, if_pos rfl]
      · rw [decide_eq_false h1, if_neg (show ¬ (a < 0 ∨ (d.length : Int) ≤ a) by omega)]
        obtain ⟨i0, rfl⟩ := Int.eq_ofNat_of_zero_le (show 0 ≤ a by omega)
        obtain ⟨b1, b2, b3⟩ := steps_bound h i0 (by omega)
        rw [Int.toNat_natCast]
        have hrd : rd d (i0 : Int) = Gr.at0 d (i0 : Int) := rfl
        have stop : Ev (fun k => view_Slice.j1 k (i0 : Int) start count step (Gr.at0 d (i0 : Int)) true o d s) (0, [], [], 11) := by
          refine Ev.step (fun k => ?_) (Ev.now _)
          rw [view_Slice.j1, if_pos rfl]
        by_cases c1 : start < 0
        · rw [if_pos (.inl c1)]
          refine Ev.step (fun k => ?_) stop
          rw [view_Slice.j0, if_neg (by simp), if_pos (by omega), if_pos (by omega), if_pos c1, hrd]
        · by_cases c2 : start ≥ Gr.at0 d (i0 : Int)
          · rw [if_pos (.inr (.inl c2))]
            refine Ev.step (fun k => ?_) stop
            rw [view_Slice.j0, if_neg (by simp), if_pos (by omega), if_pos (by omega), if_neg c1, hrd, if_pos c2]
          · by_cases c3 : count < 1
            · rw [if_pos (.inr (.inr (.inl c3)))]
              refine Ev.step (fun k => ?_) stop
              rw [view_Slice.j0, if_neg (by simp), if_pos (by omega), if_pos (by omega), if_neg c1, hrd, if_neg c2, if_pos c3]
            · by_cases c4 : count > Gr.at0 d (i0 : Int)
              · rw [if_pos (.inr (.inr (.inr (.inl c4))))]
                refine Ev.step (fun k => ?_) stop
                rw [view_Slice.j0, if_neg (by simp), if_pos (by omega), if_pos (by omega), if_neg c1, hrd, if_neg c2, if_neg c3, decide_eq_true c4]
              · have hw : 0 < start → wrap64 (o + wrap64 (start * Gr.at0 s (i0 : Int))) = o + start * Gr.at0 s (i0 : Int) := fun hp => by
                  obtain ⟨e1, e2⟩ := b3 (by omega)
                  obtain ⟨m1, m2⟩ := mul_bound (a := start) (t := Gr.at0 s (i0 : Int)) (by omega) (by omega) (.inr ⟨e1, e2⟩)
                  rw [w64 (x := start * Gr.at0 s (i0 : Int)) (by omega) (by omega), w64 (by omega) (by omega)]
                refine Ev.step (f := fun k => view_Slice.j1 k (i0 : Int) start count step (Gr.at0 d (i0 : Int)) false o d s) (fun k => ?_) ?_
                · rw [view_Slice.j0, if_neg (by simp), if_pos (by omega), if_pos (by omega), if_neg c1, hrd, if_neg c2, if_neg c3, decide_eq_false c4]
                · by_cases c5 : count > 1
                  · obtain ⟨e1, e2⟩ := b3 (by omega)
                    have stop2 : Ev (fun k => view_Slice.j2 k (i0 : Int) start count step (Gr.at0 d (i0 : Int)) true o d s o d s) (0, [], [], 11) := by
                      refine Ev.step (fun k => ?_) (Ev.now _)
                      rw [view_Slice.j2, if_pos rfl]
                    have hnw : wrap64 (-(Gr.at0 d (i0 : Int))) = -(Gr.at0 d (i0 : Int)) := w64 (by omega) (by omega)
                    by_cases c6 : step = 0
                    · rw [if_pos (by omega)]
                      refine Ev.step (fun k => ?_) stop2
                      rw [view_Slice.j1, if_neg (by simp), copied o d s (by omega) (by omega), Option.bind_some, if_pos c5, if_pos c6]
                    · by_cases c7 : step ≥ Gr.at0 d (i0 : Int)
                      · rw [if_pos (by omega)]
                        refine Ev.step (fun k => ?_) stop2
                        rw [view_Slice.j1, if_neg (by simp), copied o d s (by omega) (by omega), Option.bind_some, if_pos c5, if_neg c6, if_pos c7]
                      · by_cases c8 : step ≤ -(Gr.at0 d (i0 : Int))
                        · rw [if_pos (by omega)]
                          refine Ev.step (fun k => ?_) stop2
                          rw [view_Slice.j1, if_neg (by simp), copied o d s (by omega) (by omega), Option.bind_some, if_pos c5, if_neg c6, if_neg c7, hnw, decide_eq_true c8]
                        · obtain ⟨m1, m2⟩ := mul_bound (a := count - 1) (t := step) (by omega) (by omega) (.inr ⟨by omega, by omega⟩)
                          have hlw : wrap64 (start + wrap64 (wrap64 (count - 1) * step)) = start + (count - 1) * step := by
                            rw [w64 (x := count - 1) (by omega) (by omega), w64 (x := (count - 1) * step) (by omega) (by omega), w64 (by omega) (by omega)]
                          refine Ev.step (f := fun k => view_Slice.j2 k (i0 : Int) start count step (Gr.at0 d (i0 : Int)) false o d s o d s) (fun k => ?_) ?_
                          · rw [view_Slice.j1, if_neg (by simp), copied o d s (by omega) (by omega), Option.bind_some, if_pos c5, if_neg c6, if_neg c7, hnw, decide_eq_false c8]
                          · by_cases c9 : start + (count - 1) * step < 0
                            · rw [if_pos (by omega)]
                              refine Ev.step (fun k => ?_) (Ev.now _)
                              rw [view_Slice.j2, if_neg (by simp), hlw, if_pos c9]
                            · by_cases c10 : start + (count - 1) * step ≥ Gr.at0 d (i0 : Int)
                              · rw [if_pos (by omega)]
                                refine Ev.step (fun k => ?_) (Ev.now _)
                                rw [view_Slice.j2, if_neg (by simp), hlw, if_neg c9, if_pos c10]
                              · rw [if_neg (by omega), if_neg (show ¬ count = 1 by omega)]
                                have e3 : -4096 ≤ Gr.at0 s (i0 : Int) * step ∧ Gr.at0 s (i0 : Int) * step ≤ 4096 := by
                                  rcases Int.lt_or_le (Gr.at0 s (i0 : Int)) 0 with hneg | hpos
                                  · obtain ⟨q1, q2⟩ := mul_bound (a := -(Gr.at0 s (i0 : Int))) (t := step) (by omega) (by omega) (.inr ⟨by omega, by omega⟩)
                                    rw [Int.neg_mul] at q1 q2; omega
                                  · obtain ⟨q1, q2⟩ := mul_bound (a := Gr.at0 s (i0 : Int)) (t := step) (by omega) (by omega) (.inr ⟨by omega, by omega⟩)
                                    omega
                                refine Ev.step (f := fun k => view_Slice.j3 k (i0 : Int) start count o d s o d (s.set i0 (Gr.at0 s (i0 : Int) * step))) (fun k => ?_) (Ev.step (f := fun _ => some _) (fun k => ?_) (Ev.now _))
                                · rw [view_Slice.j2, if_neg (by simp), hlw, if_neg c9, if_neg c10, if_pos (by omega), if_pos (by omega), if_pos (by omega), Int.toNat_natCast, rd_at0, w64 (by omega) (by omega)]
                                · rw [slice_3 o d s i0 start count (by omega) (by omega) v2 _ (by simp; omega) hw k, if_neg (show ¬ count = 1 by omega)]
                  · have hc1 : count = 1 := by omega
                    rw [if_neg (by omega), if_pos hc1]
                    refine Ev.step (f := fun k => view_Slice.j3 k (i0 : Int) start count o d s o d s) (fun k => ?_) (Ev.step (f := fun _ => some _) (fun k => ?_) (Ev.now _))
                    · rw [view_Slice.j1, if_neg (by simp), copied o d s (by omega) (by omega), Option.bind_some, if_neg c5]
                    · rw [slice_3 o d s i0 start count (by omega) (by omega) v2 s v2 hw k, if_pos hc1]
  · rw [Bool.eq_false_iff.2 h]; exact Ev.now _
theorem expand_l (o : Int) (d s to_ : List Int) (hl : s.length = d.length) (hd : d.length ≤ 6) (ht : to_.length ≤ 6) (hdt : d.length ≤ to_.length) : ∀ i, i ≤ d.length →
    Ev (fun k => view_Expand.l0 k ((to_.length : Int) - (d.length : Int)) d (d.length : Int) (i : Int) o d s o to_ (Gr.est to_.length d s i)) (o, to_, List.replicate (to_.length - d.length) 0 ++ Gr.exs d s, 0) := by
  have he := Gr.exs_length d s hl
  apply down
  · refine Ev.step (fun k => ?_) (Ev.now _)
    rw [view_Expand.l0, if_neg (by omega)]
    unfold Gr.est
    rw [Nat.sub_self, List.take_of_length_le (by omega)]
    simp
  · intro i hi ih
    have hel := Gr.est_length to_.length d s hl hdt i (by omega)
    by_cases h1 : 1 < Gr.at0 d (i : Int)
    · rw [Gr.est_succ _ _ _ hl i hi, Gr.exs_at d s hl i hi, if_pos h1] at ih
      refine Ev.step (fun k => ?_) ih
      have hw : wrap64 ((to_.length : Int) - (d.length : Int) + (i : Int)) = ((to_.length - d.length + i : Nat) : Int) := by rw [w64 (by omega) (by omega)]; omega
      rw [view_Expand.l0, if_pos (by omega), if_pos (by omega), if_pos (by omega), rd_at0, rd_at0, if_pos h1, if_pos (by omega), hw, if_pos (by omega), if_pos (by omega), Int.toNat_natCast, nx i _ hi (by omega)]
    · rw [Gr.est_keep _ _ _ hl i hi h1] at ih
      refine Ev.step (fun k => ?_) ih
      rw [view_Expand.l0, if_pos (by omega), if_pos (by omega), if_pos (by omega), rd_at0, if_neg h1, nx i _ hi (by omega)]
theorem view_expand (o : Int) (d s to_ : List Int) : Ev (fun k => view_Expand.f k o d s to_) (Gr.vex o d s to_) := by
  refine Ev.congr (fun k => by rw [view_Expand.f]) (Ev.bind (view_rgt64 o d s) ?_)
  unfold Gr.vex
  by_cases h : Gr.rgt o d s 64 = true
  · rw [h]
    simp only [if_true, shape_check, Option.bind_some]
    by_cases h1 : Gr.chk to_ = 0
    · simp only [if_pos h1]
      refine Ev.bind (fits d to_) ?_
      by_cases h2 : Gr.fts d to_ = true
      · rw [h2]
        simp only [if_true]
        obtain ⟨f1, f2, f3, f4⟩ := (Gr.fts_iff d to_).1 h2
        have ht := (Gr.chk_ok h1).1
        have hd := (Gr.chk_ok f1).1
        have := expand_l o d s to_ (Gr.rgt_ok h).1.2.1 hd ht f3 0 (by omega)
        have e0 : Gr.est to_.length d s 0 = List.replicate to_.length 0 := by
          unfold Gr.est
          rw [List.take_zero, List.nil_append, List.replicate_append_replicate]
          congr 1; omega
        rw [e0] at this
        refine Ev.congr (fun k => ?_) this
        rw [slices_Clone_int_int.f, if_pos (by omega), Option.bind_some, if_pos (by omega), if_pos (by omega), Int.toNat_natCast, w64 (by omega) (by omega)]; rfl
      · rw [Bool.eq_false_iff.2 h2]; exact Ev.now _
    · simp only [if_neg h1]; exact Ev.now _
  · rw [Bool.eq_false_iff.2 h]; exact Ev.now _
theorem move_view (o : Int) (d s : List Int) (op n a b c p q r t : Int) (kp : Bool) (l : List Int) (hl : l.length ≤ 1000) (h33 : 33 ≤ op) (h37 : op ≤ 37) : Ev (fun k => move_View.f k op n a b c p q r t kp l o d s) (Gr.sen o d s op n a b c l) := by
  unfold Gr.sen
  by_cases h1 : op = 33
  · rw [if_pos h1]
    exact Ev.congr (fun k => by rw [move_View.f, if_pos h1]) (Ev.bind (view_reshape o d s l) (Ev.now _))
  · by_cases h2 : op = 34
    · rw [if_neg h1, if_pos h2]
      exact Ev.congr (fun k => by rw [move_View.f, if_neg h1, if_pos h2]) (Ev.bind (view_permute o d s l (by omega)) (Ev.now _))
    · by_cases h3 : op = 35
      · rw [if_neg h1, if_neg h2, if_pos h3]
        exact Ev.congr (fun k => by rw [move_View.f, if_neg h1, if_neg h2, if_pos h3]) (Ev.bind (view_slice o d s n a b c) (Ev.now _))
      · by_cases h4 : op = 36
        · rw [if_neg h1, if_neg h2, if_neg h3, if_pos h4]
          exact Ev.congr (fun k => by rw [move_View.f, if_neg h1, if_neg h2, if_neg h3, if_pos h4]) (Ev.bind (view_expand o d s l) (Ev.now _))
        · rw [if_neg h1, if_neg h2, if_neg h3, if_neg h4]
          exact Ev.congr (fun k => by rw [move_View.f, if_neg h1, if_neg h2, if_neg h3, if_neg h4, if_pos (by omega)]) (Ev.bind (view_flip o d s n) (Ev.now _))
theorem joined_w (x y : List Int) (n : Int) (hx : Gr.chk x = 0) (hy : Gr.chk y = 0) (h0 : 0 ≤ n) (h1 : n < (x.length : Int)) (hl : x.length = y.length) : wrap64 (rd x n + rd y n) = Gr.at0 x n + Gr.at0 y n := by
  obtain ⟨m, rfl⟩ := Int.eq_ofNat_of_zero_le h0
  have e1 := (Gr.chk_ok hx).2.1 x[m] (List.getElem_mem (by omega))
  have e2 := (Gr.chk_ok hy).2.1 y[m] (List.getElem_mem (by omega))
  have e3 := Gr.ok_le hx x[m] (List.getElem_mem (by omega))
  have e4 := Gr.ok_le hy y[m] (List.getElem_mem (by omega))
  rw [← at0_rd, ← at0_rd, Gr.at0_g29 x m (by omega), Gr.at0_g29 y m (by omega), w64 (by omega) (by omega)]
theorem joined_l (x y : List Int) (n : Int) (hx : Gr.chk x = 0) (hy : Gr.chk y = 0) (h0 : 0 ≤ n) (h1 : n < (x.length : Int)) (hl : x.length = y.length) : ∀ i, i ≤ x.length →
    Ev (fun k => move_joined.l0 k x y n x (x.length : Int) (i : Int)) (if Gr.jok n x y i = true then Gr.withd x n (Gr.at0 x n + Gr.at0 y n) else ([], 8)) := by
  have h6 := (Gr.chk_ok hx).1
  apply down
  · rw [if_pos (Gr.jok_end n x y)]
    refine Ev.step (fun k => by rw [move_joined.l0, if_neg (by omega), if_pos h0, if_pos h1, if_pos (by omega), joined_w x y n hx hy h0 h1 hl]) (Ev.bind (withp x n _) ?_)
    exact Ev.now _
  · intro i hi ih
    have e := Gr.jok_step n x y i hi
    by_cases g0 : (i : Int) = n
    · rw [decide_eq_true g0, Bool.true_or, Bool.true_and] at e
      rw [e]
      refine Ev.step (fun k => ?_) ih
      rw [move_joined.l0, if_pos (by omega), if_pos (by omega), if_pos (by omega), if_pos g0, nx i _ hi (by omega)]
    · rw [decide_eq_false g0, Bool.false_or] at e
      by_cases g1 : Gr.at0 x (i : Int) = Gr.at0 y (i : Int)
      · rw [decide_eq_true g1, Bool.true_and] at e
        rw [e]
        refine Ev.step (fun k => ?_) ih
        rw [move_joined.l0, if_pos (by omega), if_pos (by omega), if_pos (by omega), if_neg g0, if_pos (by omega), ← at0_rd, ← at0_rd, if_pos g1, nx i _ hi (by omega)]
      · rw [decide_eq_false g1, Bool.false_and] at e
        rw [e, if_neg (by simp)]
        refine Ev.step (fun k => ?_) (Ev.now _)
        rw [move_joined.l0, if_pos (by omega), if_pos (by omega), if_pos (by omega), if_neg g0, if_pos (by omega), ← at0_rd, ← at0_rd, if_neg g1]
theorem mjoined (x y : List Int) (n : Int) (hx : Gr.chk x = 0) (hy : Gr.chk y = 0) : Ev (fun k => move_joined.f k x y n) (Gr.joind x y n) := by
  unfold Gr.joind
  by_cases h0 : n < 0
  · rw [if_pos (.inl h0)]
    refine Ev.congr (fun k => by rw [move_joined.f, if_pos h0]) (Ev.step (fun k => ?_) (Ev.now _))
    rw [move_joined.j0, if_pos rfl]
  · by_cases h1 : (x.length : Int) ≤ n
    · rw [if_pos (.inr h1)]
      refine Ev.congr (fun k => by rw [move_joined.f, if_neg h0]) (Ev.step (fun k => ?_) (Ev.now _))
      rw [move_joined.j0, if_pos (decide_eq_true h1)]
    · rw [if_neg (by omega)]
      by_cases h2 : x.length = y.length
      · rw [if_pos h2]
        refine Ev.congr (fun k => by rw [move_joined.f, if_neg h0]) (Ev.step (fun k => ?_) (joined_l x y n hx hy (by omega) (by omega) h2 0 (by omega)))
        rw [move_joined.j0, if_neg (by simp; omega), if_pos (by omega)]; rfl
      · rw [if_neg h2]
        refine Ev.congr (fun k => by rw [move_joined.f, if_neg h0]) (Ev.step (fun k => ?_) (Ev.now _))
        rw [move_joined.j0, if_neg (by simp; omega), if_neg (by omega)]
theorem rd_L0 (l : List (List Int)) : rd_L1 l 0 = l.getD 0 [] := rfl
theorem rd_L1' (l : List (List Int)) : rd_L1 l 1 = l.getD 1 [] := rfl
theorem getD_mem (l : List (List Int)) (i : Nat) (h : i < l.length) : l.getD i [] ∈ l := by
  rw [List.getD_eq_getElem?_getD, List.getElem?_eq_getElem h]; exact List.getElem_mem h
theorem mdims_l (op n a b c p q r t : Int) (kp : Bool) (l : List Int) (dims : List (List Int)) (hn : dims.length ≤ 1000) (hl : l.length ≤ 1000) (h33 : 33 ≤ op) (h40 : op ≤ 40) (hd : (dims.length : Int) = (if op = 40 then 2 else 1)) : ∀ i, i ≤ dims.length → (∀ x ∈ dims.take i, Gr.chk x = 0) →
    Ev (fun k => move_Dims.l0 k op dims dims (dims.length : Int) (i : Int) n a b c p q r t kp l) (if Gr.fchk (dims.drop i) = 0 then
    (if op = 38 then Gr.takd (dims.getD 0 []) n l else if op = 39 then Gr.putd (dims.getD 0 []) n a l else if op = 40 then Gr.joind (dims.getD 0 []) (dims.getD 1 []) n else ((Gr.ses (dims.getD 0 []) op n a b c l).1, (Gr.ses (dims.getD 0 []) op n a b c l).2.2))
    else ([], Gr.fchk (dims.drop i))) := by
  apply down
  · intro hc
    rw [List.take_length] at hc
    rw [List.drop_length, if_pos (show Gr.fchk [] = 0 from rfl)]
    have hp : 0 < dims.length := by split at hd <;> omega
    have hc0 := hc _ (getD_mem dims 0 hp)
    by_cases h1 : op = 38
    · rw [if_pos h1]
      refine Ev.step (fun k => by rw [move_Dims.l0, if_neg (by omega), if_pos h1, if_pos (by omega), rd_L0]) (Ev.bind (mtaken _ n a b c p q r t kp l (by omega)) (Ev.now _))
    · rw [if_neg h1]
      by_cases h2 : op = 39
      · rw [if_pos h2]
        refine Ev.step (fun k => by rw [move_Dims.l0, if_neg (by omega), if_neg h1, if_pos h2, if_pos (by omega), rd_L0]) (Ev.bind (mput _ n a b c p q r t kp l (by omega)) (Ev.now _))
      · rw [if_neg h2]
        by_cases h3 : op = 40
        · rw [if_pos h3]
          rw [if_pos h3] at hd
          have hc1 := hc _ (getD_mem dims 1 (by omega))
          refine Ev.step (fun k => by rw [move_Dims.l0, if_neg (by omega), if_neg h1, if_neg h2, if_pos h3, if_pos (by omega), if_pos (by omega), rd_L0, rd_L1']) (Ev.bind (mjoined _ _ n hc0 hc1) (Ev.now _))
        · rw [if_neg h3]
          have h6 := (Gr.chk_ok hc0).1
          have hw := view_whole (dims.getD 0 []) (by omega)
          rw [if_pos hc0] at hw
          obtain ⟨s1, s2⟩ := Gr.sen_whole hc0 op n a b c l
          refine Ev.step (fun k => by rw [move_Dims.l0, if_neg (by omega), if_neg h1, if_neg h2, if_neg h3, if_pos (by omega), rd_L0]) (Ev.bind hw (Ev.bind (move_view 0 _ _ op n a b c p q r t kp l hl h33 (by omega)) ?_))
          rw [s1, s2]
          exact Ev.now _
  · intro i hi ih hc
    rw [List.drop_eq_getElem_cons hi]
    unfold Gr.fchk
    by_cases h : Gr.chk dims[i] = 0
    · rw [if_pos h]
      refine Ev.step (fun k => ?_) (ih (fun x hx => ?_))
      · rw [move_Dims.l0, if_pos (by omega), if_pos (by omega), if_pos (by omega), rdl dims i hi, shape_check, Option.bind_some, if_pos h, nx i _ hi (by omega)]
      · rw [List.take_succ_eq_append_getElem hi, List.mem_append, List.mem_singleton] at hx
        rcases hx with hx | rfl
        · exact hc x hx
        · exact h
    · rw [if_neg h, if_neg h]
      refine Ev.step (fun k => ?_) (Ev.now _)
      rw [move_Dims.l0, if_pos (by omega), if_pos (by omega), if_pos (by omega), rdl dims i hi, shape_check, Option.bind_some, if_neg h]
theorem mdims (op n a b c p q r t : Int) (kp : Bool) (l : List Int) (dims : List (List Int)) (hn : dims.length ≤ 1000) (hl : l.length ≤ 1000) : Ev (fun k => move_Dims.f k op n a b c p q r t kp l dims) (Gr.mvd op n a b c l dims) := by
  unfold Gr.mvd
  have j1 : Ev (fun k => move_Dims.j0 k op dims true n a b c p q r t kp l) (([] : List Int), (1 : Int)) := Ev.step (fun k => by rw [move_Dims.j0, if_pos rfl]) (Ev.now _)
  by_cases h1 : 33 ≤ op ∧ op ≤ 40
  · rw [if_pos h1]
    by_cases h2 : (dims.length : Int) = (if op = 40 then 2 else 1)
    · rw [if_pos h2]
      have hm := mdims_l op n a b c p q r t kp l dims hn hl h1.1 h1.2 h2 0 (by omega) (by simp)
      rw [List.drop_zero] at hm
      have j0 : Ev (fun k => move_Dims.j0 k op dims false n a b c p q r t kp l) _ := Ev.step (fun k => by rw [move_Dims.j0, if_neg (by simp)]; rfl) hm
      by_cases h3 : op = 40
      · rw [if_pos h3] at h2
        refine Ev.congr (fun k => ?_) j0
        rw [move_Dims.f, move_Is.f, if_pos (by omega), Option.bind_some, if_pos (by simp; omega), if_neg (by omega), if_pos h3, h2]; rfl
      · rw [if_neg h3] at h2
        refine Ev.congr (fun k => ?_) j0
        rw [move_Dims.f, move_Is.f, if_pos (by omega), Option.bind_some, if_pos (by simp; omega), if_pos (by omega), if_neg h3]
    · rw [if_neg h2]
      by_cases h3 : op = 40
      · rw [if_pos h3] at h2
        have e : ((dims.length : Int) != 2) = true := bne_iff_ne.2 h2
        refine Ev.congr (fun k => ?_) j1
        rw [move_Dims.f, move_Is.f, if_pos (by omega), Option.bind_some, if_pos (by simp; omega), if_pos h3, if_pos h3, e]; simp
      · rw [if_neg h3] at h2
        refine Ev.congr (fun k => ?_) j1
        rw [move_Dims.f, move_Is.f, if_pos (by omega), Option.bind_some, if_pos (by simp; omega), if_neg (by omega), if_neg h3]
  · rw [if_neg h1]
    refine Ev.congr (fun k => ?_) (Ev.now _)
    rw [move_Dims.f, move_Is.f]
    by_cases g : op ≥ 33
    · rw [if_pos g, Option.bind_some, if_neg (by simp; omega)]
    · rw [if_neg g, Option.bind_some, if_neg (by simp)]
theorem nodup_inj {l : List Int} (h : l.Nodup) (i j : Nat) (hi : i < l.length) (hj : j < l.length) (e : l[i] = l[j]) : i = j := by
  have hp := List.pairwise_iff_getElem.1 h
  rcases Nat.lt_trichotomy i j with c | c | c
  · exact absurd e (hp i j hi hj c)
  · exact c
  · exact absurd e.symm (hp j i hj hi c)
theorem seen_l (d l p : List Int) (hp : Gr.Pm l) (hl : l.length = d.length) (hpl : p.length = l.length) (h6 : l.length ≤ 6) : ∀ i, i ≤ l.length → ∀ out : List Int, out.length = d.length → (∀ m : Nat, m < i → m < l.length → Gr.at0 out (Gr.at0 l (m : Int)) = Gr.at0 p (m : Int)) →
    Ev (fun k => move_seen.l0 k d p out l (l.length : Int) (i : Int)) ((Gr.plc d (Gr.prm p (Gr.bk l))).1, p) := by
  apply down
  · intro out ho hm
    have e : out = Gr.prm p (Gr.bk l) := by
      apply Gr.at0_ext
      · rw [Gr.prm_length, Gr.bk_length]; omega
      · intro j hj
        obtain ⟨m, hm1, hm2, hm3⟩ := Gr.pm_back hp j (by omega)
        rw [Gr.at0_prm _ _ _ (by rw [Gr.bk_length]; omega), hm3, ← hm2, hm m hm1 hm1]
    rw [e]
    refine Ev.step (fun k => by rw [move_seen.l0, if_neg (by omega)]) (Ev.bind (walk_place _ _) (Ev.now _))
  · intro i hi ih out ho hm
    have hr := hp.range l[i] (List.getElem_mem hi)
    have e1 : rd l (i : Int) = l[i] := by rw [← at0_rd, Gr.at0_get l i hi]
    refine Ev.step (fun k => ?_) (ih (out.set l[i].toNat (rd p (i : Int))) (by simp; omega) ?_)
    · rw [move_seen.l0, if_pos (by omega), if_pos (by omega), if_pos (by omega), if_pos (by omega), e1, if_pos (by omega), if_pos (by omega), nx i _ hi (by omega)]
    · intro m hmi hml
      obtain ⟨x, hx⟩ := Int.eq_ofNat_of_zero_le hr.1
      rw [Gr.at0_get l m hml]
      by_cases c : m = i
      · subst c
        rw [hx, Int.toNat_natCast, Gr.at0_set_same _ _ (by omega)]; rfl
      · have hne : l[m] ≠ l[i] := fun h => c (nodup_inj hp.nodup m i hml hi h)
        have hr2 := hp.range l[m] (List.getElem_mem hml)
        obtain ⟨y, hy⟩ := Int.eq_ofNat_of_zero_le hr2.1
        rw [hx, Int.toNat_natCast, hy, Gr.at0_set_other _ _ _ (by omega), ← hy, ← Gr.at0_get l m hml, hm m (by omega) hml]
theorem mseen (d : List Int) (hc : Gr.chk d = 0) (op n a b c p q r t : Int) (kp : Bool) (l : List Int) (hl : l.length ≤ 1000) (h33 : 33 ≤ op) (h37 : op ≤ 37) (h : (Gr.ses d op n a b c l).2.2 = 0) (i : Int) (h0 : 0 ≤ i) (h1 : i < Gr.cnt (Gr.ses d op n a b c l).1) :
    ∃ L, Ev (fun k => move_seen.f k op n a b c p q r t kp l d (Gr.ses d op n a b c l).1 (Gr.dig (Gr.ses d op n a b c l).1 i) i) (Gr.at0 (Gr.ses d op n a b c l).2.1 i, L) := by
  have d6 := (Gr.chk_ok hc).1
  by_cases e1 : op = 33
  · have e : Gr.ses d op n a b c l = Gr.rsp d l := by unfold Gr.ses; rw [if_pos e1]
    rw [e] at h h1 ⊢
    obtain ⟨w1, w2, w3⟩ := Gr.rsp_ok h
    rw [w3] at h1 ⊢
    simp only at h1 ⊢
    rw [Gr.at0_map_range _ _ _ h0 (by omega), Int.toNat_of_nonneg h0]
    exact ⟨_, Ev.congr (fun k => by rw [move_seen.f, if_neg (by omega), if_neg (by omega), if_neg (by omega), if_neg (by omega)]) (Ev.now _)⟩
  · by_cases e2 : op = 34
    · have e : Gr.ses d op n a b c l = Gr.rpm d l := by unfold Gr.ses; rw [if_neg e1, if_pos e2]
      rw [e] at h h1 ⊢
      obtain ⟨w1, w2⟩ := Gr.rpm_ok h
      obtain ⟨p1, p2, p3, p4, p5⟩ := Gr.perm_ok w1
      rw [w2] at h1 ⊢
      simp only at h1 ⊢
      have hi := Gr.inb_dig (Gr.prm d l) (Gr.chk_ok p4).2.1 i
      have hpl := Gr.inb_length hi
      rw [Gr.prm_length] at hpl
      rw [Gr.nums_at i h0 h1, ← Gr.plc_in hc (Gr.inb_prm p2 d _ p3.symm hi)]
      refine ⟨Gr.dig (Gr.prm d l) i, Ev.congr (fun k => by rw [move_seen.f, if_pos e2, if_pos (by omega), if_pos (by omega)]) ?_⟩
      exact seen_l d l _ p2 p3 hpl (by omega) 0 (by omega) _ (by simp) (fun m hm => absurd hm (by omega))
    · by_cases e3 : op = 35
      · have e : Gr.ses d op n a b c l = Gr.rsl d n a b c := by unfold Gr.ses; rw [if_neg e1, if_neg e2, if_pos e3]
        rw [e] at h h1 ⊢
        obtain ⟨r1, r2, r3, r4, r5, r6, r7⟩ := Gr.rsl_ok h
        obtain ⟨s1, s2, s3, s4, s5⟩ := Gr.rsl_at h i h0 h1
        have hpl := Gr.inb_length s2
        rw [List.length_set] at hpl
        obtain ⟨j, rfl⟩ := Int.eq_ofNat_of_zero_le r1
        have hx := Gr.ok_le hc _ (List.getElem_mem (show j < d.length by omega))
        rw [← Gr.at0_get d j (by omega)] at hx
        rw [s1, ← Gr.plc_in hc s2]
        generalize hP : Gr.dig (Gr.rsl d (j : Int) a b c).1 i = P at s1 s2 s3 s4 s5 hpl ⊢
        have ew : wrap64 (a + wrap64 (rd P (j : Int) * c)) = a + Gr.at0 P (j : Int) * c := by
          rw [← at0_rd, w64 (x := Gr.at0 P (j : Int) * c) (by omega) (by omega), w64 (by omega) (by omega)]
        by_cases hb : b = 1
        · refine ⟨P.set (j : Int).toNat a, Ev.congr (fun k => by rw [move_seen.f, if_neg e2, if_pos e3, if_pos r1, if_pos (by omega), Option.bind_some, if_pos hb, Option.bind_some, List.set_set]) (Ev.bind (walk_place _ _) ?_)⟩
          rw [s3 hb, Int.zero_mul, Int.add_zero]
          exact Ev.now _
        · refine ⟨_, Ev.congr (fun k => by rw [move_seen.f, if_neg e2, if_pos e3, if_pos r1, if_pos (by omega), Option.bind_some, if_neg hb, ew]) (Ev.bind (walk_place _ _) (Ev.now _))⟩
      · by_cases e4 : op = 36
        · have e : Gr.ses d op n a b c l = Gr.rex d l := by unfold Gr.ses; rw [if_neg e1, if_neg e2, if_neg e3, if_pos e4]
          rw [e] at h h1 ⊢
          obtain ⟨w1, w2, w3⟩ := Gr.rex_ok h
          rw [w3] at h1 ⊢
          simp only at h1 ⊢
          obtain ⟨j, rfl⟩ := Int.eq_ofNat_of_zero_le h0
          have hj : j < (Gr.srcs d l).length := by have := Gr.srcs_length d l w2; omega
          rw [Gr.at0_get _ _ hj, Gr.srcs_get d l w2 j hj]
          refine ⟨Gr.dig l (j : Int), Ev.congr (fun k => by rw [move_seen.f, if_neg e2, if_neg e3, if_pos e4]) (Ev.bind (source d l (j : Int)) ?_)⟩
          rw [if_pos ⟨w2, h0, h1⟩]
          exact Ev.now _
        · have e : Gr.ses d op n a b c l = Gr.rfl_ d n := by unfold Gr.ses; rw [if_neg e1, if_neg e2, if_neg e3, if_neg e4]
          rw [e] at h h1 ⊢
          obtain ⟨r1, r2, r7⟩ := Gr.rfl_ok h
          obtain ⟨s1, s2, s3, s4⟩ := Gr.rfl_at h i h0 h1
          have hpl := Gr.inb_length s2
          rw [List.length_set] at hpl
          obtain ⟨j, rfl⟩ := Int.eq_ofNat_of_zero_le r1
          have hx := Gr.ok_le hc _ (List.getElem_mem (show j < d.length by omega))
          rw [← Gr.at0_get d j (by omega)] at hx
          rw [s1, ← Gr.plc_in hc s2]
          generalize hP : Gr.dig (Gr.rfl_ d (j : Int)).1 i = P at s1 s2 s3 s4 hpl ⊢
          have ew : wrap64 (wrap64 (rd d (j : Int) - 1) - rd P (j : Int)) = Gr.at0 d (j : Int) - 1 - Gr.at0 P (j : Int) := by
            rw [← at0_rd, ← at0_rd, w64 (x := Gr.at0 d (j : Int) - 1) (by omega) (by omega), w64 (by omega) (by omega)]
          exact ⟨_, Ev.congr (fun k => by rw [move_seen.f, if_neg e2, if_neg e3, if_neg e4, if_pos (by omega), if_pos r1, if_pos r2, if_pos (by omega), Option.bind_some, ew]) (Ev.bind (walk_place _ _) (Ev.now _))⟩
theorem mfrom (op n a b c p q r t : Int) (kp : Bool) (l : List Int) (dims : List (List Int)) (i : Int) (hn : dims.length ≤ 1000) (hl : l.length ≤ 1000) :
    Ev (fun k => move_From.f k op n a b c p q r t kp l dims i) (Gr.mff op n a b c l dims i) := by
  refine Ev.congr (fun k => by rw [move_From.f]) (Ev.bind (mdims op n a b c p q r t kp l dims hn hl) (Ev.bind (walk_at _ i) ?_))
  have jt : ∀ X Y, Ev (fun k => move_From.j0 k op dims i X Y true n a b c p q r t kp l) ((0 : Int), (0 : Int), false) := fun X Y => Ev.step (fun k => by rw [move_From.j0, if_pos rfl]) (Ev.now _)
  unfold Gr.mff
  by_cases h : (Gr.mvd op n a b c l dims).2 = 0
  · by_cases h2 : (Gr.att (Gr.mvd op n a b c l dims).1 i).2 = true
    · obtain ⟨b0, b1, hco, e, hp⟩ := att_ok h2
      obtain ⟨w1, w2, w3, w4, w5, w6⟩ := Gr.mvd_ok h
      refine Ev.congr (fun k => by rw [if_pos h, if_pos h2, e]) ?_
      by_cases h39 : op = 39
      · rw [if_neg (fun x => x.2.1 h39), beq_iff_eq.2 h39]
        exact jt _ _
      · rw [if_pos ⟨h, h39, b0, b1⟩, beq_eq_false_iff_ne.2 h39]
        dsimp only
        refine Ev.step (fun k => by rw [move_From.j0, if_neg (by simp)]) ?_
        have hc0 : Gr.chk (dims.getD 0 []) = 0 := Gr.fchk_all w4 _ (getD_mem dims 0 (by split at w3 <;> omega))
        have d6 := (Gr.chk_ok hc0).1
        by_cases h38 : op = 38
        · subst h38
          obtain ⟨t1, t2, t3, t4, t5⟩ := Gr.mvd_t h
          obtain ⟨u1, u2, u3, u4⟩ := Gr.rtk_at t1 (Gr.inr_mem t2) i b0 (by rw [← t3]; exact b1)
          obtain ⟨v1, v2, v3, v4, v5⟩ := Gr.rtk_ok2 t1
          rw [t4, t5, t3, Gr.at0_rep, u1, ← Gr.plc_in hc0 u2]
          have hpl := Gr.inb_length u2
          unfold Gr.tkf at hpl ⊢
          rw [List.length_set] at hpl
          obtain ⟨m, hm⟩ := Int.eq_ofNat_of_zero_le u3
          have hx := Gr.inr_mem t2 _ (List.getElem_mem (show m < l.length by omega))
          refine Ev.congr (fun k => by rw [if_pos rfl, if_pos v2, if_pos (by omega), ← at0_rd, if_pos u3, if_pos u4, if_pos (by simp at w3; omega), rd_L0, ← at0_rd]) (Ev.bind (walk_place _ _) (Ev.now _))
        · by_cases h40 : op = 40
          · subst h40
            obtain ⟨j1, j2, j3, j4⟩ := Gr.mvd_j h
            rw [if_pos rfl] at w3
            have hc1 : Gr.chk (dims.getD 1 []) = 0 := Gr.fchk_all w4 _ (getD_mem dims 1 (by omega))
            obtain ⟨x1, x2, x3, x4, x5⟩ := Gr.jn_in j1 (by rw [← j2]; exact hp)
            obtain ⟨y1, y2, y3, y4, y5, y6, y7⟩ := Gr.joind_ok j1
            rw [j3, j4, Gr.at0_alls _ _ b0 (by rw [← j2]; exact b1), Gr.at0_alls _ _ b0 (by rw [← j2]; exact b1), ← j2]
            generalize hP : Gr.dig (Gr.mvd 40 n a b c l dims).1 i = P at x1 x2 x3 x4 x5 ⊢
            obtain ⟨j, rfl⟩ := Int.eq_ofNat_of_zero_le y1
            have g0 := Gr.ok_le hc0 _ (List.getElem_mem (show j < (dims.getD 0 []).length by omega))
            have g1 := Gr.ok_le hc1 _ (List.getElem_mem (show j < (dims.getD 1 []).length by omega))
            rw [← Gr.at0_get _ j (by omega)] at g0 g1
            refine Ev.congr (fun k => by rw [if_neg (by omega), if_pos rfl, if_pos (by omega), if_pos y1, rd_L0, rd_L1', if_pos y2, if_pos (by omega), ← at0_rd, ← at0_rd]) ?_
            by_cases hlt : Gr.at0 P (j : Int) < Gr.at0 (dims.getD 0 []) (j : Int)
            · have e1 : Gr.jnw (dims.getD 0 []) (j : Int) P = 0 := by unfold Gr.jnw; rw [if_pos hlt]
              have e2 : Gr.jnf (dims.getD 0 []) (dims.getD 1 []) (j : Int) P = (Gr.plc (dims.getD 0 []) P).1 := by
                unfold Gr.jnf; rw [if_pos hlt, Gr.plc_in hc0 (x1 hlt)]; unfold Gr.plr Gr.ind; rw [decide_eq_true hc0, x1 hlt]; rfl
              rw [e1, e2]
              exact Ev.congr (fun k => by rw [if_neg (by omega)]) (Ev.bind (walk_place _ _) (Ev.now _))
            · have e1 : Gr.jnw (dims.getD 0 []) (j : Int) P = 1 := by unfold Gr.jnw; rw [if_neg hlt]
              have e2 : Gr.jnf (dims.getD 0 []) (dims.getD 1 []) (j : Int) P = (Gr.plc (dims.getD 1 []) (P.set (j : Int).toNat (Gr.at0 P (j : Int) - Gr.at0 (dims.getD 0 []) (j : Int)))).1 := by
                unfold Gr.jnf; rw [if_neg hlt, Gr.plc_in hc1 (x2 hlt)]; unfold Gr.plr Gr.ind; rw [decide_eq_true hc1, x2 hlt]; rfl
              rw [e1, e2]
              exact Ev.congr (fun k => by rw [if_pos (by omega), if_pos (by omega), w64 (by omega) (by omega)]) (Ev.bind (walk_place _ _) (Ev.now _))
          · obtain ⟨s1, s2, s3, s4⟩ := Gr.mvd_v h (by omega)
            rw [s2] at b1 ⊢
            rw [s3, s4, Gr.at0_rep]
            obtain ⟨L, hL⟩ := mseen (dims.getD 0 []) hc0 op n a b c p q r t kp l hl w1 (by omega) s1 i b0 b1
            refine Ev.congr (fun k => by rw [if_neg h38, if_neg h40, if_pos (by rw [if_neg h40] at w3; omega), rd_L0]) (Ev.bind hL (Ev.now _))
    · rw [if_neg (fun x => h2 (by unfold Gr.att; rw [if_pos ⟨x.2.2.1, x.2.2.2⟩]))]
      refine Ev.congr (fun k => by rw [if_pos h, if_neg h2]) (jt _ _)
  · rw [if_neg (fun x => h x.1)]
    exact Ev.congr (fun k => by rw [if_neg h]) (jt _ _)
end Go.Proofs.Ytcdiobcldhiemaa.S
namespace Go.Proofs.Ytcdiobcldhiemaa.Q
open Go.RowKit Go.Proofs.YtcdiobcldhiemaaW.PrintWords Go.Proofs.YtcdiobcldhiemaaW.PrintLast Go.Proofs.YtcdiobcldhiemaaW.PrintMore
attribute [local go_sem] max2_int min2_int max_two min_two max_three min_three max_four min_four
set_option linter.unusedVariables false
set_option linter.unusedSimpArgs false
theorem mv.drawn {w w' : World} (h : Drawn0 w w') : Below w.heap.size w w' := by
  obtain ⟨nd, rfl⟩ := h
  exact pw_below_drewN (Below.refl _ _) _
section
variable {P : Program} {ops : Array Oper} {o : Oper} {rest : List Oper} {a : Act} {Q : Exit → Act → World → Prop}
theorem mv.lit {W : World} (hgd : o.guard = none) {N : Tmp} (_hd : o.dst = some N) {u : Value} {t : TypeId} (hrun : (execOp a.eval o).run P W = .ok (.value (.slice (some ⟨W.heap.size, 0, none⟩) 1 1)) (W.alloc (.cells #[u] t (0, 0))))
    (h : ∀ g, g = W.heap.size → ∀ w1, w1.heap[g]? = some (.cells #[u] t (0, 0)) → Below W.heap.size W w1 → wpList P ops Q rest (a.put o.dst (.slice (some ⟨g, 0, none⟩) 1 1)) w1) : wpList P ops Q (o :: rest) a W :=
  Kd.event_run hgd hrun (h _ rfl _ (blk_new W _) (below_alloc (Below.refl _ _) _))
end
theorem mv.one {w : World} {g t c : Nat} {A : Option Addr} {x : List Int} (h : w.heap[g]? = some (.cells #[.slice A x.length c] t (0, 0))) (hc : x.length ≤ c) (hC : Kd.C (Kd.int .i64) w A x.length x) : Kd.C (Kd.slice 3 (Kd.int .i64)) w (some ⟨g, 0, none⟩) 1 [x] := by
  refine ⟨rfl, by omega, fun _ => ⟨_, rfl, fun j p hj => ?_⟩⟩
  cases j with
  | zero =>
    simp only [List.getElem?_cons_zero, Option.some.injEq] at hj
    subst hj
    refine ⟨[.slice A x.length c], rfl, ⟨A, c, rfl, hc, hC⟩, fun i u hu => ?_⟩
    cases i with
    | zero =>
      simp only [List.getElem?_cons_zero, Option.some.injEq] at hu
      subst hu
      exact (blk_cell h 0).trans rfl
    | succ i => simp at hu
  | succ j => simp at hj
section
variable {P : Program} {ops : Array Oper} {o : Oper} {rest : List Oper} {a : Act} {Q : Exit → Act → World → Prop}
theorem mv.lit2 {W : World} (hgd : o.guard = none) {N : Tmp} (_hd : o.dst = some N) {u v : Value} {t : TypeId} (hrun : (execOp a.eval o).run P W = .ok (.value (.slice (some ⟨W.heap.size, 0, none⟩) 2 2)) (W.alloc (.cells #[u, v] t (0, 0))))
    (h : ∀ g, g = W.heap.size → ∀ w1, w1.heap[g]? = some (.cells #[u, v] t (0, 0)) → Below W.heap.size W w1 → wpList P ops Q rest (a.put o.dst (.slice (some ⟨g, 0, none⟩) 2 2)) w1) : wpList P ops Q (o :: rest) a W :=
  Kd.event_run hgd hrun (h _ rfl _ (blk_new W _) (below_alloc (Below.refl _ _) _))
end
theorem mv.two {w : World} {g t c c' : Nat} {A B : Option Addr} {x y : List Int} (h : w.heap[g]? = some (.cells #[.slice A x.length c, .slice B y.length c'] t (0, 0))) (hc : x.length ≤ c) (hc' : y.length ≤ c') (hC : Kd.C (Kd.int .i64) w A x.length x) (hC' : Kd.C (Kd.int .i64) w B y.length y) : Kd.C (Kd.slice 3 (Kd.int .i64)) w (some ⟨g, 0, none⟩) 2 [x, y] := by
  refine ⟨rfl, by omega, fun _ => ⟨_, rfl, fun j p hj => ?_⟩⟩
  match j with
  | 0 =>
    simp only [List.getElem?_cons_zero, Option.some.injEq] at hj
    subst hj
    refine ⟨[.slice A x.length c], rfl, ⟨A, c, rfl, hc, hC⟩, fun i u hu => ?_⟩
    cases i with
    | zero =>
      simp only [List.getElem?_cons_zero, Option.some.injEq] at hu
      subst hu
      exact (blk_cell h 0).trans rfl
    | succ i => simp at hu
  | 1 =>
    simp only [List.getElem?_cons_succ, List.getElem?_cons_zero, Option.some.injEq] at hj
    subst hj
    refine ⟨[.slice B y.length c'], rfl, ⟨B, c', rfl, hc', hC'⟩, fun i u hu => ?_⟩
    cases i with
    | zero =>
      simp only [List.getElem?_cons_zero, Option.some.injEq] at hu
      subst hu
      exact (blk_cell h 1).trans rfl
    | succ i => simp at hu
  | j + 2 => simp at hj
theorem mv.dims (k : Nat) (op : Int) (a0 a1 a2 a3 a4 a5 a6 a7 : Int) (a8 : Bool) (A : Option Addr) (c : Nat) (l : List Int) (A1 : Option Addr) (c1 : Nat) (d : List Int) (r1 : List Int) (r2 : Int) (w : World) (g : Nat) (hr : Kd.C (Kd.int .i64) w A l.length l) (hc : l.length ≤ c) (hg : w.heap[g]? = some (.cells #[.slice A1 d.length c1] 22 (0, 0))) (hr1 : Kd.C (Kd.int .i64) w A1 d.length d) (hc1 : d.length ≤ c1) (h : move_Dims.f k op a0 a1 a2 a3 a4 a5 a6 a7 a8 l [d] = some (r1, r2)) :
  Calls Try.prog 10 #[.int .i64 op, .agg #[.int .i64 a0, .int .i64 a1, .int .i64 a2, .int .i64 a3, .int .i64 a4, .int .i64 a5, .int .i64 a6, .int .i64 a7, .bool a8, .slice A l.length c], .slice (some ⟨g, 0, none⟩) 1 1] w fun e w' => ∃ v0_ : Value, e = .returned (.tuple #[v0_, .int .i64 r2]) ∧ Kd.R (Kd.int .i64) 3 w' w.heap.size (fun _ => True) v0_ r1 ∧ Below w.heap.size w w' := move_Dims.calls k op a0 a1 a2 a3 a4 a5 a6 a7 a8 A c l (some ⟨g, 0, none⟩) 1 [d] r1 r2 w hr hc (mv.one hg hc1 hr1) (Nat.le_refl _) h
theorem mv.from_ (k : Nat) (op : Int) (a0 a1 a2 a3 a4 a5 a6 a7 : Int) (a8 : Bool) (A : Option Addr) (c : Nat) (l : List Int) (A1 : Option Addr) (c1 : Nat) (d : List Int) (i : Int) (r1 r2 : Int) (r3 : Bool) (w : World) (g : Nat) (hr : Kd.C (Kd.int .i64) w A l.length l) (hc : l.length ≤ c) (hg : w.heap[g]? = some (.cells #[.slice A1 d.length c1] 22 (0, 0))) (hr1 : Kd.C (Kd.int .i64) w A1 d.length d) (hc1 : d.length ≤ c1) (h : move_From.f k op a0 a1 a2 a3 a4 a5 a6 a7 a8 l [d] i = some (r1, r2, r3)) :
  Calls Try.prog 15 #[.int .i64 op, .agg #[.int .i64 a0, .int .i64 a1, .int .i64 a2, .int .i64 a3, .int .i64 a4, .int .i64 a5, .int .i64 a6, .int .i64 a7, .bool a8, .slice A l.length c], .slice (some ⟨g, 0, none⟩) 1 1, .int .i64 i] w fun e w' => e = .returned (.tuple #[.int .i64 r1, .int .i64 r2, .bool r3]) ∧ Below w.heap.size w w' := move_From.calls k op a0 a1 a2 a3 a4 a5 a6 a7 a8 A c l (some ⟨g, 0, none⟩) 1 [d] i r1 r2 r3 w hr hc (mv.one hg hc1 hr1) (Nat.le_refl _) h
theorem mv.many (k : Nat) (a0 a1 a2 a3 a4 a5 a6 a7 : Int) (a8 : Bool) (A : Option Addr) (c : Nat) (l : List Int) (Ad : Option Addr) (cd : Nat) (d : List Int) (As : Option Addr) (cs : Nat) (s : List Int) (r : Bool) (w : World) (g : Nat) (hr : Kd.C (Kd.int .i64) w A l.length l) (hc : l.length ≤ c) (hg : w.heap[g]? = some (.cells #[.slice Ad d.length cd, .slice As s.length cs] 22 (0, 0))) (hrd : Kd.C (Kd.int .i64) w Ad d.length d) (hcd : d.length ≤ cd) (hrs : Kd.C (Kd.int .i64) w As s.length s) (hcs : s.length ≤ cs) (h : gradinelaw29_many.f k a0 a1 a2 a3 a4 a5 a6 a7 a8 l [d, s] = some r) :
  Calls Try.prog 8 #[.agg #[.int .i64 a0, .int .i64 a1, .int .i64 a2, .int .i64 a3, .int .i64 a4, .int .i64 a5, .int .i64 a6, .int .i64 a7, .bool a8, .slice A l.length c], .slice (some ⟨g, 0, none⟩) 2 2] w fun e w' => e = .returned (.bool r) ∧ Below w.heap.size w w' := gradinelaw29_many.calls k a0 a1 a2 a3 a4 a5 a6 a7 a8 A c l (some ⟨g, 0, none⟩) 2 [d, s] r w hr hc (mv.two hg hcd hcs hrd hrs) (Nat.le_refl _) h
/-- Does each element come from where the view has its cell? -/
def mv.l0 (k : Nat) (op : Int) (a0 a1 a2 a3 a4 a5 a6 a7 : Int) (a8 : Bool) (l : List Int) (o : Int) (d s L : List Int) : Nat → Nat → Option Unit
  | 0, _ => some ()
  | q + 1, i => (move_From.f k op a0 a1 a2 a3 a4 a5 a6 a7 a8 l [d] (i : Int)).bind fun t => (view_At.f k o d s t.2.1).bind fun r => if t.2.2 = true ∧ r.2 = true ∧ r.1 = rd L (i : Int) then mv.l0 k op a0 a1 a2 a3 a4 a5 a6 a7 a8 l o d s L q (i + 1) else none
def mv.f (k : Nat) (op : Int) (a0 a1 a2 a3 a4 a5 a6 a7 : Int) (a8 : Bool) (l : List Int) (o : Int) (d s : List Int) : Option Bool :=
  (gradinelaw29_many.f k a0 a1 a2 a3 a4 a5 a6 a7 a8 l [d, s]).bind fun m => if m = true then some true else if op < 33 then some true else if 37 < op then some true else
  (gradineref22_Right.f k o d s 64).bind fun rt => if rt = false then some true else
  (move_View.f k op a0 a1 a2 a3 a4 a5 a6 a7 a8 l o d s).bind fun v => (move_Dims.f k op a0 a1 a2 a3 a4 a5 a6 a7 a8 l [d]).bind fun x =>
  if v.2.2.2 = 0 then ((gradineref22_Cells.f k v.1 v.2.1 v.2.2.1 64).bind fun L => if x.2 = 0 then ((gradineplain_Ints.f k x.1 v.2.1).bind fun q => if q = true then ((gradineref19_Count.f k x.1).bind fun cn => if (L.length : Int) = cn ∧ L.length ≤ 64 then ((mv.l0 k op a0 a1 a2 a3 a4 a5 a6 a7 a8 l o d s L L.length 0).bind fun _ => some true) else none) else none) else none)
  else (if x.2 = v.2.2.2 then some true else if v.2.2.2 = 19 then some true else none)
set_option maxHeartbeats 16000000 in
set_option maxRecDepth 100000 in
theorem mv.calls (k : Nat) (op : Int) (a0 a1 a2 a3 a4 a5 a6 a7 : Int) (a8 : Bool) (A : Option Addr) (c : Nat) (l : List Int) (o : Int) (Ad : Option Addr) (cd : Nat) (d : List Int) (As : Option Addr) (cs : Nat) (s : List Int) (w : World) (hr : Kd.C (Kd.int .i64) w A l.length l) (hc : l.length ≤ c) (hrd : Kd.C (Kd.int .i64) w Ad d.length d) (hcd : d.length ≤ cd) (hrs : Kd.C (Kd.int .i64) w As s.length s) (hcs : s.length ≤ cs) (h : mv.f k op a0 a1 a2 a3 a4 a5 a6 a7 a8 l o d s = some true) :
  Calls Try.prog 5 #[.int .i64 op, .agg #[.int .i64 a0, .int .i64 a1, .int .i64 a2, .int .i64 a3, .int .i64 a4, .int .i64 a5, .int .i64 a6, .int .i64 a7, .bool a8, .slice A l.length c], .agg #[.int .i64 o, .slice Ad d.length cd, .slice As s.length cs]] w fun e w' => e = .returned (.bool true) ∧ Below w.heap.size w w' := by
 have hu24 := Try.underlying24
 have hu44 := Try.underlying44
 have HR := aM hr
 have HC := aM hc
 have HD := aM hrd
 have HDc := aM hcd
 have HS := aM hrs
 have HSc := aM hcs
 clear hr hc hrd hcd hrs hcs
 have HB := aM (Below.refl w.heap.size w)
 replace h := Option.bind_eq_some_iff.mp h
 obtain ⟨m, Em, H⟩ := h
 have Am := aM Em
 clear Em
 cases m with
 | true =>
  clear H
  go_enter Try.func5, Try.ntmps5
  go_wp2_with (first | ((with_reducible refine gate_dst (N := 4) rfl ?_); refine box_event ?hg (N := 4) ?hd (cs := #[.int .i64 a0, .int .i64 a1, .int .i64 a2, .int .i64 a3, .int .i64 a4, .int .i64 a5, .int .i64 a6, .int .i64 a7, .bool a8, .slice A l.length c]) (t := 24) ?hr ?_; (case hd => rfl); (case hg => rfl); (case hr => first | (go_simp; done) | (go_simp; rfl)); intro g hg w101 hbox hb; have BK := aM hbox; have GE := gE (w := w) hg (qB HB); replace HB := bS (qB HB) hb; clear hb hbox hg) | ((with_reducible refine gate_dst (N := 5) rfl ?_); refine box_event ?hg (N := 5) ?hd (cs := #[.int .i64 o, .slice Ad d.length cd, .slice As s.length cs]) (t := 44) ?hr ?_; (case hd => rfl); (case hg => rfl); (case hr => first | (go_simp; done) | (go_simp; rfl)); intro g1 hg w102 hbox hb; have BV := aM hbox; have GE1 := gE (w := w) hg (qB1 HB GE); replace HB := bS (qB1 HB GE) hb; replace BK := bK BK hb; clear hb hbox hg; obtain ⟨hcz3_0, hcz3_1, hcz3_2, hcz3_3, hcz3_4, hcz3_5, hcz3_6, hcz3_7, hcz3_8, hcz3_9, hfz3_0, hfz3_1, hfz3_2, hfz3_3, hfz3_4, hfz3_5, hfz3_6, hfz3_7, hfz3_8, hfz3_9⟩ := blk10 BK.out; obtain ⟨hcz4_0, hcz4_1, hcz4_2, hfz4_0, hfz4_1, hfz4_2⟩ := blk3 BV.out) | ((with_reducible refine gate_dst (N := 23) rfl ?_); refine mv.lit2 ?hg (N := 23) ?hd (u := .slice Ad d.length cd) (v := .slice As s.length cs) (t := 22) ?hr ?_; (case hd => rfl); (case hg => rfl); (case hr => first | (go_simp; done) | (go_simp; rfl)); intro gm hg w105 hbox hb; have Lgm := aM hbox; clear hbox hg; replace BK := bK BK hb; replace BV := bK BV hb; replace HB := bS (qB2 HB GE GE1) hb; clear hb; obtain ⟨hcz6_0, hcz6_1, hcz6_2, hcz6_3, hcz6_4, hcz6_5, hcz6_6, hcz6_7, hcz6_8, hcz6_9, hfz6_0, hfz6_1, hfz6_2, hfz6_3, hfz6_4, hfz6_5, hfz6_6, hfz6_7, hfz6_8, hfz6_9⟩ := blk10 BK.out; obtain ⟨hcz7_0, hcz7_1, hcz7_2, hfz7_0, hfz7_1, hfz7_2⟩ := blk3 BV.out) | ((with_reducible refine gate_callee (f := 8) rfl ?_); refine goesL_ (some 24) rfl rfl Try.func8 (by kernel_rfl) rfl #[.agg #[.int .i64 a0, .int .i64 a1, .int .i64 a2, .int .i64 a3, .int .i64 a4, .int .i64 a5, .int .i64 a6, .int .i64 a7, .bool a8, .slice A l.length c], .slice (some ⟨gm, 0, none⟩) 2 2] rfl pA ?_; (with_reducible refine (mv.many k a0 a1 a2 a3 a4 a5 a6 a7 a8 A c l Ad cd d As cs s true _ gm ?s1 ?s2 ?s3 ?s4 ?s5 ?s6 ?s7 Am.out).mono ?_); (case s1 => exact sC HR HB); (case s2 => exact HC.out); (case s3 => exact Lgm.out); (case s4 => exact sC HD HB); (case s5 => exact HDc.out); (case s6 => exact sC HS HB); (case s7 => exact HSc.out); rintro e w108 ⟨rfl, hb⟩; refine ⟨_, rfl, ?_⟩; replace BK := bK BK hb; replace BV := bK BV hb; replace HB := bS (qB2 HB GE GE1) hb; clear hb; obtain ⟨hcz9_0, hcz9_1, hcz9_2, hcz9_3, hcz9_4, hcz9_5, hcz9_6, hcz9_7, hcz9_8, hcz9_9, hfz9_0, hfz9_1, hfz9_2, hfz9_3, hfz9_4, hfz9_5, hfz9_6, hfz9_7, hfz9_8, hfz9_9⟩ := blk10 BK.out; obtain ⟨hcz10_0, hcz10_1, hcz10_2, hfz10_0, hfz10_1, hfz10_2⟩ := blk3 BV.out) | ((with_reducible refine gate_callee (f := 9) rfl ?_); refine goesL_ (some 38) rfl rfl Try.func9 (by kernel_rfl) rfl #[] rfl pA ?_; (with_reducible refine (gradinelaw29_same.calls true _ rfl).mono ?_); skip; rintro e w114 ⟨rfl, hb⟩; refine ⟨_, rfl, ?_⟩; replace HB := bS (qB2 HB GE GE1) hb; clear hb))
  go_ret
  exact ⟨pE, HB.out⟩
 | false =>
  rw [if_neg (by simp)] at H
  by_cases h33 : op < 33
  · clear H
    have d27 : decide (op < 33) = true := decide_eq_true h33
    go_enter Try.func5, Try.ntmps5
    go_wp2_with (first | ((with_reducible refine gate_dst (N := 4) rfl ?_); refine box_event ?hg (N := 4) ?hd (cs := #[.int .i64 a0, .int .i64 a1, .int .i64 a2, .int .i64 a3, .int .i64 a4, .int .i64 a5, .int .i64 a6, .int .i64 a7, .bool a8, .slice A l.length c]) (t := 24) ?hr ?_; (case hd => rfl); (case hg => rfl); (case hr => first | (go_simp; done) | (go_simp; rfl)); intro g hg w101 hbox hb; have BK := aM hbox; have GE := gE (w := w) hg (qB HB); replace HB := bS (qB HB) hb; clear hb hbox hg) | ((with_reducible refine gate_dst (N := 5) rfl ?_); refine box_event ?hg (N := 5) ?hd (cs := #[.int .i64 o, .slice Ad d.length cd, .slice As s.length cs]) (t := 44) ?hr ?_; (case hd => rfl); (case hg => rfl); (case hr => first | (go_simp; done) | (go_simp; rfl)); intro g1 hg w102 hbox hb; have BV := aM hbox; have GE1 := gE (w := w) hg (qB1 HB GE); replace HB := bS (qB1 HB GE) hb; replace BK := bK BK hb; clear hb hbox hg; obtain ⟨hcz3_0, hcz3_1, hcz3_2, hcz3_3, hcz3_4, hcz3_5, hcz3_6, hcz3_7, hcz3_8, hcz3_9, hfz3_0, hfz3_1, hfz3_2, hfz3_3, hfz3_4, hfz3_5, hfz3_6, hfz3_7, hfz3_8, hfz3_9⟩ := blk10 BK.out; obtain ⟨hcz4_0, hcz4_1, hcz4_2, hfz4_0, hfz4_1, hfz4_2⟩ := blk3 BV.out) | ((with_reducible refine gate_dst (N := 23) rfl ?_); refine mv.lit2 ?hg (N := 23) ?hd (u := .slice Ad d.length cd) (v := .slice As s.length cs) (t := 22) ?hr ?_; (case hd => rfl); (case hg => rfl); (case hr => first | (go_simp; done) | (go_simp; rfl)); intro gm hg w105 hbox hb; have Lgm := aM hbox; clear hbox hg; replace BK := bK BK hb; replace BV := bK BV hb; replace HB := bS (qB2 HB GE GE1) hb; clear hb; obtain ⟨hcz6_0, hcz6_1, hcz6_2, hcz6_3, hcz6_4, hcz6_5, hcz6_6, hcz6_7, hcz6_8, hcz6_9, hfz6_0, hfz6_1, hfz6_2, hfz6_3, hfz6_4, hfz6_5, hfz6_6, hfz6_7, hfz6_8, hfz6_9⟩ := blk10 BK.out; obtain ⟨hcz7_0, hcz7_1, hcz7_2, hfz7_0, hfz7_1, hfz7_2⟩ := blk3 BV.out) | ((with_reducible refine gate_callee (f := 8) rfl ?_); refine goesL_ (some 24) rfl rfl Try.func8 (by kernel_rfl) rfl #[.agg #[.int .i64 a0, .int .i64 a1, .int .i64 a2, .int .i64 a3, .int .i64 a4, .int .i64 a5, .int .i64 a6, .int .i64 a7, .bool a8, .slice A l.length c], .slice (some ⟨gm, 0, none⟩) 2 2] rfl pA ?_; (with_reducible refine (mv.many k a0 a1 a2 a3 a4 a5 a6 a7 a8 A c l Ad cd d As cs s false _ gm ?s1 ?s2 ?s3 ?s4 ?s5 ?s6 ?s7 Am.out).mono ?_); (case s1 => exact sC HR HB); (case s2 => exact HC.out); (case s3 => exact Lgm.out); (case s4 => exact sC HD HB); (case s5 => exact HDc.out); (case s6 => exact sC HS HB); (case s7 => exact HSc.out); rintro e w111 ⟨rfl, hb⟩; refine ⟨_, rfl, ?_⟩; replace BK := bK BK hb; replace BV := bK BV hb; replace HB := bS (qB2 HB GE GE1) hb; clear hb; obtain ⟨hcz12_0, hcz12_1, hcz12_2, hcz12_3, hcz12_4, hcz12_5, hcz12_6, hcz12_7, hcz12_8, hcz12_9, hfz12_0, hfz12_1, hfz12_2, hfz12_3, hfz12_4, hfz12_5, hfz12_6, hfz12_7, hfz12_8, hfz12_9⟩ := blk10 BK.out; obtain ⟨hcz13_0, hcz13_1, hcz13_2, hfz13_0, hfz13_1, hfz13_2⟩ := blk3 BV.out) | ((with_reducible refine gate_callee (f := 9) rfl ?_); refine goesL_ (some 38) rfl rfl Try.func9 (by kernel_rfl) rfl #[] rfl pA ?_; (with_reducible refine (gradinelaw29_same.calls true _ rfl).mono ?_); skip; rintro e w114 ⟨rfl, hb⟩; refine ⟨_, rfl, ?_⟩; replace HB := bS (qB2 HB GE GE1) hb; clear hb))
    go_ret
    exact ⟨pE, HB.out⟩
  · rw [if_neg h33] at H
    have d27 : decide (op < 33) = false := decide_eq_false h33
    by_cases h37 : 37 < op
    · clear H
      have d31 : decide (op > 37) = true := decide_eq_true h37
      have d31' : decide (37 < op) = true := decide_eq_true h37
      go_enter Try.func5, Try.ntmps5
      go_wp2_with (first | ((with_reducible refine gate_dst (N := 4) rfl ?_); refine box_event ?hg (N := 4) ?hd (cs := #[.int .i64 a0, .int .i64 a1, .int .i64 a2, .int .i64 a3, .int .i64 a4, .int .i64 a5, .int .i64 a6, .int .i64 a7, .bool a8, .slice A l.length c]) (t := 24) ?hr ?_; (case hd => rfl); (case hg => rfl); (case hr => first | (go_simp; done) | (go_simp; rfl)); intro g hg w101 hbox hb; have BK := aM hbox; have GE := gE (w := w) hg (qB HB); replace HB := bS (qB HB) hb; clear hb hbox hg) | ((with_reducible refine gate_dst (N := 5) rfl ?_); refine box_event ?hg (N := 5) ?hd (cs := #[.int .i64 o, .slice Ad d.length cd, .slice As s.length cs]) (t := 44) ?hr ?_; (case hd => rfl); (case hg => rfl); (case hr => first | (go_simp; done) | (go_simp; rfl)); intro g1 hg w102 hbox hb; have BV := aM hbox; have GE1 := gE (w := w) hg (qB1 HB GE); replace HB := bS (qB1 HB GE) hb; replace BK := bK BK hb; clear hb hbox hg; obtain ⟨hcz3_0, hcz3_1, hcz3_2, hcz3_3, hcz3_4, hcz3_5, hcz3_6, hcz3_7, hcz3_8, hcz3_9, hfz3_0, hfz3_1, hfz3_2, hfz3_3, hfz3_4, hfz3_5, hfz3_6, hfz3_7, hfz3_8, hfz3_9⟩ := blk10 BK.out; obtain ⟨hcz4_0, hcz4_1, hcz4_2, hfz4_0, hfz4_1, hfz4_2⟩ := blk3 BV.out) | ((with_reducible refine gate_dst (N := 23) rfl ?_); refine mv.lit2 ?hg (N := 23) ?hd (u := .slice Ad d.length cd) (v := .slice As s.length cs) (t := 22) ?hr ?_; (case hd => rfl); (case hg => rfl); (case hr => first | (go_simp; done) | (go_simp; rfl)); intro gm hg w105 hbox hb; have Lgm := aM hbox; clear hbox hg; replace BK := bK BK hb; replace BV := bK BV hb; replace HB := bS (qB2 HB GE GE1) hb; clear hb; obtain ⟨hcz6_0, hcz6_1, hcz6_2, hcz6_3, hcz6_4, hcz6_5, hcz6_6, hcz6_7, hcz6_8, hcz6_9, hfz6_0, hfz6_1, hfz6_2, hfz6_3, hfz6_4, hfz6_5, hfz6_6, hfz6_7, hfz6_8, hfz6_9⟩ := blk10 BK.out; obtain ⟨hcz7_0, hcz7_1, hcz7_2, hfz7_0, hfz7_1, hfz7_2⟩ := blk3 BV.out) | ((with_reducible refine gate_callee (f := 8) rfl ?_); refine goesL_ (some 24) rfl rfl Try.func8 (by kernel_rfl) rfl #[.agg #[.int .i64 a0, .int .i64 a1, .int .i64 a2, .int .i64 a3, .int .i64 a4, .int .i64 a5, .int .i64 a6, .int .i64 a7, .bool a8, .slice A l.length c], .slice (some ⟨gm, 0, none⟩) 2 2] rfl pA ?_; (with_reducible refine (mv.many k a0 a1 a2 a3 a4 a5 a6 a7 a8 A c l Ad cd d As cs s false _ gm ?s1 ?s2 ?s3 ?s4 ?s5 ?s6 ?s7 Am.out).mono ?_); (case s1 => exact sC HR HB); (case s2 => exact HC.out); (case s3 => exact Lgm.out); (case s4 => exact sC HD HB); (case s5 => exact HDc.out); (case s6 => exact sC HS HB); (case s7 => exact HSc.out); rintro e w111 ⟨rfl, hb⟩; refine ⟨_, rfl, ?_⟩; replace BK := bK BK hb; replace BV := bK BV hb; replace HB := bS (qB2 HB GE GE1) hb; clear hb; obtain ⟨hcz12_0, hcz12_1, hcz12_2, hcz12_3, hcz12_4, hcz12_5, hcz12_6, hcz12_7, hcz12_8, hcz12_9, hfz12_0, hfz12_1, hfz12_2, hfz12_3, hfz12_4, hfz12_5, hfz12_6, hfz12_7, hfz12_8, hfz12_9⟩ := blk10 BK.out; obtain ⟨hcz13_0, hcz13_1, hcz13_2, hfz13_0, hfz13_1, hfz13_2⟩ := blk3 BV.out) | ((with_reducible refine gate_callee (f := 9) rfl ?_); refine goesL_ (some 38) rfl rfl Try.func9 (by kernel_rfl) rfl #[] rfl pA ?_; (with_reducible refine (gradinelaw29_same.calls true _ rfl).mono ?_); skip; rintro e w114 ⟨rfl, hb⟩; refine ⟨_, rfl, ?_⟩; replace HB := bS (qB2 HB GE GE1) hb; clear hb))
      go_ret
      exact ⟨pE, HB.out⟩
    · rw [if_neg h37] at H
      have d31 : decide (op > 37) = false := decide_eq_false h37
      have d31' : decide (37 < op) = false := decide_eq_false h37
      replace H := Option.bind_eq_some_iff.mp H
      obtain ⟨rt, Er, H⟩ := H
      have Ar := aM Er
      clear Er
      cases rt with
      | false =>
        clear H
        go_enter Try.func5, Try.ntmps5
        go_wp2_with (first | ((with_reducible refine gate_dst (N := 4) rfl ?_); refine box_event ?hg (N := 4) ?hd (cs := #[.int .i64 a0, .int .i64 a1, .int .i64 a2, .int .i64 a3, .int .i64 a4, .int .i64 a5, .int .i64 a6, .int .i64 a7, .bool a8, .slice A l.length c]) (t := 24) ?hr ?_; (case hd => rfl); (case hg => rfl); (case hr => first | (go_simp; done) | (go_simp; rfl)); intro g hg w101 hbox hb; have BK := aM hbox; have GE := gE (w := w) hg (qB HB); replace HB := bS (qB HB) hb; clear hb hbox hg) | ((with_reducible refine gate_dst (N := 5) rfl ?_); refine box_event ?hg (N := 5) ?hd (cs := #[.int .i64 o, .slice Ad d.length cd, .slice As s.length cs]) (t := 44) ?hr ?_; (case hd => rfl); (case hg => rfl); (case hr => first | (go_simp; done) | (go_simp; rfl)); intro g1 hg w102 hbox hb; have BV := aM hbox; have GE1 := gE (w := w) hg (qB1 HB GE); replace HB := bS (qB1 HB GE) hb; replace BK := bK BK hb; clear hb hbox hg; obtain ⟨hcz3_0, hcz3_1, hcz3_2, hcz3_3, hcz3_4, hcz3_5, hcz3_6, hcz3_7, hcz3_8, hcz3_9, hfz3_0, hfz3_1, hfz3_2, hfz3_3, hfz3_4, hfz3_5, hfz3_6, hfz3_7, hfz3_8, hfz3_9⟩ := blk10 BK.out; obtain ⟨hcz4_0, hcz4_1, hcz4_2, hfz4_0, hfz4_1, hfz4_2⟩ := blk3 BV.out) | ((with_reducible refine gate_dst (N := 23) rfl ?_); refine mv.lit2 ?hg (N := 23) ?hd (u := .slice Ad d.length cd) (v := .slice As s.length cs) (t := 22) ?hr ?_; (case hd => rfl); (case hg => rfl); (case hr => first | (go_simp; done) | (go_simp; rfl)); intro gm hg w105 hbox hb; have Lgm := aM hbox; clear hbox hg; replace BK := bK BK hb; replace BV := bK BV hb; replace HB := bS (qB2 HB GE GE1) hb; clear hb; obtain ⟨hcz6_0, hcz6_1, hcz6_2, hcz6_3, hcz6_4, hcz6_5, hcz6_6, hcz6_7, hcz6_8, hcz6_9, hfz6_0, hfz6_1, hfz6_2, hfz6_3, hfz6_4, hfz6_5, hfz6_6, hfz6_7, hfz6_8, hfz6_9⟩ := blk10 BK.out; obtain ⟨hcz7_0, hcz7_1, hcz7_2, hfz7_0, hfz7_1, hfz7_2⟩ := blk3 BV.out) | ((with_reducible refine gate_callee (f := 8) rfl ?_); refine goesL_ (some 24) rfl rfl Try.func8 (by kernel_rfl) rfl #[.agg #[.int .i64 a0, .int .i64 a1, .int .i64 a2, .int .i64 a3, .int .i64 a4, .int .i64 a5, .int .i64 a6, .int .i64 a7, .bool a8, .slice A l.length c], .slice (some ⟨gm, 0, none⟩) 2 2] rfl pA ?_; (with_reducible refine (mv.many k a0 a1 a2 a3 a4 a5 a6 a7 a8 A c l Ad cd d As cs s false _ gm ?s1 ?s2 ?s3 ?s4 ?s5 ?s6 ?s7 Am.out).mono ?_); (case s1 => exact sC HR HB); (case s2 => exact HC.out); (case s3 => exact Lgm.out); (case s4 => exact sC HD HB); (case s5 => exact HDc.out); (case s6 => exact sC HS HB); (case s7 => exact HSc.out); rintro e w111 ⟨rfl, hb⟩; refine ⟨_, rfl, ?_⟩; replace BK := bK BK hb; replace BV := bK BV hb; replace HB := bS (qB2 HB GE GE1) hb; clear hb; obtain ⟨hcz12_0, hcz12_1, hcz12_2, hcz12_3, hcz12_4, hcz12_5, hcz12_6, hcz12_7, hcz12_8, hcz12_9, hfz12_0, hfz12_1, hfz12_2, hfz12_3, hfz12_4, hfz12_5, hfz12_6, hfz12_7, hfz12_8, hfz12_9⟩ := blk10 BK.out; obtain ⟨hcz13_0, hcz13_1, hcz13_2, hfz13_0, hfz13_1, hfz13_2⟩ := blk3 BV.out) | (go_at_call 17; (with_reducible refine (gradineref22_Right.calls k o _ _ d _ _ s 64 false _ ?s1 ?s2 ?s3 ?s4 Ar.out).mono ?_); (case s1 => exact sC HD HB); (case s2 => exact HDc.out); (case s3 => exact sC HS HB); (case s4 => exact HSc.out); rintro e w115 ⟨rfl, hb⟩; replace BK := bK BK hb; replace BV := bK BV hb; replace HB := bS (qB2 HB GE GE1) hb; clear hb; obtain ⟨hcz16_0, hcz16_1, hcz16_2, hcz16_3, hcz16_4, hcz16_5, hcz16_6, hcz16_7, hcz16_8, hcz16_9, hfz16_0, hfz16_1, hfz16_2, hfz16_3, hfz16_4, hfz16_5, hfz16_6, hfz16_7, hfz16_8, hfz16_9⟩ := blk10 BK.out; obtain ⟨hcz17_0, hcz17_1, hcz17_2, hfz17_0, hfz17_1, hfz17_2⟩ := blk3 BV.out) | ((with_reducible refine gate_callee (f := 9) rfl ?_); refine goesL_ (some 38) rfl rfl Try.func9 (by kernel_rfl) rfl #[] rfl pA ?_; (with_reducible refine (gradinelaw29_same.calls true _ rfl).mono ?_); skip; rintro e w114 ⟨rfl, hb⟩; refine ⟨_, rfl, ?_⟩; replace HB := bS (qB2 HB GE GE1) hb; clear hb))
        go_ret
        exact ⟨pE, HB.out⟩
      | true =>
        rw [if_neg (by simp)] at H
        replace H := Option.bind_eq_some_iff.mp H
        obtain ⟨⟨wo, wd, ws, we⟩, Ev_, H⟩ := H
        have Av := aM Ev_
        clear Ev_
        replace H := Option.bind_eq_some_iff.mp H
        obtain ⟨⟨x, xe⟩, Ex, H⟩ := H
        have Ad_ := aM Ex
        clear Ex
        dsimp only at H
        by_cases he : we = 0
        · rw [if_pos he] at H
          subst he
          replace H := Option.bind_eq_some_iff.mp H
          obtain ⟨L, Ec, H⟩ := H
          have Ac := aM Ec
          clear Ec
          by_cases hxe : xe = 0
          rotate_left
          · rw [if_neg hxe] at H; cases H
          rw [if_pos hxe] at H
          subst hxe
          replace H := Option.bind_eq_some_iff.mp H
          obtain ⟨q, Ei, H⟩ := H
          have Ai := aM Ei
          clear Ei
          cases q with
          | false => rw [if_neg (by simp)] at H; cases H
          | true =>
            rw [if_pos rfl] at H
            replace H := Option.bind_eq_some_iff.mp H
            obtain ⟨cn, En, H⟩ := H
            have An := aM En
            clear En
            split at H
            rotate_left
            · cases H
            rename_i hl_
            obtain ⟨rfl, hl64⟩ := hl_
            have HL64 := aM hl64
            clear hl64
            replace H := Option.bind_eq_some_iff.mp H
            obtain ⟨_, E1, H⟩ := H
            have A1_ := aM E1
            clear E1 H
            have dl : ((L.length : Int) != (L.length : Int)) = false := bne_self_eq_false _
            have dl' : (L.length != L.length) = false := bne_self_eq_false _
            go_enter Try.func5, Try.ntmps5
            go_wp2_with (first | ((with_reducible refine gate_dst (N := 4) rfl ?_); refine box_event ?hg (N := 4) ?hd (cs := #[.int .i64 a0, .int .i64 a1, .int .i64 a2, .int .i64 a3, .int .i64 a4, .int .i64 a5, .int .i64 a6, .int .i64 a7, .bool a8, .slice A l.length c]) (t := 24) ?hr ?_; (case hd => rfl); (case hg => rfl); (case hr => first | (go_simp; done) | (go_simp; rfl)); intro g hg w101 hbox hb; have BK := aM hbox; have GE := gE (w := w) hg (qB HB); replace HB := bS (qB HB) hb; clear hb hbox hg) | ((with_reducible refine gate_dst (N := 5) rfl ?_); refine box_event ?hg (N := 5) ?hd (cs := #[.int .i64 o, .slice Ad d.length cd, .slice As s.length cs]) (t := 44) ?hr ?_; (case hd => rfl); (case hg => rfl); (case hr => first | (go_simp; done) | (go_simp; rfl)); intro g1 hg w102 hbox hb; have BV := aM hbox; have GE1 := gE (w := w) hg (qB1 HB GE); replace HB := bS (qB1 HB GE) hb; replace BK := bK BK hb; clear hb hbox hg; obtain ⟨hcz3_0, hcz3_1, hcz3_2, hcz3_3, hcz3_4, hcz3_5, hcz3_6, hcz3_7, hcz3_8, hcz3_9, hfz3_0, hfz3_1, hfz3_2, hfz3_3, hfz3_4, hfz3_5, hfz3_6, hfz3_7, hfz3_8, hfz3_9⟩ := blk10 BK.out; obtain ⟨hcz4_0, hcz4_1, hcz4_2, hfz4_0, hfz4_1, hfz4_2⟩ := blk3 BV.out) | ((with_reducible refine gate_dst (N := 23) rfl ?_); refine mv.lit2 ?hg (N := 23) ?hd (u := .slice Ad d.length cd) (v := .slice As s.length cs) (t := 22) ?hr ?_; (case hd => rfl); (case hg => rfl); (case hr => first | (go_simp; done) | (go_simp; rfl)); intro gm hg w105 hbox hb; have Lgm := aM hbox; clear hbox hg; replace BK := bK BK hb; replace BV := bK BV hb; replace HB := bS (qB2 HB GE GE1) hb; clear hb; obtain ⟨hcz6_0, hcz6_1, hcz6_2, hcz6_3, hcz6_4, hcz6_5, hcz6_6, hcz6_7, hcz6_8, hcz6_9, hfz6_0, hfz6_1, hfz6_2, hfz6_3, hfz6_4, hfz6_5, hfz6_6, hfz6_7, hfz6_8, hfz6_9⟩ := blk10 BK.out; obtain ⟨hcz7_0, hcz7_1, hcz7_2, hfz7_0, hfz7_1, hfz7_2⟩ := blk3 BV.out) | ((with_reducible refine gate_callee (f := 8) rfl ?_); refine goesL_ (some 24) rfl rfl Try.func8 (by kernel_rfl) rfl #[.agg #[.int .i64 a0, .int .i64 a1, .int .i64 a2, .int .i64 a3, .int .i64 a4, .int .i64 a5, .int .i64 a6, .int .i64 a7, .bool a8, .slice A l.length c], .slice (some ⟨gm, 0, none⟩) 2 2] rfl pA ?_; (with_reducible refine (mv.many k a0 a1 a2 a3 a4 a5 a6 a7 a8 A c l Ad cd d As cs s false _ gm ?s1 ?s2 ?s3 ?s4 ?s5 ?s6 ?s7 Am.out).mono ?_); (case s1 => exact sC HR HB); (case s2 => exact HC.out); (case s3 => exact Lgm.out); (case s4 => exact sC HD HB); (case s5 => exact HDc.out); (case s6 => exact sC HS HB); (case s7 => exact HSc.out); rintro e w111 ⟨rfl, hb⟩; refine ⟨_, rfl, ?_⟩; replace BK := bK BK hb; replace BV := bK BV hb; replace HB := bS (qB2 HB GE GE1) hb; clear hb; obtain ⟨hcz12_0, hcz12_1, hcz12_2, hcz12_3, hcz12_4, hcz12_5, hcz12_6, hcz12_7, hcz12_8, hcz12_9, hfz12_0, hfz12_1, hfz12_2, hfz12_3, hfz12_4, hfz12_5, hfz12_6, hfz12_7, hfz12_8, hfz12_9⟩ := blk10 BK.out; obtain ⟨hcz13_0, hcz13_1, hcz13_2, hfz13_0, hfz13_1, hfz13_2⟩ := blk3 BV.out) | (go_at_call 17; (with_reducible refine (gradineref22_Right.calls k o _ _ d _ _ s 64 true _ ?s1 ?s2 ?s3 ?s4 Ar.out).mono ?_); (case s1 => exact sC HD HB); (case s2 => exact HDc.out); (case s3 => exact sC HS HB); (case s4 => exact HSc.out); rintro e w118 ⟨rfl, hb⟩; replace BK := bK BK hb; replace BV := bK BV hb; replace HB := bS (qB2 HB GE GE1) hb; clear hb; obtain ⟨hcz19_0, hcz19_1, hcz19_2, hcz19_3, hcz19_4, hcz19_5, hcz19_6, hcz19_7, hcz19_8, hcz19_9, hfz19_0, hfz19_1, hfz19_2, hfz19_3, hfz19_4, hfz19_5, hfz19_6, hfz19_7, hfz19_8, hfz19_9⟩ := blk10 BK.out; obtain ⟨hcz20_0, hcz20_1, hcz20_2, hfz20_0, hfz20_1, hfz20_2⟩ := blk3 BV.out) | ((with_reducible refine gate_callee (f := 18) rfl ?_); refine goesL_ (some 43) rfl rfl Try.func18 (by kernel_rfl) rfl #[.int .i64 op, .agg #[.int .i64 a0, .int .i64 a1, .int .i64 a2, .int .i64 a3, .int .i64 a4, .int .i64 a5, .int .i64 a6, .int .i64 a7, .bool a8, .slice A l.length c], .agg #[.int .i64 o, .slice Ad d.length cd, .slice As s.length cs]] rfl pA ?_; (with_reducible refine (move_View.calls k op a0 a1 a2 a3 a4 a5 a6 a7 a8 A c l o _ _ d _ _ s wo wd ws _ _ ?s1 ?s2 ?s3 ?s4 ?s5 ?s6 Av.out).mono ?_); (case s1 => exact sC HR HB); (case s2 => exact HC.out); (case s3 => exact sC HD HB); (case s4 => exact HDc.out); (case s5 => exact sC HS HB); (case s6 => exact HSc.out); rintro e_ w121 ⟨v1, v2, rfl, ho1, ho2, hb⟩; refine ⟨_, rfl, ?_⟩; have HW1 := aM (Kd.R_lower ho1 (below_size (qB2 HB GE GE1))); have HW2 := aM (Kd.R_lower ho2 (below_size (qB2 HB GE GE1))); replace BK := bK BK hb; replace BV := bK BV hb; replace HB := bS (qB2 HB GE GE1) hb; clear hb; clear ho1 ho2; obtain ⟨Aw1, cw1, ew1⟩ := Kd.R_slice HW1.out; subst ew1; obtain ⟨Aw2, cw2, ew2⟩ := Kd.R_slice HW2.out; subst ew2; obtain ⟨hcz22_0, hcz22_1, hcz22_2, hcz22_3, hcz22_4, hcz22_5, hcz22_6, hcz22_7, hcz22_8, hcz22_9, hfz22_0, hfz22_1, hfz22_2, hfz22_3, hfz22_4, hfz22_5, hfz22_6, hfz22_7, hfz22_8, hfz22_9⟩ := blk10 BK.out; obtain ⟨hcz23_0, hcz23_1, hcz23_2, hfz23_0, hfz23_1, hfz23_2⟩ := blk3 BV.out) | ((with_reducible refine gate_dst (N := 7) rfl ?_); refine box_event ?hg (N := 7) ?hd (cs := #[.int .i64 0, .slice none 0 0, .slice none 0 0]) (t := 44) ?hr ?_; (case hd => rfl); (case hg => rfl); (case hr => first | (go_simp; done) | (go_simp; rfl)); intro g2 hg w124 hbox hb; have BW := aM hbox; have GE2 := gE (w := w) hg (qB2 HB GE GE1); have NL := nL hg BK; have NG := nG hg BK; have ML := nL hg BV; have MG := nG hg BV; clear hbox hg; replace HW1 := bR HW1 hb; replace HW2 := bR HW2 hb; replace BK := bK BK hb; replace BV := bK BV hb; replace HB := bS (qB2 HB GE GE1) hb; clear hb; have hnb2 := NG.out; have hnc2 := NL.out; have hnb3 := MG.out; have hnc3 := ML.out; obtain ⟨hcz25_0, hcz25_1, hcz25_2, hcz25_3, hcz25_4, hcz25_5, hcz25_6, hcz25_7, hcz25_8, hcz25_9, hfz25_0, hfz25_1, hfz25_2, hfz25_3, hfz25_4, hfz25_5, hfz25_6, hfz25_7, hfz25_8, hfz25_9⟩ := blk10 BK.out; obtain ⟨hcz26_0, hcz26_1, hcz26_2, hfz26_0, hfz26_1, hfz26_2⟩ := blk3 BV.out; obtain ⟨hcz27_0, hcz27_1, hcz27_2, hfz27_0, hfz27_1, hfz27_2⟩ := blk3 BW.out) | ((with_reducible refine gate_dst (N := 51) rfl ?_); refine mv.lit ?hg (N := 51) ?hd (u := .slice Ad d.length cd) (t := 22) ?hr ?_; (case hd => rfl); (case hg => rfl); (case hr => first | (go_simp; done) | (go_simp; rfl)); intro gd hg w128 hbox hb; have Lgd := aM hbox; clear hbox hg; replace HW1 := aM (Kd.R_below (F3 (ok' := fun _ => True) HW1 BW (fun _ _ => trivial)) hb); replace HW2 := aM (Kd.R_below (F3 (ok' := fun _ => True) HW2 BW (fun _ _ => trivial)) hb); replace BK := aM (blk_below (B3 NL BK.out) hb); replace BV := aM (blk_below (B3 ML BV.out) hb); replace BW := aM (blk_below (P3 BW) hb); replace HB := bS (qB3 HB GE GE1 GE2) hb; clear hb; obtain ⟨hcz29_0, hcz29_1, hcz29_2, hcz29_3, hcz29_4, hcz29_5, hcz29_6, hcz29_7, hcz29_8, hcz29_9, hfz29_0, hfz29_1, hfz29_2, hfz29_3, hfz29_4, hfz29_5, hfz29_6, hfz29_7, hfz29_8, hfz29_9⟩ := blk10 BK.out; obtain ⟨hcz30_0, hcz30_1, hcz30_2, hfz30_0, hfz30_1, hfz30_2⟩ := blk3 BV.out; obtain ⟨hcz31_0, hcz31_1, hcz31_2, hfz31_0, hfz31_1, hfz31_2⟩ := blk3 BW.out) | ((with_reducible refine gate_callee (f := 10) rfl ?_); refine goesL_ (some 52) rfl rfl Try.func10 (by kernel_rfl) rfl #[.int .i64 op, .agg #[.int .i64 a0, .int .i64 a1, .int .i64 a2, .int .i64 a3, .int .i64 a4, .int .i64 a5, .int .i64 a6, .int .i64 a7, .bool a8, .slice A l.length c], .slice (some ⟨gd, 0, none⟩) 1 1] rfl pA ?_; (with_reducible refine (mv.dims k op a0 a1 a2 a3 a4 a5 a6 a7 a8 A c l Ad cd d x _ _ gd ?s1 ?s2 ?s3 ?s4 ?s5 Ad_.out).mono ?_); (case s1 => exact sC HR HB); (case s2 => exact HC.out); (case s3 => exact Lgd.out); (case s4 => exact sC HD HB); (case s5 => exact HDc.out); rintro e_ w132 ⟨v0, rfl, ho0, hb⟩; refine ⟨_, rfl, ?_⟩; have HX := aM (Kd.R_lower ho0 (below_size (qB3 HB GE GE1 GE2))); replace BW := bK BW hb; replace HW1 := bR HW1 hb; replace HW2 := bR HW2 hb; replace BK := bK BK hb; replace BV := bK BV hb; replace HB := bS (qB3 HB GE GE1 GE2) hb; clear hb; clear ho0; obtain ⟨Ax, cx, ex⟩ := Kd.R_slice HX.out; subst ex; obtain ⟨hcz33_0, hcz33_1, hcz33_2, hcz33_3, hcz33_4, hcz33_5, hcz33_6, hcz33_7, hcz33_8, hcz33_9, hfz33_0, hfz33_1, hfz33_2, hfz33_3, hfz33_4, hfz33_5, hfz33_6, hfz33_7, hfz33_8, hfz33_9⟩ := blk10 BK.out; obtain ⟨hcz34_0, hcz34_1, hcz34_2, hfz34_0, hfz34_1, hfz34_2⟩ := blk3 BV.out; obtain ⟨hcz35_0, hcz35_1, hcz35_2, hfz35_0, hfz35_1, hfz35_2⟩ := blk3 BW.out) | ((with_reducible refine gate_callee (f := 19) rfl ?_); refine goesL_ (some 68) rfl rfl Try.func19 (by kernel_rfl) rfl #[.agg #[.int .i64 wo, .slice Aw1 wd.length cw1, .slice Aw2 ws.length cw2], .int .i64 64] rfl pA ?_; (with_reducible refine (gradineref22_Cells.calls k wo _ _ wd _ _ ws 64 L _ ?s1 ?s2 ?s3 ?s4 Ac.out).mono ?_); (case s1 => exact sR HW1); (case s2 => exact sL HW1); (case s3 => exact sR HW2); (case s4 => exact sL HW2); rintro e_ w136 ⟨v0, rfl, ho0, hb⟩; refine ⟨_, rfl, ?_⟩; have HL := aM (Kd.R_lower ho0 (below_size (qB3 HB GE GE1 GE2))); replace BW := bK BW hb; replace HW1 := bR HW1 hb; replace HX := bR HX hb; replace BK := bK BK hb; replace BV := bK BV hb; replace HB := bS (qB3 HB GE GE1 GE2) hb; clear hb; clear ho0; obtain ⟨Al, cl, el⟩ := Kd.R_slice HL.out; subst el; obtain ⟨hcz37_0, hcz37_1, hcz37_2, hcz37_3, hcz37_4, hcz37_5, hcz37_6, hcz37_7, hcz37_8, hcz37_9, hfz37_0, hfz37_1, hfz37_2, hfz37_3, hfz37_4, hfz37_5, hfz37_6, hfz37_7, hfz37_8, hfz37_9⟩ := blk10 BK.out; obtain ⟨hcz38_0, hcz38_1, hcz38_2, hfz38_0, hfz38_1, hfz38_2⟩ := blk3 BV.out; obtain ⟨hcz39_0, hcz39_1, hcz39_2, hfz39_0, hfz39_1, hfz39_2⟩ := blk3 BW.out) | (go_at_call 12; (with_reducible refine (gradineplain_Ints.calls k _ _ x _ _ wd true _ ?s1 ?s2 ?s3 ?s4 Ai.out).mono ?_); (case s1 => exact sR HX); (case s2 => exact sL HX); (case s3 => exact sR HW1); (case s4 => exact sL HW1); rintro e_ w140 ⟨rfl, hd⟩; have hb := mv.drawn hd; clear hd; replace BW := bK BW hb; replace HX := bR HX hb; replace HL := bR HL hb; replace BK := bK BK hb; replace BV := bK BV hb; replace HB := bS (qB3 HB GE GE1 GE2) hb; clear hb; obtain ⟨hcz41_0, hcz41_1, hcz41_2, hcz41_3, hcz41_4, hcz41_5, hcz41_6, hcz41_7, hcz41_8, hcz41_9, hfz41_0, hfz41_1, hfz41_2, hfz41_3, hfz41_4, hfz41_5, hfz41_6, hfz41_7, hfz41_8, hfz41_9⟩ := blk10 BK.out; obtain ⟨hcz42_0, hcz42_1, hcz42_2, hfz42_0, hfz42_1, hfz42_2⟩ := blk3 BV.out; obtain ⟨hcz43_0, hcz43_1, hcz43_2, hfz43_0, hfz43_1, hfz43_2⟩ := blk3 BW.out) | (go_at_call 20; (with_reducible refine (gradineref19_Count.calls k _ _ x _ _ ?s1 ?s2 An.out).mono ?_); (case s1 => exact sR HX); (case s2 => exact sL HX); rintro e_ w144 ⟨rfl, hd⟩; have hb := mv.drawn hd; clear hd; replace HL := bR HL hb; replace BK := bK BK hb; replace BV := bK BV hb; replace HB := bS (qB3 HB GE GE1 GE2) hb; clear hb))
            go_loopg [87] L.length (fun kq v87 w' => ∃ (i : Nat), v87 = .int .i64 (i : Int) ∧ Aside0 (i + kq = L.length) ∧ Aside0 (mv.l0 k op a0 a1 a2 a3 a4 a5 a6 a7 a8 l o d s L kq i = some ()) ∧ Aside0 (w'.heap[g]? = some (.cells #[.int .i64 a0, .int .i64 a1, .int .i64 a2, .int .i64 a3, .int .i64 a4, .int .i64 a5, .int .i64 a6, .int .i64 a7, .bool a8, .slice A l.length c] 24 (0, 0))) ∧ Aside0 (w'.heap[g1]? = some (.cells #[.int .i64 o, .slice Ad d.length cd, .slice As s.length cs] 44 (0, 0))) ∧ Aside0 (Kd.R (Kd.int .i64) 3 w' w.heap.size (fun _ => True) (.slice Al L.length cl) L) ∧ Aside0 (Below w.heap.size w w'))
            case atStart => exact ⟨0, rfl, ⟨by omega⟩, A1_, ⟨by first | exact BK.out | (with_reducible repeat (first | apply bN | apply bD | apply bA)); exact BK.out⟩, ⟨by first | exact BV.out | (with_reducible repeat (first | apply bN | apply bD | apply bA)); exact BV.out⟩, ⟨by first | exact HL.out | ((with_reducible repeat (first | apply rA | apply rN | apply rD)); exact HL.out)⟩, ⟨qB3 HB GE GE1 GE2⟩⟩
            case round =>
             clear A1_ BK BV HB HL
             obtain ⟨i, rfl, HK, HA, BK, BV, HL, HB⟩ := hrel
             obtain ⟨hcz45_0, hcz45_1, hcz45_2, hcz45_3, hcz45_4, hcz45_5, hcz45_6, hcz45_7, hcz45_8, hcz45_9, hfz45_0, hfz45_1, hfz45_2, hfz45_3, hfz45_4, hfz45_5, hfz45_6, hfz45_7, hfz45_8, hfz45_9⟩ := blk10 BK.out; obtain ⟨hcz46_0, hcz46_1, hcz46_2, hfz46_0, hfz46_1, hfz46_2⟩ := blk3 BV.out
             cases gk with
             | succ kq =>
              have HA1 := HA.out
              clear HA
              rw [mv.l0] at HA1
              replace HA1 := Option.bind_eq_some_iff.mp HA1
              obtain ⟨⟨tw, tk, t3⟩, Et, HA2⟩ := HA1
              have Af := aM Et
              clear Et
              replace HA2 := Option.bind_eq_some_iff.mp HA2
              obtain ⟨⟨z, z2⟩, Ez, HA3⟩ := HA2
              have At := aM Ez
              clear Ez
              dsimp only at HA3
              split at HA3
              rotate_left
              · cases HA3
              rename_i hq_
              obtain ⟨rfl, rfl, rfl⟩ := hq_
              have H1 := aM HA3
              clear HA3
              have HI := aM (show 0 ≤ (i : Int) ∧ (i : Int) < (L.length : Int) from ⟨by omega, by have := HK.out; omega⟩)
              have d2 : decide ((i : Int) < (L.length : Int)) = true := decide_eq_true HI.out.2
              have d2n : decide (i < L.length) = true := decide_eq_true (by have := HK.out; omega)
              have p805 : (0 ≤ (i : Int)) = True := eq_true HI.out.1
              have q805 : ((i : Int) < (L.length : Int)) = True := eq_true HI.out.2
              have q806 : (i < L.length) = True := eq_true (by have := HK.out; omega)
              have d5 : (rd L (i : Int) != rd L (i : Int)) = false := bne_self_eq_false _
              go_wp2_with (first | ((with_reducible refine gate_dst (N := 95) rfl ?_); refine mv.lit ?hg (N := 95) ?hd (u := .slice Ad d.length cd) (t := 22) ?hr ?_; (case hd => rfl); (case hg => rfl); (case hr => first | (go_simp; done) | (go_simp; rfl)); intro gf hg w147 hbox hb; have Lgf := aM hbox; clear hbox hg; replace HL := bR HL hb; replace BK := bK BK hb; replace BV := bK BV hb; replace HB := bS (qB2 HB GE GE1) hb; clear hb; obtain ⟨hcz48_0, hcz48_1, hcz48_2, hcz48_3, hcz48_4, hcz48_5, hcz48_6, hcz48_7, hcz48_8, hcz48_9, hfz48_0, hfz48_1, hfz48_2, hfz48_3, hfz48_4, hfz48_5, hfz48_6, hfz48_7, hfz48_8, hfz48_9⟩ := blk10 BK.out; obtain ⟨hcz49_0, hcz49_1, hcz49_2, hfz49_0, hfz49_1, hfz49_2⟩ := blk3 BV.out) | ((with_reducible refine gate_callee (f := 15) rfl ?_); refine goesL_ (some 97) rfl rfl Try.func15 (by kernel_rfl) rfl #[.int .i64 op, .agg #[.int .i64 a0, .int .i64 a1, .int .i64 a2, .int .i64 a3, .int .i64 a4, .int .i64 a5, .int .i64 a6, .int .i64 a7, .bool a8, .slice A l.length c], .slice (some ⟨gf, 0, none⟩) 1 1, .int .i64 (i : Int)] rfl pA ?_; (with_reducible refine (mv.from_ k op a0 a1 a2 a3 a4 a5 a6 a7 a8 A c l Ad cd d (i : Int) tw tk true _ gf ?s1 ?s2 ?s3 ?s4 ?s5 Af.out).mono ?_); (case s1 => exact sC HR HB); (case s2 => exact HC.out); (case s3 => exact Lgf.out); (case s4 => exact sC HD HB); (case s5 => exact HDc.out); rintro e_ w150 ⟨rfl, hb⟩; refine ⟨_, rfl, ?_⟩; replace HL := bR HL hb; replace BK := bK BK hb; replace BV := bK BV hb; replace HB := bS (qB2 HB GE GE1) hb; clear hb; obtain ⟨hcz51_0, hcz51_1, hcz51_2, hcz51_3, hcz51_4, hcz51_5, hcz51_6, hcz51_7, hcz51_8, hcz51_9, hfz51_0, hfz51_1, hfz51_2, hfz51_3, hfz51_4, hfz51_5, hfz51_6, hfz51_7, hfz51_8, hfz51_9⟩ := blk10 BK.out; obtain ⟨hcz52_0, hcz52_1, hcz52_2, hfz52_0, hfz52_1, hfz52_2⟩ := blk3 BV.out) | ((with_reducible refine gate_callee (f := 21) rfl ?_); refine goesL_ (some 104) rfl rfl Try.func21 (by kernel_rfl) rfl #[.agg #[.int .i64 o, .slice Ad d.length cd, .slice As s.length cs], .int .i64 tk] rfl pA ?_; (with_reducible refine (view_At.calls k o _ _ d _ _ s tk (rd L (i : Int)) true _ ?s1 ?s2 ?s3 ?s4 At.out).mono ?_); (case s1 => exact sC HD HB); (case s2 => exact HDc.out); (case s3 => exact sC HS HB); (case s4 => exact HSc.out); rintro e_ w153 ⟨rfl, hb⟩; refine ⟨_, rfl, ?_⟩; replace HL := bR HL hb; replace BK := bK BK hb; replace BV := bK BV hb; replace HB := bS (qB2 HB GE GE1) hb; clear hb; obtain ⟨ad, ead, hx⟩ := Kd.at_int (sR HL) (i : Int) HI.out.1 HI.out.2; cases ead; rw [Int.toNat_natCast] at hx; obtain ⟨hcz54_0, hcz54_1, hcz54_2, hcz54_3, hcz54_4, hcz54_5, hcz54_6, hcz54_7, hcz54_8, hcz54_9, hfz54_0, hfz54_1, hfz54_2, hfz54_3, hfz54_4, hfz54_5, hfz54_6, hfz54_7, hfz54_8, hfz54_9⟩ := blk10 BK.out; obtain ⟨hcz55_0, hcz55_1, hcz55_2, hfz55_0, hfz55_1, hfz55_2⟩ := blk3 BV.out))
              go_roundg kq
              case measure => omega
              case rel => exact ⟨i + 1, by first | rfl | (rw [w64o (by have := HK.out; have := HL64.out; omega) (by have := HK.out; have := HL64.out; omega)]; rfl), ⟨by have := HK.out; omega⟩, H1, ⟨by first | exact BK.out | (with_reducible repeat (first | apply bN | apply bD | apply bA)); exact BK.out⟩, ⟨by first | exact BV.out | (with_reducible repeat (first | apply bN | apply bD | apply bA)); exact BV.out⟩, ⟨by first | exact HL.out | ((with_reducible repeat (first | apply rA | apply rN | apply rD)); exact HL.out)⟩, ⟨qB2 HB GE GE1⟩⟩
             | zero =>
              have hin : i = L.length := by have := HK.out; omega
              subst hin
              have d2 : decide ((L.length : Int) < (L.length : Int)) = false := decide_eq_false (by omega)
              have d2n : decide (L.length < L.length) = false := decide_eq_false (by omega)
              go_wp2_with (first | ((with_reducible refine gate_callee (f := 9) rfl ?_); refine goesL_ (some 122) rfl rfl Try.func9 (by kernel_rfl) rfl #[] rfl pA ?_; (with_reducible refine (gradinelaw29_same.calls true _ rfl).mono ?_); skip; rintro e w156 ⟨rfl, hb⟩; refine ⟨_, rfl, ?_⟩; replace HB := bS (qB2 HB GE GE1) hb; clear hb))
              go_ret
              exact ⟨pE, HB.out⟩
        · rw [if_neg he] at H
          have be : (we == 0) = false := beq_eq_false_iff_ne.mpr he
          have bn : (we != 0) = true := bne_iff_ne.mpr he
          by_cases hx : xe = we
          · clear H
            subst hx
            have bx : (xe == xe) = true := beq_self_eq_true _
            go_enter Try.func5, Try.ntmps5
            go_wp2_with (first | ((with_reducible refine gate_dst (N := 4) rfl ?_); refine box_event ?hg (N := 4) ?hd (cs := #[.int .i64 a0, .int .i64 a1, .int .i64 a2, .int .i64 a3, .int .i64 a4, .int .i64 a5, .int .i64 a6, .int .i64 a7, .bool a8, .slice A l.length c]) (t := 24) ?hr ?_; (case hd => rfl); (case hg => rfl); (case hr => first | (go_simp; done) | (go_simp; rfl)); intro g hg w101 hbox hb; have BK := aM hbox; have GE := gE (w := w) hg (qB HB); replace HB := bS (qB HB) hb; clear hb hbox hg) | ((with_reducible refine gate_dst (N := 5) rfl ?_); refine box_event ?hg (N := 5) ?hd (cs := #[.int .i64 o, .slice Ad d.length cd, .slice As s.length cs]) (t := 44) ?hr ?_; (case hd => rfl); (case hg => rfl); (case hr => first | (go_simp; done) | (go_simp; rfl)); intro g1 hg w102 hbox hb; have BV := aM hbox; have GE1 := gE (w := w) hg (qB1 HB GE); replace HB := bS (qB1 HB GE) hb; replace BK := bK BK hb; clear hb hbox hg; obtain ⟨hcz3_0, hcz3_1, hcz3_2, hcz3_3, hcz3_4, hcz3_5, hcz3_6, hcz3_7, hcz3_8, hcz3_9, hfz3_0, hfz3_1, hfz3_2, hfz3_3, hfz3_4, hfz3_5, hfz3_6, hfz3_7, hfz3_8, hfz3_9⟩ := blk10 BK.out; obtain ⟨hcz4_0, hcz4_1, hcz4_2, hfz4_0, hfz4_1, hfz4_2⟩ := blk3 BV.out) | ((with_reducible refine gate_dst (N := 23) rfl ?_); refine mv.lit2 ?hg (N := 23) ?hd (u := .slice Ad d.length cd) (v := .slice As s.length cs) (t := 22) ?hr ?_; (case hd => rfl); (case hg => rfl); (case hr => first | (go_simp; done) | (go_simp; rfl)); intro gm hg w105 hbox hb; have Lgm := aM hbox; clear hbox hg; replace BK := bK BK hb; replace BV := bK BV hb; replace HB := bS (qB2 HB GE GE1) hb; clear hb; obtain ⟨hcz6_0, hcz6_1, hcz6_2, hcz6_3, hcz6_4, hcz6_5, hcz6_6, hcz6_7, hcz6_8, hcz6_9, hfz6_0, hfz6_1, hfz6_2, hfz6_3, hfz6_4, hfz6_5, hfz6_6, hfz6_7, hfz6_8, hfz6_9⟩ := blk10 BK.out; obtain ⟨hcz7_0, hcz7_1, hcz7_2, hfz7_0, hfz7_1, hfz7_2⟩ := blk3 BV.out) | ((with_reducible refine gate_callee (f := 8) rfl ?_); refine goesL_ (some 24) rfl rfl Try.func8 (by kernel_rfl) rfl #[.agg #[.int .i64 a0, .int .i64 a1, .int .i64 a2, .int .i64 a3, .int .i64 a4, .int .i64 a5, .int .i64 a6, .int .i64 a7, .bool a8, .slice A l.length c], .slice (some ⟨gm, 0, none⟩) 2 2] rfl pA ?_; (with_reducible refine (mv.many k a0 a1 a2 a3 a4 a5 a6 a7 a8 A c l Ad cd d As cs s false _ gm ?s1 ?s2 ?s3 ?s4 ?s5 ?s6 ?s7 Am.out).mono ?_); (case s1 => exact sC HR HB); (case s2 => exact HC.out); (case s3 => exact Lgm.out); (case s4 => exact sC HD HB); (case s5 => exact HDc.out); (case s6 => exact sC HS HB); (case s7 => exact HSc.out); rintro e w111 ⟨rfl, hb⟩; refine ⟨_, rfl, ?_⟩; replace BK := bK BK hb; replace BV := bK BV hb; replace HB := bS (qB2 HB GE GE1) hb; clear hb; obtain ⟨hcz12_0, hcz12_1, hcz12_2, hcz12_3, hcz12_4, hcz12_5, hcz12_6, hcz12_7, hcz12_8, hcz12_9, hfz12_0, hfz12_1, hfz12_2, hfz12_3, hfz12_4, hfz12_5, hfz12_6, hfz12_7, hfz12_8, hfz12_9⟩ := blk10 BK.out; obtain ⟨hcz13_0, hcz13_1, hcz13_2, hfz13_0, hfz13_1, hfz13_2⟩ := blk3 BV.out) | (go_at_call 17; (with_reducible refine (gradineref22_Right.calls k o _ _ d _ _ s 64 true _ ?s1 ?s2 ?s3 ?s4 Ar.out).mono ?_); (case s1 => exact sC HD HB); (case s2 => exact HDc.out); (case s3 => exact sC HS HB); (case s4 => exact HSc.out); rintro e w118 ⟨rfl, hb⟩; replace BK := bK BK hb; replace BV := bK BV hb; replace HB := bS (qB2 HB GE GE1) hb; clear hb; obtain ⟨hcz19_0, hcz19_1, hcz19_2, hcz19_3, hcz19_4, hcz19_5, hcz19_6, hcz19_7, hcz19_8, hcz19_9, hfz19_0, hfz19_1, hfz19_2, hfz19_3, hfz19_4, hfz19_5, hfz19_6, hfz19_7, hfz19_8, hfz19_9⟩ := blk10 BK.out; obtain ⟨hcz20_0, hcz20_1, hcz20_2, hfz20_0, hfz20_1, hfz20_2⟩ := blk3 BV.out) | ((with_reducible refine gate_callee (f := 18) rfl ?_); refine goesL_ (some 43) rfl rfl Try.func18 (by kernel_rfl) rfl #[.int .i64 op, .agg #[.int .i64 a0, .int .i64 a1, .int .i64 a2, .int .i64 a3, .int .i64 a4, .int .i64 a5, .int .i64 a6, .int .i64 a7, .bool a8, .slice A l.length c], .agg #[.int .i64 o, .slice Ad d.length cd, .slice As s.length cs]] rfl pA ?_; (with_reducible refine (move_View.calls k op a0 a1 a2 a3 a4 a5 a6 a7 a8 A c l o _ _ d _ _ s wo wd ws _ _ ?s1 ?s2 ?s3 ?s4 ?s5 ?s6 Av.out).mono ?_); (case s1 => exact sC HR HB); (case s2 => exact HC.out); (case s3 => exact sC HD HB); (case s4 => exact HDc.out); (case s5 => exact sC HS HB); (case s6 => exact HSc.out); rintro e_ w121 ⟨v1, v2, rfl, ho1, ho2, hb⟩; refine ⟨_, rfl, ?_⟩; have HW1 := aM (Kd.R_lower ho1 (below_size (qB2 HB GE GE1))); have HW2 := aM (Kd.R_lower ho2 (below_size (qB2 HB GE GE1))); replace BK := bK BK hb; replace BV := bK BV hb; replace HB := bS (qB2 HB GE GE1) hb; clear hb; clear ho1 ho2; obtain ⟨Aw1, cw1, ew1⟩ := Kd.R_slice HW1.out; subst ew1; obtain ⟨Aw2, cw2, ew2⟩ := Kd.R_slice HW2.out; subst ew2; obtain ⟨hcz22_0, hcz22_1, hcz22_2, hcz22_3, hcz22_4, hcz22_5, hcz22_6, hcz22_7, hcz22_8, hcz22_9, hfz22_0, hfz22_1, hfz22_2, hfz22_3, hfz22_4, hfz22_5, hfz22_6, hfz22_7, hfz22_8, hfz22_9⟩ := blk10 BK.out; obtain ⟨hcz23_0, hcz23_1, hcz23_2, hfz23_0, hfz23_1, hfz23_2⟩ := blk3 BV.out) | ((with_reducible refine gate_dst (N := 7) rfl ?_); refine box_event ?hg (N := 7) ?hd (cs := #[.int .i64 0, .slice none 0 0, .slice none 0 0]) (t := 44) ?hr ?_; (case hd => rfl); (case hg => rfl); (case hr => first | (go_simp; done) | (go_simp; rfl)); intro g2 hg w124 hbox hb; have BW := aM hbox; have GE2 := gE (w := w) hg (qB2 HB GE GE1); have NL := nL hg BK; have NG := nG hg BK; have ML := nL hg BV; have MG := nG hg BV; clear hbox hg; replace HW1 := bR HW1 hb; replace HW2 := bR HW2 hb; replace BK := bK BK hb; replace BV := bK BV hb; replace HB := bS (qB2 HB GE GE1) hb; clear hb; have hnb2 := NG.out; have hnc2 := NL.out; have hnb3 := MG.out; have hnc3 := ML.out; obtain ⟨hcz25_0, hcz25_1, hcz25_2, hcz25_3, hcz25_4, hcz25_5, hcz25_6, hcz25_7, hcz25_8, hcz25_9, hfz25_0, hfz25_1, hfz25_2, hfz25_3, hfz25_4, hfz25_5, hfz25_6, hfz25_7, hfz25_8, hfz25_9⟩ := blk10 BK.out; obtain ⟨hcz26_0, hcz26_1, hcz26_2, hfz26_0, hfz26_1, hfz26_2⟩ := blk3 BV.out; obtain ⟨hcz27_0, hcz27_1, hcz27_2, hfz27_0, hfz27_1, hfz27_2⟩ := blk3 BW.out) | ((with_reducible refine gate_dst (N := 51) rfl ?_); refine mv.lit ?hg (N := 51) ?hd (u := .slice Ad d.length cd) (t := 22) ?hr ?_; (case hd => rfl); (case hg => rfl); (case hr => first | (go_simp; done) | (go_simp; rfl)); intro gd hg w128 hbox hb; have Lgd := aM hbox; clear hbox hg; replace HW1 := aM (Kd.R_below (F3 (ok' := fun _ => True) HW1 BW (fun _ _ => trivial)) hb); replace HW2 := aM (Kd.R_below (F3 (ok' := fun _ => True) HW2 BW (fun _ _ => trivial)) hb); replace BK := aM (blk_below (B3 NL BK.out) hb); replace BV := aM (blk_below (B3 ML BV.out) hb); replace BW := aM (blk_below (P3 BW) hb); replace HB := bS (qB3 HB GE GE1 GE2) hb; clear hb; obtain ⟨hcz29_0, hcz29_1, hcz29_2, hcz29_3, hcz29_4, hcz29_5, hcz29_6, hcz29_7, hcz29_8, hcz29_9, hfz29_0, hfz29_1, hfz29_2, hfz29_3, hfz29_4, hfz29_5, hfz29_6, hfz29_7, hfz29_8, hfz29_9⟩ := blk10 BK.out; obtain ⟨hcz30_0, hcz30_1, hcz30_2, hfz30_0, hfz30_1, hfz30_2⟩ := blk3 BV.out; obtain ⟨hcz31_0, hcz31_1, hcz31_2, hfz31_0, hfz31_1, hfz31_2⟩ := blk3 BW.out) | ((with_reducible refine gate_callee (f := 10) rfl ?_); refine goesL_ (some 52) rfl rfl Try.func10 (by kernel_rfl) rfl #[.int .i64 op, .agg #[.int .i64 a0, .int .i64 a1, .int .i64 a2, .int .i64 a3, .int .i64 a4, .int .i64 a5, .int .i64 a6, .int .i64 a7, .bool a8, .slice A l.length c], .slice (some ⟨gd, 0, none⟩) 1 1] rfl pA ?_; (with_reducible refine (mv.dims k op a0 a1 a2 a3 a4 a5 a6 a7 a8 A c l Ad cd d x _ _ gd ?s1 ?s2 ?s3 ?s4 ?s5 Ad_.out).mono ?_); (case s1 => exact sC HR HB); (case s2 => exact HC.out); (case s3 => exact Lgd.out); (case s4 => exact sC HD HB); (case s5 => exact HDc.out); rintro e_ w132 ⟨v0, rfl, ho0, hb⟩; refine ⟨_, rfl, ?_⟩; have HX := aM (Kd.R_lower ho0 (below_size (qB3 HB GE GE1 GE2))); replace BW := bK BW hb; replace HW1 := bR HW1 hb; replace HW2 := bR HW2 hb; replace BK := bK BK hb; replace BV := bK BV hb; replace HB := bS (qB3 HB GE GE1 GE2) hb; clear hb; clear ho0; obtain ⟨Ax, cx, ex⟩ := Kd.R_slice HX.out; subst ex; obtain ⟨hcz33_0, hcz33_1, hcz33_2, hcz33_3, hcz33_4, hcz33_5, hcz33_6, hcz33_7, hcz33_8, hcz33_9, hfz33_0, hfz33_1, hfz33_2, hfz33_3, hfz33_4, hfz33_5, hfz33_6, hfz33_7, hfz33_8, hfz33_9⟩ := blk10 BK.out; obtain ⟨hcz34_0, hcz34_1, hcz34_2, hfz34_0, hfz34_1, hfz34_2⟩ := blk3 BV.out; obtain ⟨hcz35_0, hcz35_1, hcz35_2, hfz35_0, hfz35_1, hfz35_2⟩ := blk3 BW.out) | (go_at_call 9; (with_reducible refine (gradinelaw29_same.calls true _ rfl).mono ?_); skip; rintro e w157 ⟨rfl, hb⟩; replace HB := bS (qB3 HB GE GE1 GE2) hb; clear hb))
            go_ret
            exact ⟨pE, HB.out⟩
          · rw [if_neg hx] at H
            split at H
            rotate_left
            · cases H
            rename_i h19
            clear H
            have bx : (xe == we) = false := beq_eq_false_iff_ne.mpr hx
            have b19 : (we == 19) = true := beq_iff_eq.mpr h19
            clear h19 hx
            go_enter Try.func5, Try.ntmps5
            go_wp2_with (first | ((with_reducible refine gate_dst (N := 4) rfl ?_); refine box_event ?hg (N := 4) ?hd (cs := #[.int .i64 a0, .int .i64 a1, .int .i64 a2, .int .i64 a3, .int .i64 a4, .int .i64 a5, .int .i64 a6, .int .i64 a7, .bool a8, .slice A l.length c]) (t := 24) ?hr ?_; (case hd => rfl); (case hg => rfl); (case hr => first | (go_simp; done) | (go_simp; rfl)); intro g hg w101 hbox hb; have BK := aM hbox; have GE := gE (w := w) hg (qB HB); replace HB := bS (qB HB) hb; clear hb hbox hg) | ((with_reducible refine gate_dst (N := 5) rfl ?_); refine box_event ?hg (N := 5) ?hd (cs := #[.int .i64 o, .slice Ad d.length cd, .slice As s.length cs]) (t := 44) ?hr ?_; (case hd => rfl); (case hg => rfl); (case hr => first | (go_simp; done) | (go_simp; rfl)); intro g1 hg w102 hbox hb; have BV := aM hbox; have GE1 := gE (w := w) hg (qB1 HB GE); replace HB := bS (qB1 HB GE) hb; replace BK := bK BK hb; clear hb hbox hg; obtain ⟨hcz3_0, hcz3_1, hcz3_2, hcz3_3, hcz3_4, hcz3_5, hcz3_6, hcz3_7, hcz3_8, hcz3_9, hfz3_0, hfz3_1, hfz3_2, hfz3_3, hfz3_4, hfz3_5, hfz3_6, hfz3_7, hfz3_8, hfz3_9⟩ := blk10 BK.out; obtain ⟨hcz4_0, hcz4_1, hcz4_2, hfz4_0, hfz4_1, hfz4_2⟩ := blk3 BV.out) | ((with_reducible refine gate_dst (N := 23) rfl ?_); refine mv.lit2 ?hg (N := 23) ?hd (u := .slice Ad d.length cd) (v := .slice As s.length cs) (t := 22) ?hr ?_; (case hd => rfl); (case hg => rfl); (case hr => first | (go_simp; done) | (go_simp; rfl)); intro gm hg w105 hbox hb; have Lgm := aM hbox; clear hbox hg; replace BK := bK BK hb; replace BV := bK BV hb; replace HB := bS (qB2 HB GE GE1) hb; clear hb; obtain ⟨hcz6_0, hcz6_1, hcz6_2, hcz6_3, hcz6_4, hcz6_5, hcz6_6, hcz6_7, hcz6_8, hcz6_9, hfz6_0, hfz6_1, hfz6_2, hfz6_3, hfz6_4, hfz6_5, hfz6_6, hfz6_7, hfz6_8, hfz6_9⟩ := blk10 BK.out; obtain ⟨hcz7_0, hcz7_1, hcz7_2, hfz7_0, hfz7_1, hfz7_2⟩ := blk3 BV.out) | ((with_reducible refine gate_callee (f := 8) rfl ?_); refine goesL_ (some 24) rfl rfl Try.func8 (by kernel_rfl) rfl #[.agg #[.int .i64 a0, .int .i64 a1, .int .i64 a2, .int .i64 a3, .int .i64 a4, .int .i64 a5, .int .i64 a6, .int .i64 a7, .bool a8, .slice A l.length c], .slice (some ⟨gm, 0, none⟩) 2 2] rfl pA ?_; (with_reducible refine (mv.many k a0 a1 a2 a3 a4 a5 a6 a7 a8 A c l Ad cd d As cs s false _ gm ?s1 ?s2 ?s3 ?s4 ?s5 ?s6 ?s7 Am.out).mono ?_); (case s1 => exact sC HR HB); (case s2 => exact HC.out); (case s3 => exact Lgm.out); (case s4 => exact sC HD HB); (case s5 => exact HDc.out); (case s6 => exact sC HS HB); (case s7 => exact HSc.out); rintro e w111 ⟨rfl, hb⟩; refine ⟨_, rfl, ?_⟩; replace BK := bK BK hb; replace BV := bK BV hb; replace HB := bS (qB2 HB GE GE1) hb; clear hb; obtain ⟨hcz12_0, hcz12_1, hcz12_2, hcz12_3, hcz12_4, hcz12_5, hcz12_6, hcz12_7, hcz12_8, hcz12_9, hfz12_0, hfz12_1, hfz12_2, hfz12_3, hfz12_4, hfz12_5, hfz12_6, hfz12_7, hfz12_8, hfz12_9⟩ := blk10 BK.out; obtain ⟨hcz13_0, hcz13_1, hcz13_2, hfz13_0, hfz13_1, hfz13_2⟩ := blk3 BV.out) | (go_at_call 17; (with_reducible refine (gradineref22_Right.calls k o _ _ d _ _ s 64 true _ ?s1 ?s2 ?s3 ?s4 Ar.out).mono ?_); (case s1 => exact sC HD HB); (case s2 => exact HDc.out); (case s3 => exact sC HS HB); (case s4 => exact HSc.out); rintro e w118 ⟨rfl, hb⟩; replace BK := bK BK hb; replace BV := bK BV hb; replace HB := bS (qB2 HB GE GE1) hb; clear hb; obtain ⟨hcz19_0, hcz19_1, hcz19_2, hcz19_3, hcz19_4, hcz19_5, hcz19_6, hcz19_7, hcz19_8, hcz19_9, hfz19_0, hfz19_1, hfz19_2, hfz19_3, hfz19_4, hfz19_5, hfz19_6, hfz19_7, hfz19_8, hfz19_9⟩ := blk10 BK.out; obtain ⟨hcz20_0, hcz20_1, hcz20_2, hfz20_0, hfz20_1, hfz20_2⟩ := blk3 BV.out) | ((with_reducible refine gate_callee (f := 18) rfl ?_); refine goesL_ (some 43) rfl rfl Try.func18 (by kernel_rfl) rfl #[.int .i64 op, .agg #[.int .i64 a0, .int .i64 a1, .int .i64 a2, .int .i64 a3, .int .i64 a4, .int .i64 a5, .int .i64 a6, .int .i64 a7, .bool a8, .slice A l.length c], .agg #[.int .i64 o, .slice Ad d.length cd, .slice As s.length cs]] rfl pA ?_; (with_reducible refine (move_View.calls k op a0 a1 a2 a3 a4 a5 a6 a7 a8 A c l o _ _ d _ _ s wo wd ws _ _ ?s1 ?s2 ?s3 ?s4 ?s5 ?s6 Av.out).mono ?_); (case s1 => exact sC HR HB); (case s2 => exact HC.out); (case s3 => exact sC HD HB); (case s4 => exact HDc.out); (case s5 => exact sC HS HB); (case s6 => exact HSc.out); rintro e_ w121 ⟨v1, v2, rfl, ho1, ho2, hb⟩; refine ⟨_, rfl, ?_⟩; have HW1 := aM (Kd.R_lower ho1 (below_size (qB2 HB GE GE1))); have HW2 := aM (Kd.R_lower ho2 (below_size (qB2 HB GE GE1))); replace BK := bK BK hb; replace BV := bK BV hb; replace HB := bS (qB2 HB GE GE1) hb; clear hb; clear ho1 ho2; obtain ⟨Aw1, cw1, ew1⟩ := Kd.R_slice HW1.out; subst ew1; obtain ⟨Aw2, cw2, ew2⟩ := Kd.R_slice HW2.out; subst ew2; obtain ⟨hcz22_0, hcz22_1, hcz22_2, hcz22_3, hcz22_4, hcz22_5, hcz22_6, hcz22_7, hcz22_8, hcz22_9, hfz22_0, hfz22_1, hfz22_2, hfz22_3, hfz22_4, hfz22_5, hfz22_6, hfz22_7, hfz22_8, hfz22_9⟩ := blk10 BK.out; obtain ⟨hcz23_0, hcz23_1, hcz23_2, hfz23_0, hfz23_1, hfz23_2⟩ := blk3 BV.out) | ((with_reducible refine gate_dst (N := 7) rfl ?_); refine box_event ?hg (N := 7) ?hd (cs := #[.int .i64 0, .slice none 0 0, .slice none 0 0]) (t := 44) ?hr ?_; (case hd => rfl); (case hg => rfl); (case hr => first | (go_simp; done) | (go_simp; rfl)); intro g2 hg w124 hbox hb; have BW := aM hbox; have GE2 := gE (w := w) hg (qB2 HB GE GE1); have NL := nL hg BK; have NG := nG hg BK; have ML := nL hg BV; have MG := nG hg BV; clear hbox hg; replace HW1 := bR HW1 hb; replace HW2 := bR HW2 hb; replace BK := bK BK hb; replace BV := bK BV hb; replace HB := bS (qB2 HB GE GE1) hb; clear hb; have hnb2 := NG.out; have hnc2 := NL.out; have hnb3 := MG.out; have hnc3 := ML.out; obtain ⟨hcz25_0, hcz25_1, hcz25_2, hcz25_3, hcz25_4, hcz25_5, hcz25_6, hcz25_7, hcz25_8, hcz25_9, hfz25_0, hfz25_1, hfz25_2, hfz25_3, hfz25_4, hfz25_5, hfz25_6, hfz25_7, hfz25_8, hfz25_9⟩ := blk10 BK.out; obtain ⟨hcz26_0, hcz26_1, hcz26_2, hfz26_0, hfz26_1, hfz26_2⟩ := blk3 BV.out; obtain ⟨hcz27_0, hcz27_1, hcz27_2, hfz27_0, hfz27_1, hfz27_2⟩ := blk3 BW.out) | ((with_reducible refine gate_dst (N := 51) rfl ?_); refine mv.lit ?hg (N := 51) ?hd (u := .slice Ad d.length cd) (t := 22) ?hr ?_; (case hd => rfl); (case hg => rfl); (case hr => first | (go_simp; done) | (go_simp; rfl)); intro gd hg w128 hbox hb; have Lgd := aM hbox; clear hbox hg; replace HW1 := aM (Kd.R_below (F3 (ok' := fun _ => True) HW1 BW (fun _ _ => trivial)) hb); replace HW2 := aM (Kd.R_below (F3 (ok' := fun _ => True) HW2 BW (fun _ _ => trivial)) hb); replace BK := aM (blk_below (B3 NL BK.out) hb); replace BV := aM (blk_below (B3 ML BV.out) hb); replace BW := aM (blk_below (P3 BW) hb); replace HB := bS (qB3 HB GE GE1 GE2) hb; clear hb; obtain ⟨hcz29_0, hcz29_1, hcz29_2, hcz29_3, hcz29_4, hcz29_5, hcz29_6, hcz29_7, hcz29_8, hcz29_9, hfz29_0, hfz29_1, hfz29_2, hfz29_3, hfz29_4, hfz29_5, hfz29_6, hfz29_7, hfz29_8, hfz29_9⟩ := blk10 BK.out; obtain ⟨hcz30_0, hcz30_1, hcz30_2, hfz30_0, hfz30_1, hfz30_2⟩ := blk3 BV.out; obtain ⟨hcz31_0, hcz31_1, hcz31_2, hfz31_0, hfz31_1, hfz31_2⟩ := blk3 BW.out) | ((with_reducible refine gate_callee (f := 10) rfl ?_); refine goesL_ (some 52) rfl rfl Try.func10 (by kernel_rfl) rfl #[.int .i64 op, .agg #[.int .i64 a0, .int .i64 a1, .int .i64 a2, .int .i64 a3, .int .i64 a4, .int .i64 a5, .int .i64 a6, .int .i64 a7, .bool a8, .slice A l.length c], .slice (some ⟨gd, 0, none⟩) 1 1] rfl pA ?_; (with_reducible refine (mv.dims k op a0 a1 a2 a3 a4 a5 a6 a7 a8 A c l Ad cd d x _ _ gd ?s1 ?s2 ?s3 ?s4 ?s5 Ad_.out).mono ?_); (case s1 => exact sC HR HB); (case s2 => exact HC.out); (case s3 => exact Lgd.out); (case s4 => exact sC HD HB); (case s5 => exact HDc.out); rintro e_ w132 ⟨v0, rfl, ho0, hb⟩; refine ⟨_, rfl, ?_⟩; have HX := aM (Kd.R_lower ho0 (below_size (qB3 HB GE GE1 GE2))); replace BW := bK BW hb; replace HW1 := bR HW1 hb; replace HW2 := bR HW2 hb; replace BK := bK BK hb; replace BV := bK BV hb; replace HB := bS (qB3 HB GE GE1 GE2) hb; clear hb; clear ho0; obtain ⟨Ax, cx, ex⟩ := Kd.R_slice HX.out; subst ex; obtain ⟨hcz33_0, hcz33_1, hcz33_2, hcz33_3, hcz33_4, hcz33_5, hcz33_6, hcz33_7, hcz33_8, hcz33_9, hfz33_0, hfz33_1, hfz33_2, hfz33_3, hfz33_4, hfz33_5, hfz33_6, hfz33_7, hfz33_8, hfz33_9⟩ := blk10 BK.out; obtain ⟨hcz34_0, hcz34_1, hcz34_2, hfz34_0, hfz34_1, hfz34_2⟩ := blk3 BV.out; obtain ⟨hcz35_0, hcz35_1, hcz35_2, hfz35_0, hfz35_1, hfz35_2⟩ := blk3 BW.out) | (go_at_call 9; (with_reducible refine (gradinelaw29_same.calls true _ rfl).mono ?_); skip; rintro e w157 ⟨rfl, hb⟩; replace HB := bS (qB3 HB GE GE1 GE2) hb; clear hb))
            go_ret
            exact ⟨pE, HB.out⟩
end Go.Proofs.Ytcdiobcldhiemaa.Q
namespace Go.Proofs.Ytcdiobcldhiemaa.Pure
open Go.RowKit Go.Proofs.Ytcdiobcldhiemaa.Q Go.Proofs.Ytcdiobcldhiemaa.S Go.Proofs.YtcdiobcldhiemaaW.PrintWords Go.Proofs.YtcdiobcldhiemaaW.PrintLast
set_option linter.unusedVariables false
set_option linter.unusedSimpArgs false
theorem views_many (n a b c p q r t : Int) (kp : Bool) (l d s : List Int) : ∃ v, (v = false → l.length ≤ 80) ∧ Ev (fun k => gradinelaw29_many.f k n a b c p q r t kp l [d, s]) v := by
  have e1 : wrap64 (0 + 1) = (1 : Int) := w64 (by omega) (by omega)
  have e2 : wrap64 (1 + 1) = (2 : Int) := w64 (by omega) (by omega)
  have last : ∃ v, (v = false → l.length ≤ 80) ∧ Ev (fun k => gradinelaw29_many.l0 k [d, s] (2 : Int) (2 : Int) n a b c p q r t kp l) v := by
    by_cases h : (l.length : Int) > 80
    · refine ⟨true, fun hh => absurd hh (by simp), Ev.step (fun k => ?_) (Ev.now _)⟩
      rw [gradinelaw29_many.l0, if_neg (by omega), if_pos h]
    · refine ⟨decide ((([d, s] : List (List Int)).length : Int) > 10), fun hh => by omega, Ev.step (fun k => ?_) (Ev.now _)⟩
      rw [gradinelaw29_many.l0, if_neg (by omega), if_neg h]
  obtain ⟨v, hv, hE⟩ := last
  by_cases h1 : (d.length : Int) > 20
  · refine ⟨true, fun hh => absurd hh (by simp), Ev.congr (fun k => by rw [gradinelaw29_many.f]) (Ev.step (fun k => ?_) (Ev.now _))⟩
    rw [gradinelaw29_many.l0, if_pos (by simp), if_pos (by omega), if_pos (by simp), show rd_L1 [d, s] 0 = d from rfl, if_pos h1]
  · by_cases h2 : (s.length : Int) > 20
    · refine ⟨true, fun hh => absurd hh (by simp), Ev.congr (fun k => by rw [gradinelaw29_many.f]) (Ev.step (fun k => by rw [gradinelaw29_many.l0, if_pos (by simp), if_pos (by omega), if_pos (by simp), show rd_L1 [d, s] 0 = d from rfl, if_neg h1, e1]) (Ev.step (fun k => ?_) (Ev.now _)))⟩
      rw [gradinelaw29_many.l0, if_pos (by simp), if_pos (by omega), if_pos (by simp), show rd_L1 [d, s] 1 = s from rfl, if_pos h2]
    · refine ⟨v, hv, Ev.congr (fun k => by rw [gradinelaw29_many.f]) (Ev.step (fun k => by rw [gradinelaw29_many.l0, if_pos (by simp), if_pos (by omega), if_pos (by simp), show rd_L1 [d, s] 0 = d from rfl, if_neg h1, e1]) (Ev.step (fun k => ?_) hE))⟩
      rw [gradinelaw29_many.l0, if_pos (by simp), if_pos (by omega), if_pos (by simp), show rd_L1 [d, s] 1 = s from rfl, if_neg h2, e2]; rfl
theorem mvd_1 (d : List Int) (hc : Gr.chk d = 0) (op n a b c : Int) (l : List Int) (h33 : 33 ≤ op) (h37 : op ≤ 37) : Gr.mvd op n a b c l [d] = ((Gr.ses d op n a b c l).1, (Gr.ses d op n a b c l).2.2) := by
  have hf : Gr.fchk [d] = 0 := by unfold Gr.fchk; rw [if_pos hc]; rfl
  unfold Gr.mvd
  rw [if_pos ⟨h33, by omega⟩, if_pos (by rw [if_neg (by omega)]; rfl), if_pos hf, if_neg (by omega), if_neg (by omega), if_neg (by omega)]
  rfl
/-- What a view of a view is, and what the reference tells: alike, or the cells don't stand in rows. -/
theorem views_agr {o : Int} {d s : List Int} (h : Gr.rgt o d s 64 = true) (op n a b c : Int) (l : List Int) : Gr.Agr o d s (Gr.sen o d s op n a b c l) (Gr.ses d op n a b c l) ∨ (Gr.sen o d s op n a b c l).2.2.2 = 19 := by
  by_cases hr : op = 33 → Gr.row (Gr.cls o d s 64) = true
  · exact .inl (Gr.agr_sen h op n a b c l hr)
  · have h33 : op = 33 := Classical.byContradiction fun x => hr (fun y => absurd y x)
    have hrow : ¬ Gr.row (Gr.cls o d s 64) = true := fun x => hr (fun _ => x)
    have e1 : Gr.sen o d s op n a b c l = Gr.vrs o d s l := by unfold Gr.sen; rw [if_pos h33]
    have e2 : Gr.ses d op n a b c l = Gr.rsp d l := by unfold Gr.ses; rw [if_pos h33]
    have hg := Gr.agr_reshape h l
    rw [e1, e2]
    by_cases he : (Gr.rsp d l).2.2 = 0
    · rw [if_pos ⟨he, hrow⟩] at hg
      exact .inr (by rw [hg.2 (by simp)])
    · rw [if_neg (fun x => he x.1)] at hg
      exact .inl hg
theorem views_l0 (op n a b c p q r t : Int) (kp : Bool) (l : List Int) (o : Int) (d s : List Int) (hl : l.length ≤ 80) (h : Gr.rgt o d s 64 = true) (h33 : 33 ≤ op) (h37 : op ≤ 37) (he : (Gr.ses d op n a b c l).2.2 = 0)
    (hk : ∀ x ∈ (Gr.ses d op n a b c l).2.1, 0 ≤ x ∧ x < ((Gr.cls o d s 64).length : Int)) (L : List Int) (hL : L = (Gr.ses d op n a b c l).2.1.map (fun x => Gr.at0 (Gr.cls o d s 64) x)) :
    ∀ m i : Nat, i + m = L.length → Ev (fun k => mv.l0 k op n a b c p q r t kp l o d s L m i) ()
  | 0, i, _ => Ev.now _
  | m + 1, i, hi => by
    have hc : Gr.chk d = 0 := (Gr.rgt_ok h).1.1
    have hm := mvd_1 d hc op n a b c l h33 h37
    have hlen := Gr.ses_len he
    have hLl : L.length = (Gr.ses d op n a b c l).2.1.length := by rw [hL, List.length_map]
    have hil : i < (Gr.ses d op n a b c l).2.1.length := by omega
    have hf : Gr.mff op n a b c l [d] (i : Int) = (0, Gr.at0 (Gr.ses d op n a b c l).2.1 (i : Int), true) := by
      unfold Gr.mff
      obtain ⟨s1, s2, s3, s4⟩ := Gr.mvd_v (op := op) (n := n) (a := a) (b := b) (c := c) (l := l) (dims := [d]) (by rw [hm]; exact he) h37
      rw [if_pos ⟨by rw [hm]; exact he, by omega, by omega, by rw [hm]; simp only; omega⟩, s3, s4, Gr.at0_rep]
      rfl
    refine Ev.congr (fun k => by rw [mv.l0]) (Ev.bind (mfrom op n a b c p q r t kp l [d] (i : Int) (by simp) (by omega)) ?_)
    rw [hf]
    have ha : Gr.at0 (Gr.ses d op n a b c l).2.1 (i : Int) = (Gr.ses d op n a b c l).2.1[i] := Gr.at0_get _ _ hil
    obtain ⟨k0, k1⟩ := hk _ (List.getElem_mem hil)
    obtain ⟨y, hy⟩ := Int.eq_ofNat_of_zero_le k0
    have hcl := Gr.cls_length o d s 64
    rw [if_pos h] at hcl
    have hv : Gr.vat o d s (Gr.at0 (Gr.ses d op n a b c l).2.1 (i : Int)) = (rd L (i : Int), true) := by
      have e : rd L (i : Int) = Gr.at0 (Gr.cls o d s 64) (Gr.ses d op n a b c l).2.1[i] := by
        rw [← at0_rd, Gr.at0_get _ _ (by omega)]
        simp only [hL, List.getElem_map]
      rw [e, ha, hy, Gr.at0_get _ _ (by omega), Gr.cls_get h]
      unfold Gr.vat
      rw [if_pos ⟨h, by omega, by omega⟩]
    refine Ev.bind (view_at o d s _) ?_
    rw [hv]
    exact Ev.congr (fun k => by rw [if_pos ⟨rfl, rfl, rfl⟩]) (views_l0 op n a b c p q r t kp l o d s hl h h33 h37 he hk L hL m (i + 1) (by omega))
theorem MoveViews (op n a b c p q r t : Int) (kp : Bool) (l : List Int) (o : Int) (d s : List Int) : Ev (fun k => mv.f k op n a b c p q r t kp l o d s) true := by
  obtain ⟨v, hv, hE⟩ := views_many n a b c p q r t kp l d s
  refine Ev.congr (fun k => by rw [mv.f]) (Ev.bind hE ?_)
  cases v with
  | true => exact Ev.congr (fun k => by rw [if_pos rfl]) (Ev.now _)
  | false =>
    have hl := hv rfl
    refine Ev.congr (fun k => by rw [if_neg (by simp)]) ?_
    by_cases h33 : op < 33
    · exact Ev.congr (fun k => by rw [if_pos h33]) (Ev.now _)
    · by_cases h37 : 37 < op
      · exact Ev.congr (fun k => by rw [if_neg h33, if_pos h37]) (Ev.now _)
      · refine Ev.congr (fun k => by rw [if_neg h33, if_neg h37]) (Ev.bind (ref_right o d s 64) ?_)
        cases h : Gr.rgt o d s 64 with
        | false => exact Ev.congr (fun k => by rw [if_pos rfl]) (Ev.now _)
        | true =>
          have hc : Gr.chk d = 0 := (Gr.rgt_ok h).1.1
          have hm := mvd_1 d hc op n a b c l (by omega) (by omega)
          have hd := mdims op n a b c p q r t kp l [d] (by simp) (by omega)
          rw [hm] at hd
          refine Ev.congr (fun k => by rw [if_neg (by simp)]) (Ev.bind (move_view o d s op n a b c p q r t kp l (by omega) (by omega) (by omega)) (Ev.bind hd ?_))
          have hsr := Gr.ses_right d op n a b c l
          rcases views_agr h op n a b c l with hg | hg
          · by_cases he : (Gr.ses d op n a b c l).2.2 = 0
            · obtain ⟨g1, g2, g3, g4, g5, g6⟩ := hg.1 he
              have hlen := Gr.ses_len he
              refine Ev.congr (fun k => by rw [if_pos g1]) (Ev.bind (ref_cells _ _ _ 64) ?_)
              rw [g4]
              refine Ev.congr (fun k => by rw [if_pos he]) (Ev.bind (ints _ _ (by show (Gr.ses d op n a b c l).1.length ≤ _; omega)) ?_)
              refine Ev.congr (fun k => by rw [if_pos (decide_eq_true g2.symm)]) (Ev.bind (ref_count _) ?_)
              refine Ev.congr (fun k => by rw [if_pos ⟨by rw [List.length_map]; exact hlen, by rw [List.length_map]; exact g5⟩]) (Ev.bind (views_l0 op n a b c p q r t kp l o d s hl h (by omega) (by omega) he g6 _ rfl _ 0 (by omega)) (Ev.now _))
            · have hw := hg.2 he
              refine Ev.congr (fun k => by rw [if_neg (by rw [hw]; exact he), if_pos (by rw [hw])]) (Ev.now _)
          · refine Ev.congr (fun k => by rw [if_neg (by rw [hg]; decide)]) ?_
            by_cases hx : (Gr.ses d op n a b c l).2.2 = (Gr.sen o d s op n a b c l).2.2.2
            · exact Ev.congr (fun k => by rw [if_pos hx]) (Ev.now _)
            · exact Ev.congr (fun k => by rw [if_neg hx, if_pos hg]) (Ev.now _)
theorem MoveViews_walk (w : World) (op : Int) (_ : (Lit.int .i64 op).wf = true) (a0 : Int) (_ : (Lit.int .i64 a0).wf = true) (a1 : Int) (_ : (Lit.int .i64 a1).wf = true) (a2 : Int) (_ : (Lit.int .i64 a2).wf = true) (a3 : Int) (_ : (Lit.int .i64 a3).wf = true) (a4 : Int) (_ : (Lit.int .i64 a4).wf = true) (a5 : Int) (_ : (Lit.int .i64 a5).wf = true) (a6 : Int) (_ : (Lit.int .i64 a6).wf = true) (a7 : Int) (_ : (Lit.int .i64 a7).wf = true) (a8 : Bool)
    (A : Option Addr) (c : Nat) (l : List Int) (hr : Kd.C (Kd.int .i64) w A l.length l) (hc : l.length ≤ c) (_ : ∀ x ∈ l, (Lit.int .i64 x).wf = true)
    (o : Int) (_ : (Lit.int .i64 o).wf = true) (A1 : Option Addr) (c1 : Nat) (d : List Int) (hr1 : Kd.C (Kd.int .i64) w A1 d.length d) (hc1 : d.length ≤ c1) (_ : ∀ x ∈ d, (Lit.int .i64 x).wf = true)
    (A2 : Option Addr) (c2 : Nat) (s : List Int) (hr2 : Kd.C (Kd.int .i64) w A2 s.length s) (hc2 : s.length ≤ c2) (_ : ∀ x ∈ s, (Lit.int .i64 x).wf = true) :
    Calls Try.prog 5 #[.int .i64 op, .agg #[.int .i64 a0, .int .i64 a1, .int .i64 a2, .int .i64 a3, .int .i64 a4, .int .i64 a5, .int .i64 a6, .int .i64 a7, .bool a8, .slice A l.length c], .agg #[.int .i64 o, .slice A1 d.length c1, .slice A2 s.length c2]] w fun e w' => e = .returned (.bool true) ∧ Below w.heap.size w w' := by
  obtain ⟨k, h⟩ := (MoveViews op a0 a1 a2 a3 a4 a5 a6 a7 a8 l o d s).rounds
  exact mv.calls k op a0 a1 a2 a3 a4 a5 a6 a7 a8 A c l o A1 c1 d A2 c2 s w hr hc hr1 hc1 hr2 hc2 h
end Go.Proofs.Ytcdiobcldhiemaa.Pure
namespace Go.Proofs.Ytcdiobcldhiemaa.O
open Go.RowKit Go.Proofs.YtcdiobcldhiemaaW.PrintWords
set_option linter.unusedVariables false
/-- Whatever cells of type t can be read are a value of kind d with 'ok'. -/
def Opens {α : Type} (P : Program) (d : Kd α) (t : TypeId) (ok : α → Prop) : Prop :=
  P.cellsOf t = d.sz ∧ ∀ (H : Type) (enc : TypeId × Value → H) (w : World) (fuel : Nat) (cs : List Value) (x : DataW H × List MemPlace),
    DataW.trod enc P w 0 (fun _ => true) true fuel t cs = some x → ∃ a, d.K w a cs ∧ ok a
theorem opens_int {P : Program} {t : TypeId} (k : IntKind) (ht : P.underlying t = some (.int k)) (hc : P.cellsOf t = 1) : Opens P (Kd.int k) t (fun n => (Lit.int k n).wf = true) := by
  refine ⟨hc, fun H enc w fuel cs x h => ?_⟩
  obtain ⟨n, rfl, _, hw⟩ := DataW.trod_int ht h
  exact ⟨n, rfl, hw⟩
theorem opens_bool {P : Program} {t : TypeId} (ht : P.underlying t = some .bool) (hc : P.cellsOf t = 1) : Opens P Kd.bool t (fun _ => True) := by
  refine ⟨hc, fun H enc w fuel cs x h => ?_⟩
  obtain ⟨n, rfl, _⟩ := DataW.trod_bool ht h
  exact ⟨n, rfl, trivial⟩
theorem opens_string {P : Program} {t : TypeId} (ht : P.underlying t = some .string) (hc : P.cellsOf t = 1) : Opens P Kd.string t (fun s => s.size ≤ maxLen) := by
  refine ⟨hc, fun H enc w fuel cs x h => ?_⟩
  obtain ⟨n, rfl, _, hs⟩ := DataW.trod_string ht h
  exact ⟨n, rfl, hs⟩
theorem cells_each {w : World} {a : Addr} {n : Nat} {cs : List Value} (h : w.cells? 0 a n = some cs) : cs.length = n ∧ ∀ i u, cs[i]? = some u → w.cell? (a.add i) = some u := by
  obtain ⟨h1, h2, h3⟩ := World.cells?_some h
  refine ⟨h2, fun i u hu => ?_⟩
  have hi : i < n := by
    have := (List.getElem?_eq_some_iff.1 hu).1
    omega
  rw [h3 i hi, hu]
theorem opens_slice {α : Type} {P : Program} {t e : TypeId} {d : Kd α} {ok : α → Prop} [Inhabited α] (ht : P.underlying t = some (.slice e)) (hc : P.cellsOf t = 1) (h : Opens P d e ok) :
    Opens P (Kd.slice e d) t (fun l => ∀ x ∈ l, ok x) := by
  refine ⟨hc, fun H enc w fuel cs x hx => ?_⟩
  rcases Go.Deep.open_slice ht hx with ⟨rfl, _⟩ | ⟨a, len, cap, m, n, D, Pl, rfl, _, hl, hm, hmm, _, hel⟩
  · exact ⟨[], ⟨none, 0, rfl, Nat.le_refl _, rfl, by simp, fun h0 => absurd h0 (by simp)⟩, by simp⟩
  · simp only [if_true] at hmm
    subst hmm
    have each : ∀ i, i < m → ∃ y : α, ∃ cs', w.cells? 0 (a.add (i * P.cellsOf e)) (P.cellsOf e) = some cs' ∧ d.K w y cs' ∧ ok y := by
      intro i hi
      obtain ⟨cs', h1, h2⟩ := hel i hi
      obtain ⟨y, h3, h4⟩ := h.2 H enc w n cs' _ h2
      exact ⟨y, cs', h1, h3, h4⟩
    obtain ⟨f, hf⟩ := Go.Deep.choose_lt each
    refine ⟨(List.range len).map f, ⟨some a, m, by simp, by simpa using hl, by simp, ?_, fun _ => ⟨a, rfl, fun j p hp => ?_⟩⟩, ?_⟩
    · simp only [List.length_map, List.length_range]
      unfold maxLen at hm
      omega
    · rw [List.getElem?_map] at hp
      have hj : j < len := by
        apply Decidable.byContradiction
        intro hj
        rw [List.getElem?_eq_none (by simpa using hj)] at hp
        simp at hp
      rw [List.getElem?_eq_getElem (by simpa using hj)] at hp
      simp only [List.getElem_range, Option.map_some, Option.some.injEq] at hp
      subst hp
      obtain ⟨cs', h1, h3, _⟩ := hf j (by omega)
      obtain ⟨h5, h6⟩ := cells_each h1
      refine ⟨cs', by rw [h5, h.1], h3, fun i u hu => ?_⟩
      have := h6 i u hu
      rw [Go.Deep.add_add, h.1] at this
      exact this
    · intro y hy
      simp only [List.mem_map, List.mem_range] at hy
      obtain ⟨i, hi, rfl⟩ := hy
      exact (hf i (by omega)).choose_spec.2.2
theorem opens_sliceL {α : Type} {P : Program} {t e : TypeId} {d : Kd α} {ok : α → Prop} [Inhabited α] (ht : P.underlying t = some (.slice e)) (hc : P.cellsOf t = 1) (h : Opens P d e ok) :
    Opens P (Kd.slice e d) t (fun l => l.length ≤ maxLen ∧ ∀ x ∈ l, ok x) := by
  refine ⟨hc, fun H enc w fuel cs x hx => ?_⟩
  rcases Go.Deep.open_slice ht hx with ⟨rfl, _⟩ | ⟨a, len, cap, m, n, D, Pl, rfl, _, hl, hm, hmm, _, hel⟩
  · exact ⟨[], ⟨none, 0, rfl, Nat.le_refl _, rfl, by simp, fun h0 => absurd h0 (by simp)⟩, by simp, by simp⟩
  · simp only [if_true] at hmm
    subst hmm
    have each : ∀ i, i < m → ∃ y : α, ∃ cs', w.cells? 0 (a.add (i * P.cellsOf e)) (P.cellsOf e) = some cs' ∧ d.K w y cs' ∧ ok y := by
      intro i hi
      obtain ⟨cs', h1, h2⟩ := hel i hi
      obtain ⟨y, h3, h4⟩ := h.2 H enc w n cs' _ h2
      exact ⟨y, cs', h1, h3, h4⟩
    obtain ⟨f, hf⟩ := Go.Deep.choose_lt each
    refine ⟨(List.range len).map f, ⟨some a, m, by simp, by simpa using hl, by simp, ?_, fun _ => ⟨a, rfl, fun j p hp => ?_⟩⟩, by simp only [List.length_map, List.length_range]; omega, ?_⟩
    · simp only [List.length_map, List.length_range]
      unfold maxLen at hm
      omega
    · rw [List.getElem?_map] at hp
      have hj : j < len := by
        apply Decidable.byContradiction
        intro hj
        rw [List.getElem?_eq_none (by simpa using hj)] at hp
        simp at hp
      rw [List.getElem?_eq_getElem (by simpa using hj)] at hp
      simp only [List.getElem_range, Option.map_some, Option.some.injEq] at hp
      subst hp
      obtain ⟨cs', h1, h3, _⟩ := hf j (by omega)
      obtain ⟨h5, h6⟩ := cells_each h1
      refine ⟨cs', by rw [h5, h.1], h3, fun i u hu => ?_⟩
      have := h6 i u hu
      rw [Go.Deep.add_add, h.1] at this
      exact this
    · intro y hy
      simp only [List.mem_map, List.mem_range] at hy
      obtain ⟨i, hi, rfl⟩ := hy
      exact (hf i (by omega)).choose_spec.2.2
/-- The fields of a struct, one by one. -/
theorem field {H : Type} {enc : TypeId × Value → H} {P : Program} {w : World} {t : TypeId} {fs : Array Field} {fuel : Nat} {cs : List Value} {x : DataW H × List MemPlace} (ht : P.underlying t = some (.struct fs)) (h : DataW.trod enc P w 0 (fun _ => true) true fuel t cs = some x)
    (j : Nat) (f : Field) (hj : fs[j]? = some f) : ∃ y n, DataW.trod enc P w 0 (fun _ => true) true n f.type ((cs.drop f.offset).take (P.cellsOf f.type)) = some y := by
  obtain ⟨xs, n, _, rfl, hl, hlen, hf⟩ := DataW.trod_struct ht h
  have hjl : j < fs.size := (Array.getElem?_eq_some_iff.1 hj).1
  exact ⟨xs[j]'(by omega), n, by rw [hf j f hj, List.getElem?_eq_getElem (by omega)]⟩
theorem seg {l : List Value} {j : Nat} {v : Value} {vs : List Value} (h : (l.drop j).take 1 = [v]) (h2 : l.drop (j + 1) = vs) : l.drop j = v :: vs := by
  rw [← h2, ← List.drop_drop]
  rcases hd : l.drop j with _ | ⟨a, m⟩
  · rw [hd] at h; simp at h
  · rw [hd] at h; simp at h; simp [h]
theorem seg_end {l : List Value} {n : Nat} (h : l.length = n) : l.drop n = [] := by rw [← h]; exact List.drop_length
end Go.Proofs.Ytcdiobcldhiemaa.O
