/- Plain laws of the printed functions of chapter 19 (shape and its reference): what each comes to, in lists and numbers. -/
import Derived.Test.YtpoldofghcmfnaaQx1
import Derived.Test.YtpoldofghcmfnaaQx2
import Derived.Test.YtpoldofghcmfnaaQx3
import Derived.Test.YtpoldofghcmfnaaQx4
import Derived.Test.YtpoldofghcmfnaaQx5
import Derived.Test.YtpoldofghcmfnaaM19
namespace Go.Proofs.Ytpoldofghcmfnaa.S
open Go.RowKit Go.Proofs.Ytpoldofghcmfnaa.Q Go.Proofs.YtpoldofghcmfnaaW.PrintWords Go.Proofs.YtpoldofghcmfnaaW.PrintLast
set_option linter.unusedVariables false
set_option linter.unusedSimpArgs false

theorem w64 {x : Int} (h0 : -9223372036854775808 ≤ x) (h1 : x ≤ 9223372036854775807) : wrap64 x = x := by
  unfold wrap64; omega
theorem down (P : Nat → Prop) (n : Nat) (h0 : P n) (hs : ∀ i, i < n → P (i + 1) → P i) : ∀ i, i ≤ n → P i := by
  intro i hi
  obtain ⟨d, rfl⟩ : ∃ d, n = i + d := ⟨n - i, by omega⟩
  clear hi
  induction d generalizing i with
  | zero => exact h0
  | succ d ih =>
    apply hs i (by omega)
    exact ih (i + 1) (by rw [show i + 1 + d = i + (d + 1) by omega]; exact h0) (fun j hj hp => hs j (by omega) hp)
theorem rdg (l : List Int) (i : Nat) (h : i < l.length) : rd l (i : Int) = l[i] := by
  simp [rd, List.getD_eq_getElem?_getD, List.getElem?_eq_getElem h]
theorem rdb (l : List Bool) (i : Nat) (h : i < l.length) : rdOf false l (i : Int) = l[i] := by
  simp [rdOf, List.getD_eq_getElem?_getD, List.getElem?_eq_getElem h]
theorem dropc (l : List Int) (i : Nat) (h : i < l.length) : l.drop i = rd l (i : Int) :: l.drop (i + 1) := by
  rw [rdg l i h]; exact (List.drop_eq_getElem_cons h)
theorem nx (i n : Nat) (h : i < n) (hn : n ≤ 1000000000) : wrap64 ((i : Int) + 1) = ((i + 1 : Nat) : Int) := by
  rw [w64 (by omega) (by omega)]; omega

/-! Lists that are the same -/
theorem ints_l (a b : List Int) (hl : a.length = b.length) (hn : a.length ≤ 1000000000) : ∀ i, i ≤ a.length →
    Ev (fun k => gradineplain_Ints.l0 k a b (a.length : Int) (i : Int)) (decide (a.drop i = b.drop i)) := by
  apply down
  · refine Ev.step (f := fun _ => some true) (fun k => ?_) ?_
    · rw [gradineplain_Ints.l0, if_neg (by omega)]
    · rw [List.drop_length, hl, List.drop_length]; exact Ev.now true
  · intro i hi ih
    rw [dropc a i hi, dropc b i (by omega)]
    by_cases e : rd a (i : Int) = rd b (i : Int)
    · rw [show decide (rd a (i : Int) :: a.drop (i + 1) = rd b (i : Int) :: b.drop (i + 1)) = decide (a.drop (i + 1) = b.drop (i + 1)) by simp [e]]
      refine Ev.step (fun k => ?_) ih
      rw [gradineplain_Ints.l0, if_pos (by omega), if_pos (by omega), if_pos (by omega), if_pos (by omega), if_pos e, nx i _ hi hn]
    · rw [show decide (rd a (i : Int) :: a.drop (i + 1) = rd b (i : Int) :: b.drop (i + 1)) = false by simp [e]]
      refine Ev.step (fun k => ?_) (Ev.now false)
      rw [gradineplain_Ints.l0, if_pos (by omega), if_pos (by omega), if_pos (by omega), if_pos (by omega), if_neg e]
theorem ints (a b : List Int) (hn : a.length ≤ 1000000000) : Ev (fun k => gradineplain_Ints.f k a b) (decide (a = b)) := by
  by_cases hl : a.length = b.length
  · refine Ev.congr (fun k => ?_) (by have := ints_l a b hl hn 0 (by omega); simpa using this)
    rw [gradineplain_Ints.f, if_pos (by omega)]
  · rw [show decide (a = b) = false from decide_eq_false (fun e => hl (by rw [e]))]
    refine Ev.congr (fun k => ?_) (Ev.now false)
    rw [gradineplain_Ints.f, if_neg (by omega)]
theorem ints_eq {a b : List Int} (h : a = b) (hn : a.length ≤ 1000000000) : Ev (fun k => gradineplain_Ints.f k a b) true := by
  have := ints a b hn
  rwa [show decide (a = b) = true by simp [h]] at this

theorem bools_l (a b : List Bool) (hl : a.length = b.length) (hn : a.length ≤ 1000000000) : ∀ i, i ≤ a.length →
    Ev (fun k => gradineplain_Bools.l0 k a b (a.length : Int) (i : Int)) (decide (a.drop i = b.drop i)) := by
  apply down
  · refine Ev.step (f := fun _ => some true) (fun k => ?_) ?_
    · rw [gradineplain_Bools.l0, if_neg (by omega)]
    · rw [List.drop_length, hl, List.drop_length]; exact Ev.now true
  · intro i hi ih
    rw [List.drop_eq_getElem_cons hi, List.drop_eq_getElem_cons (show i < b.length by omega)]
    by_cases e : a[i] = b[i]
    · rw [show decide (a[i] :: a.drop (i + 1) = b[i] :: b.drop (i + 1)) = decide (a.drop (i + 1) = b.drop (i + 1)) by simp only [List.cons.injEq, e, true_and]]
      refine Ev.step (fun k => ?_) ih
      rw [gradineplain_Bools.l0, if_pos (by omega), if_pos (by omega), if_pos (by omega), if_pos (by omega), rdb a i hi, rdb b i (by omega), if_neg (by simp [e]), nx i _ hi hn]
    · rw [show decide (a[i] :: a.drop (i + 1) = b[i] :: b.drop (i + 1)) = false by simp only [List.cons.injEq, e, false_and, decide_false]]
      refine Ev.step (fun k => ?_) (Ev.now false)
      rw [gradineplain_Bools.l0, if_pos (by omega), if_pos (by omega), if_pos (by omega), if_pos (by omega), rdb a i hi, rdb b i (by omega), if_pos (by simpa using e)]
theorem bools_eq {a b : List Bool} (h : a = b) (hn : a.length ≤ 1000000000) : Ev (fun k => gradineplain_Bools.f k a b) true := by
  subst h
  refine Ev.congr (fun k => ?_) (by have := bools_l a a rfl hn 0 (by omega); simpa using this)
  rw [gradineplain_Bools.f, if_pos (by omega)]

/-! Check and Count -/
theorem shape_check (d : List Int) : shape_Check.f d = some (Gr.chk d) := rfl
theorem check_1 (d : List Int) (hok : ∀ x ∈ d, 1 ≤ x) (hn : d.length ≤ 6) : ∀ i, i ≤ d.length → Gr.prod (d.take i) ≤ 64 →
    Ev (fun k => gradineref19_Check.l1 k d (Gr.prod (d.take i)) (d.length : Int) (i : Int)) (if 64 < Gr.prod d then 12 else 0) := by
  apply down
  · intro h
    rw [List.take_length] at h ⊢
    rw [if_neg (by omega)]
    refine Ev.step (fun k => ?_) (Ev.now 0)
    rw [gradineref19_Check.l1, if_neg (by omega)]
  · intro i hi ih h
    have hp := Gr.prod_pos (d.take i) (fun x hx => hok x (List.mem_of_mem_take hx))
    have hs := Gr.prod_take_succ d i hi
    have h1 : 1 ≤ d[i] := hok _ (List.getElem_mem hi)
    have hle := Gr.prod_take_le d hok (i + 1)
    have hge : d[i] ≤ Gr.prod (d.take i) * d[i] := by
      have : 1 * d[i] ≤ Gr.prod (d.take i) * d[i] := Int.mul_le_mul_of_nonneg_right hp (by omega)
      omega
    by_cases e : 64 < d[i]
    · rw [if_pos (by omega)]
      refine Ev.step (fun k => ?_) (Ev.now 12)
      rw [gradineref19_Check.l1, if_pos (by omega), if_pos (by omega), if_pos (by omega), rdg d i hi, if_pos (by omega)]
    · have hb : Gr.prod (d.take i) * d[i] ≤ 64 * 64 := Int.mul_le_mul h (by omega) (by omega) (by omega)
      by_cases e2 : 64 < Gr.prod (d.take i) * d[i]
      · rw [if_pos (by omega)]
        refine Ev.step (fun k => ?_) (Ev.now 12)
        rw [gradineref19_Check.l1, if_pos (by omega), if_pos (by omega), if_pos (by omega), rdg d i hi, if_neg (by omega), w64 (by omega) (by omega), if_pos (by omega)]
      · refine Ev.step (fun k => ?_) (ih (by omega))
        rw [gradineref19_Check.l1, if_pos (by omega), if_pos (by omega), if_pos (by omega), rdg d i hi, if_neg (by omega), w64 (by omega) (by omega), if_neg (by omega), nx i _ hi (by omega), ← hs]
theorem check_0 (d : List Int) (hn : d.length ≤ 6) : ∀ i, i ≤ d.length → (∀ x ∈ d.take i, 1 ≤ x) →
    Ev (fun k => gradineref19_Check.l0 k d (d.length : Int) (i : Int)) (Gr.chk d) := by
  apply down
  · intro h
    rw [List.take_length] at h
    have e : Gr.chk d = if 64 < Gr.prod d then 12 else 0 := by
      unfold Gr.chk
      rw [if_neg (by omega), if_neg]
      rw [Bool.not_eq_true, List.any_eq_false]
      intro x hx
      have := h x hx
      simp; omega
    rw [e]
    refine Ev.step (fun k => ?_) (check_1 d h hn 0 (by omega) (by simp [Gr.prod]))
    rw [gradineref19_Check.l0, if_neg (by omega)]; simp [Gr.prod]
  · intro i hi ih h
    by_cases e : d[i] < 1
    · have e8 : Gr.chk d = 8 := by
        unfold Gr.chk
        rw [if_neg (by omega), if_pos]
        rw [List.any_eq_true]
        exact ⟨d[i], List.getElem_mem hi, by simpa using e⟩
      rw [e8]
      refine Ev.step (fun k => ?_) (Ev.now 8)
      rw [gradineref19_Check.l0, if_pos (by omega), if_pos (by omega), if_pos (by omega), rdg d i hi, if_pos (by omega)]
    · refine Ev.step (fun k => ?_) (ih ?_)
      · rw [gradineref19_Check.l0, if_pos (by omega), if_pos (by omega), if_pos (by omega), rdg d i hi, if_neg (by omega), nx i _ hi (by omega)]
      · intro x hx
        rw [List.take_succ_eq_append_getElem hi, List.mem_append] at hx
        rcases hx with hx | hx
        · exact h x hx
        · simp at hx; omega
theorem ref_check (d : List Int) : Ev (fun k => gradineref19_Check.f k d) (Gr.chk d) := by
  by_cases h : 6 < d.length
  · have e : Gr.chk d = 9 := by unfold Gr.chk; rw [if_pos h]
    rw [e]
    refine Ev.congr (fun k => ?_) (Ev.now 9)
    rw [gradineref19_Check.f, if_pos (by omega)]
  · refine Ev.congr (fun k => ?_) (check_0 d (by omega) 0 (by omega) (by simp))
    rw [gradineref19_Check.f, if_neg (by omega)]; rfl
theorem prod_step {d : List Int} (hok : Gr.chk d = 0) (i : Nat) (hi : i < d.length) :
    1 ≤ Gr.prod (d.take i) ∧ Gr.prod (d.take i) * d[i] = Gr.prod (d.take (i + 1)) ∧ Gr.prod (d.take (i + 1)) ≤ 64 ∧ 1 ≤ Gr.prod (d.take (i + 1)) := by
  obtain ⟨h6, h1, h2⟩ := Gr.chk_ok hok
  have := Gr.prod_take_le d h1 (i + 1)
  exact ⟨Gr.prod_pos _ (fun x hx => h1 x (List.mem_of_mem_take hx)), (Gr.prod_take_succ d i hi).symm, by omega, Gr.prod_pos _ (fun x hx => h1 x (List.mem_of_mem_take hx))⟩
theorem count_l (d : List Int) (hok : Gr.chk d = 0) : ∀ i, i ≤ d.length →
    Ev (fun k => shape_Count.l0 k (Gr.prod (d.take i)) d (d.length : Int) (i : Int)) (Gr.prod d) := by
  obtain ⟨h6, h1, h2⟩ := Gr.chk_ok hok
  apply down
  · rw [List.take_length]
    refine Ev.step (fun k => ?_) (Ev.now _)
    rw [shape_Count.l0, if_neg (by omega)]
  · intro i hi ih
    obtain ⟨p1, p2, p3, p4⟩ := prod_step hok i hi
    refine Ev.step (fun k => ?_) ih
    rw [shape_Count.l0, if_pos (by omega), if_pos (by omega), if_pos (by omega), rdg d i hi, w64 (by omega) (by omega), nx i _ hi (by omega), p2]
theorem count (d : List Int) : Ev (fun k => shape_Count.f k d) (Gr.cnt d) := by
  unfold Gr.cnt
  by_cases h : Gr.chk d = 0
  · rw [if_pos h]
    refine Ev.congr (fun k => ?_) (count_l d h 0 (by omega))
    rw [shape_Count.f, shape_check, Option.bind_some, if_pos h]; simp [Gr.prod]
  · rw [if_neg h]
    refine Ev.congr (fun k => ?_) (Ev.now 0)
    rw [shape_Count.f, shape_check, Option.bind_some, if_neg h]
/-! Steps -/
theorem steps_set (d x : List Int) (i : Nat) (hi : i < d.length) (hl : x.length = d.length) (hx : x.drop (i + 1) = Gr.stp (d.drop (i + 1))) :
    (x.set i (Gr.prod (d.drop (i + 1)))).drop i = Gr.stp (d.drop i) := by
  rw [List.drop_eq_getElem_cons (by simp; omega), List.drop_eq_getElem_cons hi]
  simp only [List.getElem_set_self, Gr.stp, List.cons.injEq, true_and]
  rw [List.drop_set_of_lt (by omega)]
  exact hx
theorem steps_l (d : List Int) (hok : Gr.chk d = 0) : ∀ i, i ≤ d.length → ∀ x : List Int, x.length = d.length → x.drop i = Gr.stp (d.drop i) →
    Ev (fun k => shape_Steps.l0 k d x (Gr.prod (d.drop i)) ((i : Int) - 1)) (Gr.stp d) := by
  obtain ⟨h6, h1, h2⟩ := Gr.chk_ok hok
  intro i
  induction i with
  | zero =>
    intro hi x hl hx
    simp at hx
    subst hx
    refine Ev.step (fun k => ?_) (Ev.now _)
    rw [shape_Steps.l0, if_neg (by omega)]
  | succ i ih =>
    intro hi x hl hx
    have hlt : i < d.length := by omega
    have hd : d.drop i = d[i] :: d.drop (i + 1) := List.drop_eq_getElem_cons hlt
    obtain ⟨q6, q1, q2⟩ := Gr.chk_ok (Gr.ok_drop hok i)
    have q3 := Gr.prod_pos _ q1
    have hp : Gr.prod (d.drop i) = Gr.prod (d.drop (i + 1)) * d[i] := by rw [hd]; simp only [Gr.prod]; rw [Int.mul_comm]
    refine Ev.step (fun k => ?_) (ih (by omega) (x.set i (Gr.prod (d.drop (i + 1)))) (by simp [hl]) (steps_set d x i hlt hl hx))
    rw [shape_Steps.l0, show (((i + 1 : Nat) : Int) - 1) = (i : Int) by omega, if_pos (by omega), if_pos (by omega), if_pos (by omega), if_pos (by omega), rdg d i hlt, ← hp, w64 (by omega) (by omega), w64 (by omega) (by omega), Int.toNat_natCast]
theorem steps (d : List Int) : Ev (fun k => shape_Steps.f k d) (Gr.steps d) := by
  unfold Gr.steps
  by_cases h : Gr.chk d = 0
  · rw [if_pos h]
    obtain ⟨h6, h1, h2⟩ := Gr.chk_ok h
    refine Ev.congr (fun k => ?_) (steps_l d h d.length (by omega) (List.replicate d.length 0) (by simp) (by simp [Gr.stp]))
    rw [shape_Steps.f, shape_check, Option.bind_some, if_pos h, if_pos (by omega), if_pos (by simp; omega), w64 (by omega) (by omega)]
    simp [Gr.prod]
  · rw [if_neg h]
    refine Ev.congr (fun k => ?_) (Ev.now _)
    rw [shape_Steps.f, shape_check, Option.bind_some, if_neg h]
theorem same19 : Ev (fun k => gradinelaw19_same.f k) true := by
  refine Ev.congr (fun k => by rw [gradinelaw19_same.f]) ?_
  refine Ev.bind (steps [2, 3, 4]) ?_
  rw [show Gr.steps [2, 3, 4] = [12, 4, 1] by decide]
  refine Ev.congr (f := fun k => (shape_Check.f [8, 9]).bind fun t121 => if t121 = 12 then (shape_Count.f k [8, 8]).bind fun t125 => some (t125 == 64) else some false) (fun k => by rfl) ?_
  refine Ev.congr (f := fun k => (shape_Count.f k [8, 8]).bind fun t125 => some (t125 == 64)) (fun k => by rfl) ?_
  refine Ev.bind (count [8, 8]) ?_
  rw [show Gr.cnt [8, 8] = 64 by decide]
  exact Ev.now true

/-! Has, Axes -/
theorem has_l (l : List Int) (x : Int) (hn : l.length ≤ 1000000000) : ∀ i, i ≤ l.length →
    Ev (fun k => gradineref19_Has.l0 k l x (l.length : Int) (i : Int)) ((l.drop i).contains x) := by
  apply down
  · rw [List.drop_length]
    refine Ev.step (fun k => ?_) (Ev.now _)
    rw [gradineref19_Has.l0, if_neg (by omega)]; rfl
  · intro i hi ih
    rw [dropc l i hi, List.contains_cons]
    by_cases e : rd l (i : Int) = x
    · rw [show (x == rd l (i : Int)) = true by simp [e], Bool.true_or]
      refine Ev.step (fun k => ?_) (Ev.now true)
      rw [gradineref19_Has.l0, if_pos (by omega), if_pos (by omega), if_pos (by omega), if_pos e]
    · rw [show (x == rd l (i : Int)) = false by simp; exact fun h => e h.symm, Bool.false_or]
      refine Ev.step (fun k => ?_) ih
      rw [gradineref19_Has.l0, if_pos (by omega), if_pos (by omega), if_pos (by omega), if_neg e, nx i _ hi hn]
theorem has (l : List Int) (x : Int) (hn : l.length ≤ 1000000000) : Ev (fun k => gradineref19_Has.f k l x) (l.contains x) := by
  exact has_l l x hn 0 (by omega)

theorem contains_snoc (s : List Int) (a x : Int) : (s ++ [a]).contains x = (s.contains x || x == a) := by
  simp [List.contains_eq_mem, List.mem_append, Bool.decide_or]
  rfl
theorem marks_set (r : Nat) (s : List Int) (a : Int) (h0 : 0 ≤ a) (h1 : a < r) : (Gr.marks r s).set a.toNat true = Gr.marks r (s ++ [a]) := by
  apply List.ext_getElem (by simp [Gr.marks])
  intro j hj hj2
  simp only [Gr.marks, List.getElem_set, List.getElem_map, List.getElem_range, contains_snoc]
  by_cases e : a.toNat = j
  · rw [if_pos e, show ((j : Int) == a) = true by simp; omega, Bool.or_true]
  · rw [if_neg e, show ((j : Int) == a) = false by simp; omega, Bool.or_false]
theorem marks_at (r : Nat) (s : List Int) (a : Int) (h0 : 0 ≤ a) (h1 : a < r) : rdOf false (Gr.marks r s) a = s.contains a := by
  obtain ⟨n, rfl⟩ := Int.eq_ofNat_of_zero_le h0
  rw [rdb _ n (by simp [Gr.marks]; omega)]
  simp [Gr.marks]
theorem marks_length (r : Nat) (s : List Int) : (Gr.marks r s).length = r := by simp [Gr.marks]
theorem mks_length (r : Nat) (s : List Int) : (Gr.mks r s).length = r := by simp [Gr.mks]
theorem mks_of_ne (r : Nat) (l : List Int) (h : l ≠ []) : Gr.mks r l = Gr.marks r l := by
  unfold Gr.mks Gr.marks
  rw [show l.isEmpty = false by cases l <;> simp_all]
  simp
theorem axes_1 (r : Nat) (hr : r ≤ 6) (x : List Bool) (hx : x.length = r) : ∀ i, i ≤ r → (x.take i = List.replicate i true) →
    Ev (fun k => shape_Axes.l1 k x (r : Int) (i : Int)) (List.replicate r true, 0) := by
  intro i hi
  obtain ⟨d, hd⟩ : ∃ d, r = i + d := ⟨r - i, by omega⟩
  induction d generalizing i x with
  | zero =>
    intro h
    have : i = x.length := by omega
    subst this
    rw [List.take_length] at h
    refine Ev.step (fun k => ?_) (Ev.now _)
    rw [shape_Axes.l1, if_neg (by omega), h, hx]
  | succ d ih =>
    intro h
    refine Ev.step (fun k => ?_) (ih (x.set i true) (by simp [hx]) (i + 1) (by omega) (by omega) ?_)
    · rw [shape_Axes.l1, if_pos (by omega), if_pos (by omega), if_pos (by omega), Int.toNat_natCast, nx i r (by omega) (by omega)]
    · rw [List.take_succ_eq_append_getElem (by simp; omega), List.take_set_of_le (by omega), h, List.getElem_set_self, List.replicate_succ']
theorem axes_0 (r : Nat) (hr : r ≤ 6) (l : List Int) (hn : l.length ≤ 1000000000) : ∀ i, i ≤ l.length →
    Ev (fun k => shape_Axes.l0 k (r : Int) l (Gr.marks r (l.take i)) l (l.length : Int) (i : Int)) (if Gr.axv r (l.take i) (l.drop i) = true then (Gr.mks r l, 0) else ([], 10)) := by
  apply down
  · rw [List.take_length, List.drop_length]
    rw [if_pos (by rfl)]
    by_cases e : l = []
    · subst e
      have := axes_1 r hr (Gr.marks r []) (marks_length _ _) 0 (by omega) (by simp)
      rw [show Gr.mks r [] = List.replicate r true by
        unfold Gr.mks
        apply List.ext_getElem (by simp)
        intro j _ _; simp]
      refine Ev.step (fun k => ?_) this
      rw [shape_Axes.l0, if_neg (by simp), if_pos (by simp), marks_length]; rfl
    · rw [mks_of_ne r l e]
      have h0 : ¬ ((l.length : Int) = 0) := by
        intro h; apply e; apply List.eq_nil_of_length_eq_zero; omega
      refine Ev.step (fun k => ?_) (Ev.now _)
      rw [shape_Axes.l0, if_neg (by omega), if_neg h0]
  · intro i hi ih
    rw [dropc l i hi, Gr.axv]
    by_cases h1 : rd l (i : Int) < 0
    · rw [if_neg (by simp; omega)]
      refine Ev.step (fun k => ?_) (Ev.now _)
      rw [shape_Axes.l0, if_pos (by omega), if_pos (by omega), if_pos (by omega), if_pos h1]
    · by_cases h2 : (r : Int) ≤ rd l (i : Int)
      · rw [if_neg (by simp; omega)]
        refine Ev.step (fun k => ?_) (Ev.now _)
        rw [shape_Axes.l0, if_pos (by omega), if_pos (by omega), if_pos (by omega), if_neg h1, if_pos h2]
      · have ha := marks_at r (l.take i) (rd l (i : Int)) (by omega) (by omega)
        by_cases h3 : (l.take i).contains (rd l (i : Int)) = true
        · rw [h3, if_neg (by simp)]
          refine Ev.step (fun k => ?_) (Ev.now _)
          rw [shape_Axes.l0, if_pos (by omega), if_pos (by omega), if_pos (by omega), if_neg h1, if_neg h2, if_pos (by omega), if_pos (by rw [marks_length]; omega), ha, if_pos h3]
        · have e : l.take (i + 1) = l.take i ++ [rd l (i : Int)] := by rw [List.take_succ_eq_append_getElem hi, rdg l i hi]
          rw [e] at ih
          rw [show (decide (0 ≤ rd l (i : Int)) && decide (rd l (i : Int) < (r : Int)) && !((l.take i).contains (rd l (i : Int)))) = true by simp [h3]; simp at h3; exact ⟨by omega, h3⟩, Bool.true_and]
          refine Ev.step (fun k => ?_) ih
          rw [shape_Axes.l0, if_pos (by omega), if_pos (by omega), if_pos (by omega), if_neg h1, if_neg h2, if_pos (by omega), if_pos (by rw [marks_length]; omega), ha, if_neg h3, marks_set r _ _ (by omega) (by omega), nx i _ hi hn]
theorem axes (r : Int) (l : List Int) (hn : l.length ≤ 1000000000) : Ev (fun k => shape_Axes.f k r l) (Gr.axs r l) := by
  unfold Gr.axs
  by_cases h0 : r < 0
  · rw [if_pos (.inl h0)]
    refine Ev.congr (f := fun k => shape_Axes.j0 k r l true) (fun k => by rw [shape_Axes.f, if_pos h0]) ?_
    refine Ev.step (fun k => ?_) (Ev.now _)
    rw [shape_Axes.j0, if_pos rfl]
  · refine Ev.congr (f := fun k => shape_Axes.j0 k r l (decide (r > 6))) (fun k => by rw [shape_Axes.f, if_neg h0]) ?_
    by_cases h6 : 6 < r
    · rw [if_pos (.inr h6)]
      refine Ev.step (fun k => ?_) (Ev.now _)
      rw [shape_Axes.j0, if_pos (by simpa using h6)]
    · rw [if_neg (by omega)]
      obtain ⟨n, rfl⟩ := Int.eq_ofNat_of_zero_le (show 0 ≤ r by omega)
      have := axes_0 n (by omega) l hn 0 (by omega)
      rw [List.take_zero, List.drop_zero] at this
      refine Ev.step (fun k => ?_) this
      rw [shape_Axes.j0, if_neg (by simp; omega), if_pos (by omega), if_pos (by simp; omega), Int.toNat_natCast]
      rw [show Gr.marks n [] = List.replicate n false by
        unfold Gr.marks
        apply List.ext_getElem (by simp)
        intro j _ _; simp]
      rfl
theorem ref_axes_1 (r : Nat) (hr : r ≤ 6) (l : List Int) (hn : l.length ≤ 1000000000) : ∀ i, i ≤ r →
    Ev (fun k => gradineref19_Axes.l1 k l ((Gr.mks r l).take i) (r : Int) (i : Int)) (Gr.mks r l, 0) := by
  apply down
  · rw [List.take_of_length_le (by rw [mks_length]; omega)]
    refine Ev.step (fun k => ?_) (Ev.now _)
    rw [gradineref19_Axes.l1, if_neg (by omega)]
  · intro i hi ih
    have e : (Gr.mks r l).take (i + 1) = (Gr.mks r l).take i ++ [l.isEmpty || l.contains (i : Int)] := by
      rw [List.take_succ_eq_append_getElem (by rw [mks_length]; exact hi)]
      simp [Gr.mks]
    rw [e] at ih
    have hl : ((Gr.mks r l).take i).length < 140737488355328 := by rw [List.length_take, mks_length]; omega
    by_cases h : l = []
    · subst h
      refine Ev.step (fun k => ?_) ih
      rw [gradineref19_Axes.l1, if_pos (by omega), if_pos (by simp), if_pos hl, nx i r hi (by omega)]; rfl
    · have h0 : ¬ ((l.length : Int) = 0) := by
        intro h2; apply h; apply List.eq_nil_of_length_eq_zero; omega
      rw [show l.isEmpty = false by cases l <;> simp_all, Bool.false_or] at ih
      refine Ev.step (f := fun k => (gradineref19_Has.f k l (i : Int)).bind fun t142 => gradineref19_Axes.l1 k l ((Gr.mks r l).take i ++ [t142]) (r : Int) ((i + 1 : Nat) : Int)) (fun k => ?_) (Ev.bind (has l _ hn) ih)
      rw [gradineref19_Axes.l1, if_pos (by omega), if_neg h0, nx i r hi (by omega)]
      simp only [if_pos hl]
theorem ref_axes_0 (r : Nat) (hr : r ≤ 6) (l : List Int) (hn : l.length ≤ 1000000000) : ∀ i, i ≤ l.length →
    Ev (fun k => gradineref19_Axes.l0 k (r : Int) l (l.length : Int) (i : Int)) (if Gr.axv r (l.take i) (l.drop i) = true then (Gr.mks r l, 0) else ([], 10)) := by
  apply down
  · rw [List.take_length, List.drop_length, if_pos (by rfl)]
    refine Ev.step (fun k => ?_) (ref_axes_1 r hr l hn 0 (by omega))
    rw [gradineref19_Axes.l0, if_neg (by omega)]; rfl
  · intro i hi ih
    rw [dropc l i hi, Gr.axv]
    by_cases h1 : rd l (i : Int) < 0
    · rw [if_neg (by simp; omega)]
      refine Ev.step (fun k => ?_) (Ev.now _)
      rw [gradineref19_Axes.l0, if_pos (by omega), if_pos (by omega), if_pos (by omega), if_pos h1]
    · by_cases h2 : (r : Int) ≤ rd l (i : Int)
      · rw [if_neg (by simp; omega)]
        refine Ev.step (fun k => ?_) (Ev.now _)
        rw [gradineref19_Axes.l0, if_pos (by omega), if_pos (by omega), if_pos (by omega), if_neg h1, if_pos h2]
      · refine Ev.step (f := fun k => (gradineref19_Has.f k (l.take i) (rd l (i : Int))).bind fun t138 => if t138 = true then some ([], 10) else gradineref19_Axes.l0 k (r : Int) l (l.length : Int) ((i + 1 : Nat) : Int)) (fun k => ?_) (Ev.bind (has (l.take i) (rd l (i : Int)) (by rw [List.length_take]; omega)) ?_)
        · rw [gradineref19_Axes.l0, if_pos (by omega), if_pos (by omega), if_pos (by omega), if_neg h1, if_neg h2, if_pos (by omega), Int.toNat_natCast, nx i _ hi hn]
        · by_cases h3 : (l.take i).contains (rd l (i : Int)) = true
          · rw [h3, if_neg (by simp)]
            refine Ev.congr (fun k => ?_) (Ev.now _)
            rw [if_pos rfl]
          · have e : l.take (i + 1) = l.take i ++ [rd l (i : Int)] := by rw [List.take_succ_eq_append_getElem hi, rdg l i hi]
            rw [e] at ih
            rw [show (decide (0 ≤ rd l (i : Int)) && decide (rd l (i : Int) < (r : Int)) && !((l.take i).contains (rd l (i : Int)))) = true by simp [h3]; simp at h3; exact ⟨by omega, h3⟩, Bool.true_and]
            refine Ev.congr (fun k => ?_) ih
            rw [if_neg h3]
theorem ref_axes (r : Int) (l : List Int) (hn : l.length ≤ 1000000000) : Ev (fun k => gradineref19_Axes.f k r l) (Gr.axs r l) := by
  unfold Gr.axs
  by_cases h0 : r < 0
  · rw [if_pos (.inl h0)]
    refine Ev.congr (f := fun k => gradineref19_Axes.j0 k r l true) (fun k => by rw [gradineref19_Axes.f, if_pos h0]) ?_
    refine Ev.step (fun k => ?_) (Ev.now _)
    rw [gradineref19_Axes.j0, if_pos rfl]
  · refine Ev.congr (f := fun k => gradineref19_Axes.j0 k r l (decide (r > 6))) (fun k => by rw [gradineref19_Axes.f, if_neg h0]) ?_
    by_cases h6 : 6 < r
    · rw [if_pos (.inr h6)]
      refine Ev.step (fun k => ?_) (Ev.now _)
      rw [gradineref19_Axes.j0, if_pos (by simpa using h6)]
    · rw [if_neg (by omega)]
      obtain ⟨n, rfl⟩ := Int.eq_ofNat_of_zero_le (show 0 ≤ r by omega)
      have := ref_axes_0 n (by omega) l hn 0 (by omega)
      rw [List.take_zero, List.drop_zero] at this
      refine Ev.step (fun k => ?_) this
      rw [gradineref19_Axes.j0, if_neg (by simp; omega)]; rfl
theorem axs_length (d l : List Int) (h : (Gr.axs d.length l).2 = 0) : (Gr.axs d.length l).1.length = d.length := by
  unfold Gr.axs at h ⊢
  split at h
  · simp at h
  · rename_i h1
    split at h
    · rename_i h2
      rw [if_neg h1, if_pos h2]
      simp [mks_length]
    · simp at h

/-! Drop, Perm, With -/
theorem drp_length (keep : Bool) (m : List Bool) (d : List Int) : (Gr.drp keep m d).length ≤ d.length := by
  induction d generalizing m with
  | nil => cases m <;> simp [Gr.drp]
  | cons x d ih =>
    cases m with
    | nil => simp [Gr.drp]
    | cons b m =>
      have := ih m
      simp only [Gr.drp]
      split
      · split <;> simp <;> omega
      · simp; omega
theorem drop_l (keep : Bool) (m : List Bool) (d : List Int) (hm : m.length = d.length) (hn : d.length ≤ 6) : ∀ i, i ≤ d.length → ∀ o : List Int, o.length ≤ i →
    Ev (fun k => shape_Drop.l0 k keep m o d (d.length : Int) (i : Int)) (o ++ Gr.drp keep (m.drop i) (d.drop i), 0) := by
  apply down
  · intro o ho
    rw [List.drop_length, ← hm, List.drop_length]
    simp only [Gr.drp, List.append_nil]
    refine Ev.step (fun k => ?_) (Ev.now _)
    rw [shape_Drop.l0, if_neg (by omega)]
  · intro i hi ih o ho
    rw [dropc d i hi, List.drop_eq_getElem_cons (show i < m.length by omega)]
    simp only [Gr.drp]
    have hb := rdb m i (by omega)
    by_cases h1 : m[i] = true
    · rw [if_pos h1]
      by_cases h2 : keep = true
      · rw [if_pos h2]
        have := ih (o ++ [1]) (by simp; omega)
        rw [List.append_assoc, List.singleton_append] at this
        refine Ev.step (fun k => ?_) this
        rw [shape_Drop.l0, if_pos (by omega), if_pos (by omega), if_pos (by omega), if_pos (by omega), hb, if_pos h1, if_pos h2, if_pos (by omega), nx i _ hi (by omega)]
      · rw [if_neg h2]
        refine Ev.step (fun k => ?_) (ih o (by omega))
        rw [shape_Drop.l0, if_pos (by omega), if_pos (by omega), if_pos (by omega), if_pos (by omega), hb, if_pos h1, if_neg h2, nx i _ hi (by omega)]
    · rw [if_neg h1]
      have := ih (o ++ [rd d (i : Int)]) (by simp; omega)
      rw [List.append_assoc, List.singleton_append] at this
      refine Ev.step (fun k => ?_) this
      rw [shape_Drop.l0, if_pos (by omega), if_pos (by omega), if_pos (by omega), if_pos (by omega), hb, if_neg h1, if_pos (by omega), nx i _ hi (by omega)]
theorem ref_drop_l (keep : Bool) (m : List Bool) (d : List Int) (hm : m.length = d.length) (hn : d.length ≤ 6) : ∀ i, i ≤ d.length → ∀ o : List Int, o.length ≤ i →
    Ev (fun k => gradineref19_Drop.l0 k d keep m o (d.length : Int) (i : Int)) (o ++ Gr.drp keep (m.drop i) (d.drop i), 0) := by
  apply down
  · intro o ho
    rw [List.drop_length, ← hm, List.drop_length]
    simp only [Gr.drp, List.append_nil]
    refine Ev.step (fun k => ?_) (Ev.now _)
    rw [gradineref19_Drop.l0, if_neg (by omega)]
  · intro i hi ih o ho
    rw [dropc d i hi, List.drop_eq_getElem_cons (show i < m.length by omega)]
    simp only [Gr.drp]
    have hb := rdb m i (by omega)
    by_cases h1 : m[i] = true
    · rw [if_pos h1]
      by_cases h2 : keep = true
      · rw [if_pos h2]
        have := ih (o ++ [1]) (by simp; omega)
        rw [List.append_assoc, List.singleton_append] at this
        refine Ev.step (fun k => ?_) this
        rw [gradineref19_Drop.l0, if_pos (by omega), if_pos (by omega), if_pos (by omega), hb, if_pos h1, if_pos h2, if_pos (by omega), nx i _ hi (by omega)]
      · rw [if_neg h2]
        refine Ev.step (fun k => ?_) (ih o (by omega))
        rw [gradineref19_Drop.l0, if_pos (by omega), if_pos (by omega), if_pos (by omega), hb, if_pos h1, if_neg h2, nx i _ hi (by omega)]
    · rw [if_neg h1]
      have := ih (o ++ [rd d (i : Int)]) (by simp; omega)
      rw [List.append_assoc, List.singleton_append] at this
      refine Ev.step (fun k => ?_) this
      rw [gradineref19_Drop.l0, if_pos (by omega), if_pos (by omega), if_pos (by omega), hb, if_neg h1, if_pos (by omega), if_pos (by omega), nx i _ hi (by omega)]
theorem drop (d l : List Int) (keep : Bool) (hn : l.length ≤ 1000000000) : Ev (fun k => shape_Drop.f k d l keep) (Gr.drop d l keep) := by
  unfold Gr.drop
  by_cases h : Gr.chk d = 0
  · rw [if_pos h]
    refine Ev.congr (f := fun k => (shape_Axes.f k (d.length : Int) l).bind fun bt149 => if bt149.2 = 0 then shape_Drop.l0 k keep bt149.1 ([] : List Int) d (d.length : Int) 0 else some (([] : List Int), bt149.2)) (fun k => by rw [shape_Drop.f, shape_check, Option.bind_some, if_pos h]) ?_
    refine Ev.bind (axes d.length l hn) ?_
    by_cases h2 : (Gr.axs d.length l).2 = 0
    · simp only [if_pos h2]
      have := drop_l keep (Gr.axs d.length l).1 d (axs_length d l h2) (Gr.chk_ok h).1 0 (by omega) [] (by simp)
      rw [List.drop_zero, List.drop_zero, List.nil_append] at this
      exact this
    · simp only [if_neg h2]
      exact Ev.now _
  · rw [if_neg h]
    refine Ev.congr (fun k => ?_) (Ev.now _)
    rw [shape_Drop.f, shape_check, Option.bind_some, if_neg h]
theorem ref_drop (d l : List Int) (keep : Bool) (hn : l.length ≤ 1000000000) : Ev (fun k => gradineref19_Drop.f k d l keep) (Gr.drop d l keep) := by
  unfold Gr.drop
  refine Ev.congr (fun k => by rw [gradineref19_Drop.f]) (Ev.bind (ref_check d) ?_)
  by_cases h : Gr.chk d = 0
  · simp only [if_pos h]
    refine Ev.bind (ref_axes d.length l hn) ?_
    by_cases h2 : (Gr.axs d.length l).2 = 0
    · simp only [if_pos h2]
      have := ref_drop_l keep (Gr.axs d.length l).1 d (axs_length d l h2) (Gr.chk_ok h).1 0 (by omega) [] (by simp)
      rw [List.drop_zero, List.drop_zero, List.nil_append] at this
      exact this
    · simp only [if_neg h2]
      exact Ev.now _
  · simp only [if_neg h]
    exact Ev.now _

theorem axv_all (r : Int) (s l : List Int) (h : Gr.axv r s l = true) : ∀ a ∈ l, 0 ≤ a ∧ a < r := by
  induction l generalizing s with
  | nil => simp
  | cons x l ih =>
    simp only [Gr.axv, Bool.and_eq_true, decide_eq_true_eq] at h
    intro a ha
    rcases List.mem_cons.1 ha with rfl | ha
    · exact ⟨h.1.1.1, h.1.1.2⟩
    · exact ih _ h.2 a ha
theorem axs_all (d l : List Int) (h : (Gr.axs d.length l).2 = 0) : ∀ a ∈ l, 0 ≤ a ∧ a < (d.length : Int) := by
  unfold Gr.axs at h
  split at h
  · simp at h
  · split at h
    · rename_i h2; exact axv_all _ _ _ h2
    · simp at h
theorem axs_err (d l : List Int) (hd : d.length ≤ 6) (h : ¬ (Gr.axs d.length l).2 = 0) : Gr.axs d.length l = ([], 10) := by
  unfold Gr.axs at h ⊢
  rw [if_neg (by omega)] at h ⊢
  split
  · rename_i h2; rw [if_pos h2] at h; simp at h
  · rfl
theorem at0_rd (d : List Int) (a : Int) : Gr.at0 d a = rd d a := rfl
theorem perm_l (d l : List Int) (hall : ∀ a ∈ l, 0 ≤ a ∧ a < (d.length : Int)) (hn : l.length ≤ 6) : ∀ i, i ≤ l.length → ∀ o : List Int, o.length ≤ i →
    Ev (fun k => shape_Perm.l0 k d o l (l.length : Int) (i : Int)) (o ++ Gr.prm d (l.drop i), 0) := by
  apply down
  · intro o ho
    rw [List.drop_length]
    simp only [Gr.prm, List.map_nil, List.append_nil]
    refine Ev.step (fun k => ?_) (Ev.now _)
    rw [shape_Perm.l0, if_neg (by omega)]
  · intro i hi ih o ho
    have ha := hall (rd l (i : Int)) (by rw [rdg l i hi]; exact List.getElem_mem hi)
    rw [dropc l i hi]
    have := ih (o ++ [rd d (rd l (i : Int))]) (by simp; omega)
    rw [List.append_assoc, List.singleton_append] at this
    refine Ev.step (fun k => ?_) this
    rw [shape_Perm.l0, if_pos (by omega), if_pos (by omega), if_pos (by omega), if_pos (by omega), if_pos (by omega), if_pos (by omega), nx i _ hi (by omega)]
theorem ref_perm_l (d l : List Int) (hall : ∀ a ∈ l, 0 ≤ a ∧ a < (d.length : Int)) (hn : l.length ≤ 6) : ∀ i, i ≤ l.length → ∀ o : List Int, o.length ≤ i →
    Ev (fun k => gradineref19_Perm.l0 k d l o (l.length : Int) (i : Int)) (o ++ Gr.prm d (l.drop i), 0) := by
  apply down
  · intro o ho
    rw [List.drop_length]
    simp only [Gr.prm, List.map_nil, List.append_nil]
    refine Ev.step (fun k => ?_) (Ev.now _)
    rw [gradineref19_Perm.l0, if_neg (by omega)]
  · intro i hi ih o ho
    have ha := hall (rd l (i : Int)) (by rw [rdg l i hi]; exact List.getElem_mem hi)
    rw [dropc l i hi]
    have := ih (o ++ [rd d (rd l (i : Int))]) (by simp; omega)
    rw [List.append_assoc, List.singleton_append] at this
    refine Ev.step (fun k => ?_) this
    rw [gradineref19_Perm.l0, if_pos (by omega), if_pos (by omega), if_pos (by omega), if_pos (by omega), if_pos (by omega), if_pos (by omega), nx i _ hi (by omega)]
theorem perm (d l : List Int) (hn : l.length ≤ 1000000000) : Ev (fun k => shape_Perm.f k d l) (Gr.perm d l) := by
  unfold Gr.perm
  by_cases h : Gr.chk d = 0
  · rw [if_pos h]
    have h6 := (Gr.chk_ok h).1
    by_cases hl : l.length = d.length
    · refine Ev.congr (f := fun k => (shape_Axes.f k (d.length : Int) l).bind fun bt179 => if bt179.2 = 0 then shape_Perm.l0 k d ([] : List Int) l (l.length : Int) 0 else some (([] : List Int), bt179.2)) (fun k => by rw [shape_Perm.f, shape_check, Option.bind_some, if_pos h, if_pos (by omega)]) ?_
      refine Ev.bind (axes d.length l hn) ?_
      by_cases h2 : (Gr.axs d.length l).2 = 0
      · simp only [if_pos h2]
        rw [if_pos ⟨hl, h2⟩]
        have := perm_l d l (axs_all d l h2) (by omega) 0 (by omega) [] (by simp)
        rw [List.drop_zero, List.nil_append] at this
        exact this
      · simp only [if_neg h2]
        rw [if_neg (fun hh => h2 hh.2), axs_err d l h6 h2]
        exact Ev.now _
    · rw [if_neg (fun hh => hl hh.1)]
      refine Ev.congr (fun k => ?_) (Ev.now _)
      rw [shape_Perm.f, shape_check, Option.bind_some, if_pos h, if_neg (by omega)]
  · rw [if_neg h]
    refine Ev.congr (fun k => ?_) (Ev.now _)
    rw [shape_Perm.f, shape_check, Option.bind_some, if_neg h]
theorem ref_perm (d l : List Int) (hn : l.length ≤ 1000000000) : Ev (fun k => gradineref19_Perm.f k d l) (Gr.perm d l) := by
  unfold Gr.perm
  refine Ev.congr (fun k => by rw [gradineref19_Perm.f]) (Ev.bind (ref_check d) ?_)
  by_cases h : Gr.chk d = 0
  · simp only [if_pos h]
    have h6 := (Gr.chk_ok h).1
    refine Ev.bind (ref_axes d.length l hn) ?_
    by_cases h2 : (Gr.axs d.length l).2 = 0
    · simp only [if_pos h2]
      by_cases hl : l.length = d.length
      · rw [if_pos ⟨hl, h2⟩]
        have := ref_perm_l d l (axs_all d l h2) (by omega) 0 (by omega) [] (by simp)
        rw [List.drop_zero, List.nil_append] at this
        refine Ev.step (fun k => ?_) this
        rw [gradineref19_Perm.j0, if_neg (by simp; omega)]; rfl
      · rw [if_neg (fun hh => hl hh.1)]
        refine Ev.step (fun k => ?_) (Ev.now _)
        rw [gradineref19_Perm.j0, if_pos (by simp; omega)]
    · simp only [if_neg h2]
      rw [if_neg (fun hh => h2 hh.2)]
      refine Ev.step (fun k => ?_) (Ev.now _)
      rw [gradineref19_Perm.j0, if_pos rfl]
  · simp only [if_neg h]
    exact Ev.now _
theorem drop_fst_le (d l : List Int) (keep : Bool) : (Gr.drop d l keep).1.length ≤ 6 := by
  unfold Gr.drop
  split
  · rename_i h
    have h6 := (Gr.chk_ok h).1
    split
    · have := drp_length keep (Gr.axs d.length l).1 d
      simp; omega
    · simp
  · simp
theorem perm_fst_le (d l : List Int) : (Gr.perm d l).1.length ≤ 6 := by
  unfold Gr.perm
  split
  · rename_i h
    have h6 := (Gr.chk_ok h).1
    split
    · rename_i h2
      simp [Gr.prm]; omega
    · simp
  · simp
theorem axs_fst_le (r : Int) (l : List Int) : (Gr.axs r l).1.length ≤ 6 := by
  unfold Gr.axs
  split
  · simp
  · split
    · simp [mks_length]; omega
    · simp

end Go.Proofs.Ytpoldofghcmfnaa.S
