/- Plain words and laws for chapter 19: dims, axes, products. No program in sight. -/
import Derived.Test.YtpoldofghcmfnaaMath
namespace Gr

/-- How many elements dims have; 0, if they may not be. -/
def cnt (d : List Int) : Int := if chk d = 0 then prod d else 0
/-- Products of what stands behind. -/
def stp : List Int → List Int
  | [] => []
  | _ :: l => prod l :: stp l
def steps (d : List Int) : List Int := if chk d = 0 then stp d else []
/-- Are axes such as may be, those of 'seen' being taken? -/
def axv (rank : Int) : List Int → List Int → Bool
  | _, [] => true
  | seen, a :: l => decide (0 ≤ a) && decide (a < rank) && !(seen.contains a) && axv rank (seen ++ [a]) l
def marks (rank : Nat) (l : List Int) : List Bool := (List.range rank).map fun i : Nat => l.contains (i : Int)
def mks (rank : Nat) (l : List Int) : List Bool := (List.range rank).map fun i : Nat => l.isEmpty || l.contains (i : Int)
def axs (rank : Int) (l : List Int) : List Bool × Int :=
  if rank < 0 ∨ 6 < rank then ([], 9) else if axv rank [] l = true then (mks rank.toNat l, 0) else ([], 10)
def drp (keep : Bool) : List Bool → List Int → List Int
  | m :: ms, x :: xs => if m = true then (if keep = true then 1 :: drp keep ms xs else drp keep ms xs) else x :: drp keep ms xs
  | _, _ => []
def drop (d axes : List Int) (keep : Bool) : List Int × Int :=
  if chk d = 0 then (if (axs d.length axes).2 = 0 then (drp keep (axs d.length axes).1 d, 0) else ([], (axs d.length axes).2)) else ([], chk d)
def at0 (l : List Int) (i : Int) : Int := l.getD i.toNat 0
def prm (d axes : List Int) : List Int := axes.map fun a => at0 d a
def perm (d axes : List Int) : List Int × Int :=
  if chk d = 0 then (if axes.length = d.length ∧ (axs d.length axes).2 = 0 then (prm d axes, 0) else ([], 10)) else ([], chk d)
def withd (d : List Int) (axis size : Int) : List Int × Int :=
  if chk d = 0 then (if axis < 0 ∨ (d.length : Int) ≤ axis then ([], 10) else (if chk (d.set axis.toNat size) = 0 then (d.set axis.toNat size, 0) else ([], chk (d.set axis.toNat size)))) else ([], chk d)

theorem chk_cases (d : List Int) : chk d = 0 ∨ chk d = 8 ∨ chk d = 9 ∨ chk d = 12 := by
  unfold chk
  split
  · simp
  · split
    · simp
    · split <;> simp
theorem chk_ok {d : List Int} (h : chk d = 0) : d.length ≤ 6 ∧ (∀ x ∈ d, 1 ≤ x) ∧ prod d ≤ 64 := by
  unfold chk at h
  split at h
  · omega
  · rename_i h6
    split at h
    · omega
    · rename_i h1
      split at h
      · omega
      · rename_i h2
        refine ⟨by omega, fun x hx => ?_, by omega⟩
        rw [Bool.not_eq_true, List.any_eq_false] at h1
        have := h1 x hx
        simp at this
        omega
theorem ok_chk {d : List Int} (h6 : d.length ≤ 6) (h1 : ∀ x ∈ d, 1 ≤ x) (h2 : prod d ≤ 64) : chk d = 0 := by
  unfold chk
  rw [if_neg (by omega), if_neg, if_neg (by omega)]
  rw [Bool.not_eq_true, List.any_eq_false]
  intro x hx
  have := h1 x hx
  simp
  omega
theorem ok_le {d : List Int} (h : chk d = 0) : ∀ x ∈ d, x ≤ 64 := by
  obtain ⟨_, h1, h2⟩ := chk_ok h
  intro x hx
  obtain ⟨a, b, rfl⟩ := List.append_of_mem hx
  rw [prod_append] at h2
  simp only [prod] at h2
  have ha := prod_pos a (fun y hy => h1 y (by simp [hy]))
  have hb := prod_pos b (fun y hy => h1 y (by simp [hy]))
  have hx1 := h1 x (by simp)
  have h3 : 1 * (x * prod b) ≤ prod a * (x * prod b) := Int.mul_le_mul_of_nonneg_right ha (Int.mul_nonneg (by omega) (by omega))
  have h4 : x * 1 ≤ x * prod b := Int.mul_le_mul_of_nonneg_left hb (by omega)
  omega
theorem ok_drop {d : List Int} (h : chk d = 0) (i : Nat) : chk (d.drop i) = 0 := by
  obtain ⟨h6, h1, h2⟩ := chk_ok h
  refine ok_chk (by simp; omega) (fun x hx => h1 x (List.mem_of_mem_drop hx)) ?_
  have e : prod d = prod (d.take i) * prod (d.drop i) := by rw [← prod_append, List.take_append_drop]
  have ha := prod_pos (d.take i) (fun y hy => h1 y (List.mem_of_mem_take hy))
  have hb := prod_pos (d.drop i) (fun y hy => h1 y (List.mem_of_mem_drop hy))
  have h3 : 1 * prod (d.drop i) ≤ prod (d.take i) * prod (d.drop i) := Int.mul_le_mul_of_nonneg_right ha (by omega)
  omega
theorem ok_take {d : List Int} (h : chk d = 0) (i : Nat) : chk (d.take i) = 0 := by
  obtain ⟨h6, h1, h2⟩ := chk_ok h
  have := prod_take_le d h1 i
  exact ok_chk (by simp; omega) (fun x hx => h1 x (List.mem_of_mem_take hx)) (by omega)
theorem cnt_ok {d : List Int} (h : chk d = 0) : cnt d = prod d ∧ 1 ≤ cnt d ∧ cnt d ≤ 64 := by
  obtain ⟨h6, h1, h2⟩ := chk_ok h
  have := prod_pos d h1
  unfold cnt
  rw [if_pos h]
  exact ⟨rfl, this, h2⟩
theorem stp_length (d : List Int) : (stp d).length = d.length := by
  induction d with
  | nil => rfl
  | cons x d ih => simp [stp, ih]

/-! Orders of axes -/
theorem prod_perm {a b : List Int} (h : a.Perm b) : prod a = prod b := by
  induction h with
  | nil => rfl
  | cons x _ ih => simp [prod, ih]
  | swap x y l => simp only [prod]; rw [← Int.mul_assoc, ← Int.mul_assoc, Int.mul_comm x y]
  | trans _ _ ih1 ih2 => rw [ih1, ih2]
theorem perm_of_sub {l m : List Int} (hl : l.Nodup) (h : ∀ x ∈ l, x ∈ m) (hn : m.length ≤ l.length) : l.Perm m := by
  induction l generalizing m with
  | nil =>
    have : m = [] := List.eq_nil_of_length_eq_zero (by simp at hn; simp [hn])
    rw [this]
  | cons a l ih =>
    have ha : a ∈ m := h a (by simp)
    have hp := List.perm_cons_erase ha
    rw [List.nodup_cons] at hl
    have hle : (m.erase a).length = m.length - 1 := List.length_erase_of_mem ha
    refine (List.Perm.cons a (ih hl.2 (fun x hx => ?_) (by simp at hn; omega))).trans hp.symm
    have hx2 := h x (by simp [hx])
    refine (List.mem_erase_of_ne (fun e => ?_)).2 hx2
    exact hl.1 (e ▸ hx)
theorem axv_nodup (r : Int) (s l : List Int) (h : axv r s l = true) : l.Nodup ∧ ∀ a ∈ l, a ∉ s := by
  induction l generalizing s with
  | nil => simp
  | cons x l ih =>
    simp only [axv, Bool.and_eq_true, Bool.not_eq_true', decide_eq_true_eq] at h
    obtain ⟨h1, h2⟩ := ih _ h.2
    have hx : x ∉ s := by
      have := h.1.2
      simpa using this
    refine ⟨List.nodup_cons.2 ⟨fun hm => ?_, h1⟩, fun a ha => ?_⟩
    · exact h2 x hm (by simp)
    · rcases List.mem_cons.1 ha with rfl | ha
      · exact hx
      · intro hs; exact h2 a ha (by simp [hs])
theorem axv_all (r : Int) (s l : List Int) (h : axv r s l = true) : ∀ a ∈ l, 0 ≤ a ∧ a < r := by
  induction l generalizing s with
  | nil => simp
  | cons x l ih =>
    simp only [axv, Bool.and_eq_true, decide_eq_true_eq] at h
    intro a ha
    rcases List.mem_cons.1 ha with rfl | ha
    · exact ⟨h.1.1.1, h.1.1.2⟩
    · exact ih _ h.2 a ha
theorem axs_axv {d l : List Int} (h : (axs d.length l).2 = 0) : axv d.length [] l = true := by
  unfold axs at h
  split at h
  · simp at h
  · split at h
    · rename_i h2; exact h2
    · simp at h
theorem at0_range (d : List Int) : ((List.range d.length).map fun i : Nat => at0 d (i : Int)) = d := by
  apply List.ext_getElem (by simp)
  intro i h1 h2
  simp [at0, List.getD_eq_getElem?_getD, List.getElem?_eq_getElem h2]
theorem axes_perm {d l : List Int} (h : (axs d.length l).2 = 0) (hl : l.length = d.length) : l.Perm ((List.range d.length).map fun i : Nat => (i : Int)) := by
  have hv := axs_axv h
  refine perm_of_sub (axv_nodup _ _ _ hv).1 (fun x hx => ?_) (by simp [hl])
  obtain ⟨h0, h1⟩ := axv_all _ _ _ hv x hx
  simp only [List.mem_map, List.mem_range]
  exact ⟨x.toNat, by omega, by omega⟩
theorem prm_perm {d l : List Int} (h : (axs d.length l).2 = 0) (hl : l.length = d.length) : (prm d l).Perm d := by
  have := (axes_perm h hl).map (fun a => at0 d a)
  rw [List.map_map] at this
  have e : ((fun a => at0 d a) ∘ fun i : Nat => (i : Int)) = fun i : Nat => at0 d (i : Int) := rfl
  rw [e, at0_range] at this
  exact this
theorem chk_perm {a b : List Int} (h : a.Perm b) (hb : chk b = 0) : chk a = 0 := by
  obtain ⟨h6, h1, h2⟩ := chk_ok hb
  refine ok_chk (by rw [h.length_eq]; exact h6) (fun x hx => h1 x (h.mem_iff.1 hx)) (by rw [prod_perm h]; exact h2)
/-- The product of the marked ones. -/
def pm : List Bool → List Int → Int
  | m :: ms, x :: xs => if m = true then x * pm ms xs else pm ms xs
  | _, _ => 1
theorem pm_pos (m : List Bool) (d : List Int) (h : ∀ x ∈ d, 1 ≤ x) : 1 ≤ pm m d := by
  induction d generalizing m with
  | nil => cases m <;> simp [pm]
  | cons x d ih =>
    cases m with
    | nil => simp [pm]
    | cons b m =>
      have h1 := h x (by simp)
      have h2 := ih m (fun y hy => h y (by simp [hy]))
      simp only [pm]
      split
      · have : 0 < x * pm m d := Int.mul_pos (by omega) (by omega)
        omega
      · exact h2
theorem drp_pm (m : List Bool) (d : List Int) (hm : m.length = d.length) : prod (drp false m d) * pm m d = prod d := by
  induction d generalizing m with
  | nil => cases m <;> simp [pm, drp, prod]
  | cons x d ih =>
    cases m with
    | nil => simp at hm
    | cons b m =>
      have h2 := ih m (by simpa using hm)
      simp only [pm, drp, prod]
      split
      · simp only [Bool.false_eq_true, if_false]
        rw [← h2, ← Int.mul_assoc, ← Int.mul_assoc, Int.mul_comm x]
      · simp only [prod]
        rw [← h2, Int.mul_assoc]
theorem drp_true (m : List Bool) (d : List Int) (hm : m.length = d.length) : prod (drp true m d) = prod (drp false m d) ∧ (drp true m d).length = d.length := by
  induction d generalizing m with
  | nil => cases m <;> simp [drp, prod]
  | cons x d ih =>
    cases m with
    | nil => simp at hm
    | cons b m =>
      obtain ⟨h2, h3⟩ := ih m (by simpa using hm)
      simp only [drp, if_true]
      split
      · simp [prod, h2, h3]
      · simp [prod, h2, h3]
theorem drp_pos (keep : Bool) (m : List Bool) (d : List Int) (h : ∀ x ∈ d, 1 ≤ x) : ∀ x ∈ drp keep m d, 1 ≤ x := by
  induction d generalizing m with
  | nil => cases m <;> simp [drp]
  | cons x d ih =>
    cases m with
    | nil => simp [drp]
    | cons b m =>
      have h1 := h x (by simp)
      have h2 := ih m (fun y hy => h y (by simp [hy]))
      simp only [drp]
      split
      · split
        · intro y hy; rcases List.mem_cons.1 hy with rfl | hy
          · omega
          · exact h2 y hy
        · exact h2
      · intro y hy; rcases List.mem_cons.1 hy with rfl | hy
        · exact h1
        · exact h2 y hy
theorem drp_len_le (keep : Bool) (m : List Bool) (d : List Int) : (drp keep m d).length ≤ d.length := by
  induction d generalizing m with
  | nil => cases m <;> simp [drp]
  | cons x d ih =>
    cases m with
    | nil => simp [drp]
    | cons b m =>
      have := ih m
      simp only [drp]
      split
      · split <;> simp <;> omega
      · simp; omega
theorem drp_ok (keep : Bool) (m : List Bool) (d : List Int) (hm : m.length = d.length) (h : chk d = 0) : chk (drp keep m d) = 0 ∧ prod (drp keep m d) * pm m d = prod d := by
  obtain ⟨h6, h1, h2⟩ := chk_ok h
  have e : prod (drp keep m d) * pm m d = prod d := by
    cases keep with
    | false => exact drp_pm m d hm
    | true => rw [(drp_true m d hm).1]; exact drp_pm m d hm
  refine ⟨ok_chk (by have := drp_len_le keep m d; omega) (drp_pos keep m d h1) ?_, e⟩
  have p1 := prod_pos _ (drp_pos keep m d h1)
  have p2 := pm_pos m d h1
  have : prod (drp keep m d) * 1 ≤ prod (drp keep m d) * pm m d := Int.mul_le_mul_of_nonneg_left p2 (by omega)
  omega

end Gr
