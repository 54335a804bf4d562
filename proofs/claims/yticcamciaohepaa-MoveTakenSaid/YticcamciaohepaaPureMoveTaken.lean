/- The law MoveTaken: taking what was put to distinct positions restores the elements. -/
import Derived.Test.YticcamciaohepaaQx0
import Derived.Test.YticcamciaohepaaQxfLaw29Many
import Derived.Test.YticcamciaohepaaQxfLaw29SameT
import Derived.Test.YticcamciaohepaaQxfMoveDims
import Derived.Test.YticcamciaohepaaQxfMoveFrom
import Derived.Test.YticcamciaohepaaQxfMoveIs
import Derived.Test.YticcamciaohepaaQxfMovePut
import Derived.Test.YticcamciaohepaaQxfMoveTaken
import Derived.Test.YticcamciaohepaaQxfMoveTo
import Derived.Test.YticcamciaohepaaQxfRef19Check
import Derived.Test.YticcamciaohepaaQxfRef19Count
import Derived.Test.YticcamciaohepaaQxfRef19Has
import Derived.Test.YticcamciaohepaaQxfShapeCheck
import Derived.Test.YticcamciaohepaaQxfShapeCount
import Derived.Test.YticcamciaohepaaQxfShapeWith
import Derived.Test.YticcamciaohepaaQxfSlicesCloneIntInt
import Derived.Test.YticcamciaohepaaQxfWalkAt
import Derived.Test.YticcamciaohepaaQxfWalkIn
import Derived.Test.YticcamciaohepaaQxfWalkPlace
import Derived.Test.YticcamciaohepaaMath
namespace Gr
/-- How many elements dims have; 0, if they may not be. -/
def cnt (d : List Int) : Int := if chk d = 0 then prod d else 0
def at0 (l : List Int) (i : Int) : Int := l.getD i.toNat 0
def withd (d : List Int) (axis size : Int) : List Int × Int :=
  if chk d = 0 then (if axis < 0 ∨ (d.length : Int) ≤ axis then ([], 10) else (if chk (d.set axis.toNat size) = 0 then (d.set axis.toNat size, 0) else ([], chk (d.set axis.toNat size)))) else ([], chk d)
theorem chk_ok {d : List Int} (h : chk d = 0) : d.length ≤ 6 ∧ (∀ x ∈ d, 1 ≤ x) ∧ prod d ≤ 64 := by
  unfold chk at h
  split at h
  · omega
  · rename_i h6
    split at h
    · omega
    · rename_i h1
      split at h
      · omega
      · rename_i h2
        refine ⟨by omega, fun x hx => ?_, by omega⟩
        rw [Bool.not_eq_true, List.any_eq_false] at h1
        have := h1 x hx
        simp at this
        omega
theorem ok_le {d : List Int} (h : chk d = 0) : ∀ x ∈ d, x ≤ 64 := by
  obtain ⟨_, h1, h2⟩ := chk_ok h
  intro x hx
  obtain ⟨a, b, rfl⟩ := List.append_of_mem hx
  rw [prod_append] at h2
  simp only [prod] at h2
  have ha := prod_pos a (fun y hy => h1 y (by simp [hy]))
  have hb := prod_pos b (fun y hy => h1 y (by simp [hy]))
  have hx1 := h1 x (by simp)
  have h3 : 1 * (x * prod b) ≤ prod a * (x * prod b) := Int.mul_le_mul_of_nonneg_right ha (Int.mul_nonneg (by omega) (by omega))
  have h4 : x * 1 ≤ x * prod b := Int.mul_le_mul_of_nonneg_left hb (by omega)
  omega
theorem cnt_ok {d : List Int} (h : chk d = 0) : cnt d = prod d ∧ 1 ≤ cnt d ∧ cnt d ≤ 64 := by
  obtain ⟨h6, h1, h2⟩ := chk_ok h
  have := prod_pos d h1
  unfold cnt
  rw [if_pos h]
  exact ⟨rfl, this, h2⟩
/-- The place of the n-th element. -/
def dig : List Int → Int → List Int
  | [], _ => []
  | x :: l, n => n / prod l % x :: dig l n
/-- The number of a place. -/
def num : List Int → List Int → Int
  | _ :: d, a :: r => a * prod d + num d r
  | _, _ => 0
/-- Is it a place of these dims? -/
def inb : List Int → List Int → Bool
  | [], [] => true
  | x :: d, a :: r => decide (0 ≤ a) && decide (a < x) && inb d r
  | _, _ => false
def ind (d at_ : List Int) : Bool := decide (chk d = 0) && inb d at_
def att (d : List Int) (n : Int) : List Int × Bool := if 0 ≤ n ∧ n < cnt d then (dig d n, true) else ([], false)
def plc (d at_ : List Int) : Int × Bool := if ind d at_ = true then (num d at_, true) else (0, false)
theorem inb_dig (d : List Int) (h : ∀ x ∈ d, 1 ≤ x) (n : Int) : inb d (dig d n) = true := by
  induction d with
  | nil => rfl
  | cons x d ih =>
    have hx := h x (by simp)
    simp only [inb, dig]
    rw [ih (fun y hy => h y (by simp [hy]))]
    have b1 := Int.emod_nonneg (n / prod d) (show x ≠ 0 by omega)
    have b2 := Int.emod_lt_of_pos (n / prod d) (show 0 < x by omega)
    simp [b1, b2]
theorem inb_length {d r : List Int} (h : inb d r = true) : r.length = d.length := by
  induction d generalizing r with
  | nil => cases r <;> simp_all [inb]
  | cons x d ih =>
    cases r with
    | nil => simp [inb] at h
    | cons a r =>
      simp only [inb, Bool.and_eq_true] at h
      simp [ih h.2]
theorem num_lt (d r : List Int) (h : ∀ x ∈ d, 1 ≤ x) (hi : inb d r = true) : 0 ≤ num d r ∧ num d r < prod d := by
  induction d generalizing r with
  | nil => cases r <;> simp [num, prod]
  | cons x d ih =>
    cases r with
    | nil => simp [inb] at hi
    | cons a r =>
      simp only [inb, Bool.and_eq_true, decide_eq_true_eq] at hi
      obtain ⟨i1, i2⟩ := ih r (fun y hy => h y (by simp [hy])) hi.2
      have hp := prod_pos d (fun y hy => h y (by simp [hy]))
      simp only [num, prod]
      have b5 : 0 ≤ a * prod d := Int.mul_nonneg hi.1.1 (by omega)
      have b6 : (a + 1) * prod d ≤ x * prod d := Int.mul_le_mul_of_nonneg_right (by omega) (by omega)
      rw [Int.add_mul] at b6
      omega
def inr (l : List Int) (m : Int) : Bool := l.all fun i => decide (0 ≤ i) && decide (i < m)
def putd (d : List Int) (n a : Int) (l : List Int) : List Int × Int :=
  if (withd d n a).2 = 0 then (if (l.length : Int) = at0 d n then (if inr l a = true then ((withd d n a).1, 0) else ([], 11)) else ([], 8)) else ([], (withd d n a).2)
def takd (d : List Int) (n : Int) (l : List Int) : List Int × Int :=
  if n < 0 ∨ (d.length : Int) ≤ n then ([], 10) else if inr l (at0 d n) = true then withd d n (l.length : Int) else ([], 11)
/-- Where an element goes, or comes from. -/
def mvp (n : Int) (l p : List Int) : List Int := p.set n.toNat (at0 l (at0 p n))
theorem inr_cons (x : Int) (l : List Int) (m : Int) : inr (x :: l) m = true ↔ (0 ≤ x ∧ x < m) ∧ inr l m = true := by
  simp [inr, List.all_cons]
theorem inr_at {l : List Int} {m : Int} (h : inr l m = true) (i : Nat) (hi : i < l.length) : 0 ≤ l[i] ∧ l[i] < m := by
  unfold inr at h
  rw [List.all_eq_true] at h
  simpa using h _ (List.getElem_mem hi)
theorem at0_get (l : List Int) (i : Nat) (h : i < l.length) : at0 l (i : Int) = l[i] := by
  simp [at0, List.getD_eq_getElem?_getD, List.getElem?_eq_getElem h]
theorem inb_at {d p : List Int} (h : inb d p = true) (i : Nat) (hi : i < d.length) : 0 ≤ at0 p (i : Int) ∧ at0 p (i : Int) < at0 d (i : Int) := by
  induction d generalizing p i with
  | nil => simp at hi
  | cons x d ih =>
    cases p with
    | nil => simp [inb] at h
    | cons a r =>
      simp only [inb, Bool.and_eq_true, decide_eq_true_eq] at h
      cases i with
      | zero => simpa [at0] using h.1
      | succ i =>
        have := ih h.2 i (by simpa using hi)
        simpa [at0] using this
theorem inb_set {d p : List Int} (h : inb d p = true) (i : Nat) (a v : Int) (h0 : 0 ≤ v) (h1 : v < a) : inb (d.set i a) (p.set i v) = true := by
  induction d generalizing p i with
  | nil => cases p with
    | nil => rfl
    | cons a r => simp [inb] at h
  | cons x d ih =>
    cases p with
    | nil => simp [inb] at h
    | cons b r =>
      simp only [inb, Bool.and_eq_true, decide_eq_true_eq] at h
      cases i with
      | zero => simp [inb, h0, h1, h.2]
      | succ i => simp [inb, h.1.1, h.1.2, ih h.2 i]
theorem withd_ok {d : List Int} {n a : Int} (h : (withd d n a).2 = 0) : chk d = 0 ∧ 0 ≤ n ∧ n < (d.length : Int) ∧ chk (d.set n.toNat a) = 0 ∧ withd d n a = (d.set n.toNat a, 0) := by
  unfold withd at h ⊢
  split at h
  · rename_i h1
    split at h
    · simp at h
    · rename_i h2
      split at h
      · rename_i h3
        exact ⟨h1, by omega, by omega, h3, by rw [if_pos h1, if_neg h2, if_pos h3]⟩
      · exact absurd h (by assumption)
  · exact absurd h (by assumption)
theorem putd_ok {d : List Int} {n a : Int} {l : List Int} (h : (putd d n a l).2 = 0) :
    chk d = 0 ∧ 0 ≤ n ∧ n < (d.length : Int) ∧ chk (d.set n.toNat a) = 0 ∧ (l.length : Int) = at0 d n ∧ inr l a = true ∧ putd d n a l = (d.set n.toNat a, 0) := by
  unfold putd at h ⊢
  split at h
  · rename_i h1
    obtain ⟨w1, w2, w3, w4, w5⟩ := withd_ok h1
    split at h
    · rename_i h2
      split at h
      · rename_i h3
        exact ⟨w1, w2, w3, w4, h2, h3, by rw [if_pos h1, if_pos h2, if_pos h3, w5]⟩
      · simp at h
    · simp at h
  · exact absurd h (by assumption)
theorem putd_err {d : List Int} {n a : Int} {l : List Int} (h : ¬ (putd d n a l).2 = 0) : (putd d n a l).1 = [] := by
  unfold putd at h ⊢
  split
  · split
    · split
      · rename_i h1 h2 h3
        rw [if_pos h1, if_pos h2, if_pos h3] at h
        exact absurd rfl h
      · rfl
    · rfl
  · rfl
theorem at0_set (d : List Int) (n a : Int) (h0 : 0 ≤ n) (h1 : n < (d.length : Int)) : at0 (d.set n.toNat a) n = a := by
  obtain ⟨m, rfl⟩ := Int.eq_ofNat_of_zero_le h0
  rw [Int.toNat_natCast, at0_get _ m (by simp; omega), List.getElem_set_self]
/-- What was put, taken: the dims are those at first. -/
theorem take_put {d : List Int} {n a : Int} {l : List Int} (h : (putd d n a l).2 = 0) : takd (d.set n.toNat a) n l = (d, 0) := by
  obtain ⟨w1, w2, w3, w4, w5, w6, w7⟩ := putd_ok h
  have e : (d.set n.toNat a).set n.toNat (l.length : Int) = d := by
    obtain ⟨m, rfl⟩ := Int.eq_ofNat_of_zero_le w2
    rw [Int.toNat_natCast, List.set_set, w5, at0_get _ m (by omega), List.set_getElem_self]
  unfold takd
  rw [if_neg (by simp; omega), at0_set d n a w2 w3, if_pos w6]
  unfold withd
  rw [if_pos w4, if_neg (by simp; omega), e, if_pos w1]
theorem takd_ok {d : List Int} {n : Int} {l : List Int} (h : (takd d n l).2 = 0) :
    chk d = 0 ∧ 0 ≤ n ∧ n < (d.length : Int) ∧ chk (d.set n.toNat (l.length : Int)) = 0 ∧ inr l (at0 d n) = true ∧ takd d n l = (d.set n.toNat (l.length : Int), 0) := by
  unfold takd at h ⊢
  split at h
  · simp at h
  · rename_i h1
    split at h
    · rename_i h2
      obtain ⟨w1, w2, w3, w4, w5⟩ := withd_ok h
      exact ⟨w1, w2, w3, w4, h2, by rw [if_neg h1, if_pos h2, w5]⟩
    · simp at h
theorem take_in {d : List Int} {n : Int} {l p : List Int} (h : (takd d n l).2 = 0) (hp : inb (d.set n.toNat (l.length : Int)) p = true) : (0 ≤ at0 p n ∧ at0 p n < (l.length : Int)) ∧ inb d (mvp n l p) = true := by
  obtain ⟨w1, w2, w3, w4, w5, w6⟩ := takd_ok h
  obtain ⟨m, rfl⟩ := Int.eq_ofNat_of_zero_le w2
  rw [Int.toNat_natCast] at hp
  have h1 := inb_at hp m (by simp; omega)
  rw [at0_get (d.set m (l.length : Int)) m (by simp; omega), List.getElem_set_self] at h1
  refine ⟨h1, ?_⟩
  obtain ⟨q, hq⟩ := Int.eq_ofNat_of_zero_le h1.1
  have h3 := inr_at w5 q (by omega)
  rw [at0_get d m (by omega)] at h3
  unfold mvp
  rw [hq, at0_get l q (by omega), Int.toNat_natCast]
  have := inb_set hp m d[m] l[q] h3.1 h3.2
  rwa [List.set_set, List.set_getElem_self] at this
theorem put_in {d : List Int} {n a : Int} {l p : List Int} (h : (putd d n a l).2 = 0) (hp : inb d p = true) : (0 ≤ at0 p n ∧ at0 p n < (l.length : Int)) ∧ inb (d.set n.toNat a) (mvp n l p) = true := by
  obtain ⟨w1, w2, w3, w4, w5, w6, w7⟩ := putd_ok h
  obtain ⟨m, rfl⟩ := Int.eq_ofNat_of_zero_le w2
  have h1 := inb_at hp m (by omega)
  have h2 : 0 ≤ at0 p (m : Int) ∧ at0 p (m : Int) < (l.length : Int) := ⟨h1.1, by omega⟩
  refine ⟨h2, ?_⟩
  obtain ⟨q, hq⟩ := Int.eq_ofNat_of_zero_le h2.1
  have h3 := inr_at w6 q (by omega)
  unfold mvp
  rw [hq, at0_get l q (by omega), Int.toNat_natCast]
  exact inb_set hp m a _ h3.1 h3.2
end Gr
namespace Go.Proofs.Yticcamciaohepaa.S
open Go.RowKit Go.Proofs.Yticcamciaohepaa.Q Go.Proofs.YticcamciaohepaaW.PrintWords Go.Proofs.YticcamciaohepaaW.PrintLast
set_option linter.unusedVariables false
set_option linter.unusedSimpArgs false
theorem w64 {x : Int} (h0 : -9223372036854775808 ≤ x) (h1 : x ≤ 9223372036854775807) : wrap64 x = x := by
  unfold wrap64; omega
theorem down (P : Nat → Prop) (n : Nat) (h0 : P n) (hs : ∀ i, i < n → P (i + 1) → P i) : ∀ i, i ≤ n → P i := by
  intro i hi
  obtain ⟨d, rfl⟩ : ∃ d, n = i + d := ⟨n - i, by omega⟩
  clear hi
  induction d generalizing i with
  | zero => exact h0
  | succ d ih =>
    apply hs i (by omega)
    exact ih (i + 1) (by rw [show i + 1 + d = i + (d + 1) by omega]; exact h0) (fun j hj hp => hs j (by omega) hp)
theorem rdg (l : List Int) (i : Nat) (h : i < l.length) : rd l (i : Int) = l[i] := by
  simp [rd, List.getD_eq_getElem?_getD, List.getElem?_eq_getElem h]
theorem dropc (l : List Int) (i : Nat) (h : i < l.length) : l.drop i = rd l (i : Int) :: l.drop (i + 1) := by
  rw [rdg l i h]; exact (List.drop_eq_getElem_cons h)
theorem nx (i n : Nat) (h : i < n) (hn : n ≤ 1000000000) : wrap64 ((i : Int) + 1) = ((i + 1 : Nat) : Int) := by
  rw [w64 (by omega) (by omega)]; omega
theorem shape_check (d : List Int) : shape_Check.f d = some (Gr.chk d) := rfl
theorem check_1 (d : List Int) (hok : ∀ x ∈ d, 1 ≤ x) (hn : d.length ≤ 6) : ∀ i, i ≤ d.length → Gr.prod (d.take i) ≤ 64 →
    Ev (fun k => gradineref19_Check.l1 k d (Gr.prod (d.take i)) (d.length : Int) (i : Int)) (if 64 < Gr.prod d then 12 else 0) := by
  apply down
  · intro h
    rw [List.take_length] at h ⊢
    rw [if_neg (by omega)]
    refine Ev.step (fun k => ?_) (Ev.now 0)
    rw [gradineref19_Check.l1, if_neg (by omega)]
  · intro i hi ih h
    have hp := Gr.prod_pos (d.take i) (fun x hx => hok x (List.mem_of_mem_take hx))
    have hs := Gr.prod_take_succ d i hi
    have h1 : 1 ≤ d[i] := hok _ (List.getElem_mem hi)
    have hle := Gr.prod_take_le d hok (i + 1)
    have hge : d[i] ≤ Gr.prod (d.take i) * d[i] := by
      have : 1 * d[i] ≤ Gr.prod (d.take i) * d[i] := Int.mul_le_mul_of_nonneg_right hp (by omega)
      omega
    by_cases e : 64 < d[i]
    · rw [if_pos (by omega)]
      refine Ev.step (fun k => ?_) (Ev.now 12)
      rw [gradineref19_Check.l1, if_pos (by omega), if_pos (by omega), if_pos (by omega), rdg d i hi, if_pos (by omega)]
    · have hb : Gr.prod (d.take i) * d[i] ≤ 64 * 64 := Int.mul_le_mul h (by omega) (by omega) (by omega)
      by_cases e2 : 64 < Gr.prod (d.take i) * d[i]
      · rw [if_pos (by omega)]
        refine Ev.step (fun k => ?_) (Ev.now 12)
        rw [gradineref19_Check.l1, if_pos (by omega), if_pos (by omega), if_pos (by omega), rdg d i hi, if_neg (by omega), w64 (by omega) (by omega), if_pos (by omega)]
      · refine Ev.step (fun k => ?_) (ih (by omega))
        rw [gradineref19_Check.l1, if_pos (by omega), if_pos (by omega), if_pos (by omega), rdg d i hi, if_neg (by omega), w64 (by omega) (by omega), if_neg (by omega), nx i _ hi (by omega), ← hs]
theorem check_0 (d : List Int) (hn : d.length ≤ 6) : ∀ i, i ≤ d.length → (∀ x ∈ d.take i, 1 ≤ x) →
    Ev (fun k => gradineref19_Check.l0 k d (d.length : Int) (i : Int)) (Gr.chk d) := by
  apply down
  · intro h
    rw [List.take_length] at h
    have e : Gr.chk d = if 64 < Gr.prod d then 12 else 0 := by
      unfold Gr.chk
      rw [if_neg (by omega), if_neg]
      rw [Bool.not_eq_true, List.any_eq_false]
      intro x hx
      have := h x hx
      simp; omega
    rw [e]
    refine Ev.step (fun k => ?_) (check_1 d h hn 0 (by omega) (by simp [Gr.prod]))
    rw [gradineref19_Check.l0, if_neg (by omega)]; simp [Gr.prod]
  · intro i hi ih h
    by_cases e : d[i] < 1
    · have e8 : Gr.chk d = 8 := by
        unfold Gr.chk
        rw [if_neg (by omega), if_pos]
        rw [List.any_eq_true]
        exact ⟨d[i], List.getElem_mem hi, by simpa using e⟩
      rw [e8]
      refine Ev.step (fun k => ?_) (Ev.now 8)
      rw [gradineref19_Check.l0, if_pos (by omega), if_pos (by omega), if_pos (by omega), rdg d i hi, if_pos (by omega)]
    · refine Ev.step (fun k => ?_) (ih ?_)
      · rw [gradineref19_Check.l0, if_pos (by omega), if_pos (by omega), if_pos (by omega), rdg d i hi, if_neg (by omega), nx i _ hi (by omega)]
      · intro x hx
        rw [List.take_succ_eq_append_getElem hi, List.mem_append] at hx
        rcases hx with hx | hx
        · exact h x hx
        · simp at hx; omega
theorem ref_check (d : List Int) : Ev (fun k => gradineref19_Check.f k d) (Gr.chk d) := by
  by_cases h : 6 < d.length
  · have e : Gr.chk d = 9 := by unfold Gr.chk; rw [if_pos h]
    rw [e]
    refine Ev.congr (fun k => ?_) (Ev.now 9)
    rw [gradineref19_Check.f, if_pos (by omega)]
  · refine Ev.congr (fun k => ?_) (check_0 d (by omega) 0 (by omega) (by simp))
    rw [gradineref19_Check.f, if_neg (by omega)]; rfl
theorem prod_step {d : List Int} (hok : Gr.chk d = 0) (i : Nat) (hi : i < d.length) :
    1 ≤ Gr.prod (d.take i) ∧ Gr.prod (d.take i) * d[i] = Gr.prod (d.take (i + 1)) ∧ Gr.prod (d.take (i + 1)) ≤ 64 ∧ 1 ≤ Gr.prod (d.take (i + 1)) := by
  obtain ⟨h6, h1, h2⟩ := Gr.chk_ok hok
  have := Gr.prod_take_le d h1 (i + 1)
  exact ⟨Gr.prod_pos _ (fun x hx => h1 x (List.mem_of_mem_take hx)), (Gr.prod_take_succ d i hi).symm, by omega, Gr.prod_pos _ (fun x hx => h1 x (List.mem_of_mem_take hx))⟩
theorem count_l (d : List Int) (hok : Gr.chk d = 0) : ∀ i, i ≤ d.length →
    Ev (fun k => shape_Count.l0 k (Gr.prod (d.take i)) d (d.length : Int) (i : Int)) (Gr.prod d) := by
  obtain ⟨h6, h1, h2⟩ := Gr.chk_ok hok
  apply down
  · rw [List.take_length]
    refine Ev.step (fun k => ?_) (Ev.now _)
    rw [shape_Count.l0, if_neg (by omega)]
  · intro i hi ih
    obtain ⟨p1, p2, p3, p4⟩ := prod_step hok i hi
    refine Ev.step (fun k => ?_) ih
    rw [shape_Count.l0, if_pos (by omega), if_pos (by omega), if_pos (by omega), rdg d i hi, w64 (by omega) (by omega), nx i _ hi (by omega), p2]
theorem shape_count (d : List Int) : Ev (fun k => shape_Count.f k d) (Gr.cnt d) := by
  unfold Gr.cnt
  by_cases h : Gr.chk d = 0
  · rw [if_pos h]
    refine Ev.congr (fun k => ?_) (count_l d h 0 (by omega))
    rw [shape_Count.f, shape_check, Option.bind_some, if_pos h]; simp [Gr.prod]
  · rw [if_neg h]
    refine Ev.congr (fun k => ?_) (Ev.now 0)
    rw [shape_Count.f, shape_check, Option.bind_some, if_neg h]
theorem has_l (l : List Int) (x : Int) (hn : l.length ≤ 1000000000) : ∀ i, i ≤ l.length →
    Ev (fun k => gradineref19_Has.l0 k l x (l.length : Int) (i : Int)) ((l.drop i).contains x) := by
  apply down
  · rw [List.drop_length]
    refine Ev.step (fun k => ?_) (Ev.now _)
    rw [gradineref19_Has.l0, if_neg (by omega)]; rfl
  · intro i hi ih
    rw [dropc l i hi, List.contains_cons]
    by_cases e : rd l (i : Int) = x
    · rw [show (x == rd l (i : Int)) = true by simp [e], Bool.true_or]
      refine Ev.step (fun k => ?_) (Ev.now true)
      rw [gradineref19_Has.l0, if_pos (by omega), if_pos (by omega), if_pos (by omega), if_pos e]
    · rw [show (x == rd l (i : Int)) = false by simp; exact fun h => e h.symm, Bool.false_or]
      refine Ev.step (fun k => ?_) ih
      rw [gradineref19_Has.l0, if_pos (by omega), if_pos (by omega), if_pos (by omega), if_neg e, nx i _ hi hn]
theorem has (l : List Int) (x : Int) (hn : l.length ≤ 1000000000) : Ev (fun k => gradineref19_Has.f k l x) (l.contains x) := by
  exact has_l l x hn 0 (by omega)
theorem at0_rd (d : List Int) (a : Int) : Gr.at0 d a = rd d a := rfl
theorem withp (d : List Int) (a s : Int) : Ev (fun k => shape_With.f k d a s) (Gr.withd d a s) := by
  unfold Gr.withd
  by_cases h : Gr.chk d = 0
  · have h6 := (Gr.chk_ok h).1
    rw [if_pos h]
    by_cases h0 : a < 0
    · rw [if_pos (.inl h0)]
      refine Ev.congr (fun k => by rw [shape_With.f, shape_check, Option.bind_some, if_pos h, if_pos h0]) ?_
      refine Ev.step (fun k => ?_) (Ev.now _)
      rw [shape_With.j0, if_pos rfl]
    · refine Ev.congr (fun k => by rw [shape_With.f, shape_check, Option.bind_some, if_pos h, if_neg h0]) ?_
      by_cases h1 : (d.length : Int) ≤ a
      · rw [if_pos (.inr h1)]
        refine Ev.step (fun k => ?_) (Ev.now _)
        rw [shape_With.j0, if_pos (decide_eq_true h1)]
      · rw [if_neg (by omega)]
        refine Ev.step (fun k => ?_) (Ev.now _)
        rw [shape_With.j0, if_neg (by simp; omega), slices_Clone_int_int.f, if_pos (by omega), Option.bind_some, if_pos (by omega), if_pos (by omega), Option.bind_some, shape_check, Option.bind_some]
        split <;> rfl
  · rw [if_neg h]
    refine Ev.congr (fun k => ?_) (Ev.now _)
    rw [shape_With.f, shape_check, Option.bind_some, if_neg h]
theorem ref_count_l (d : List Int) (hok : Gr.chk d = 0) : ∀ i, i ≤ d.length → Ev (fun k => gradineref19_Count.l0 k d (Gr.prod (d.take i)) (d.length : Int) (i : Int)) (Gr.prod d) := by
  obtain ⟨h6, h1, h2⟩ := Gr.chk_ok hok
  apply down
  · rw [List.take_length]
    refine Ev.step (fun k => ?_) (Ev.now _)
    rw [gradineref19_Count.l0, if_neg (by omega)]
  · intro i hi ih
    have hs := Gr.prod_take_succ d i hi
    have hle := Gr.prod_take_le d h1 (i + 1)
    have hp := Gr.prod_pos (d.take (i + 1)) (fun x hx => h1 x (List.mem_of_mem_take hx))
    rw [hs] at ih hle hp
    refine Ev.step (fun k => ?_) ih
    rw [gradineref19_Count.l0, if_pos (by omega), if_pos (by omega), if_pos (by omega), rdg d i hi, w64 (by omega) (by omega), nx i _ hi (by omega)]
theorem ref_count (d : List Int) : Ev (fun k => gradineref19_Count.f k d) (Gr.cnt d) := by
  refine Ev.congr (fun k => by rw [gradineref19_Count.f]) (Ev.bind (ref_check d) ?_)
  unfold Gr.cnt
  by_cases h : Gr.chk d = 0
  · simp only [if_pos h]
    have := ref_count_l d h 0 (by omega)
    exact this
  · simp only [if_neg h]; exact Ev.now _
theorem at_set (d x : List Int) (m : Int) (i : Nat) (hi : i < d.length) (hl : x.length = d.length) (hx : x.drop (i + 1) = Gr.dig (d.drop (i + 1)) m) :
    (x.set i (m / Gr.prod (d.drop (i + 1)) % rd d (i : Int))).drop i = Gr.dig (d.drop i) m := by
  rw [List.drop_eq_getElem_cons (by simp; omega), dropc d i hi]
  simp only [List.getElem_set_self, Gr.dig, List.cons.injEq, true_and]
  rw [List.drop_set_of_lt (by omega)]
  exact hx
theorem at_l (d : List Int) (hok : Gr.chk d = 0) (m : Int) (hm : 0 ≤ m) (hm2 : m ≤ 64) : ∀ i, i ≤ d.length → ∀ x : List Int, x.length = d.length → x.drop i = Gr.dig (d.drop i) m →
    Ev (fun k => walk_At.l0 k d (m / Gr.prod (d.drop i)) x ((i : Int) - 1)) (Gr.dig d m, true) := by
  obtain ⟨h6, h1, h2⟩ := Gr.chk_ok hok
  intro i
  induction i with
  | zero =>
    intro hi x hl hx
    simp at hx
    subst hx
    refine Ev.step (fun k => ?_) (Ev.now _)
    rw [walk_At.l0, if_neg (by omega)]
  | succ i ih =>
    intro hi x hl hx
    have hlt : i < d.length := by omega
    have hd : d.drop i = d[i] :: d.drop (i + 1) := List.drop_eq_getElem_cons hlt
    have hge : 1 ≤ d[i] := h1 _ (List.getElem_mem hlt)
    have hle : d[i] ≤ 64 := Gr.ok_le hok _ (List.getElem_mem hlt)
    have q3 := Gr.prod_pos (d.drop (i + 1)) (fun y hy => h1 y (List.mem_of_mem_drop hy))
    have hp : Gr.prod (d.drop i) = Gr.prod (d.drop (i + 1)) * d[i] := by rw [hd]; simp only [Gr.prod]; rw [Int.mul_comm]
    have h0 : 0 ≤ m / Gr.prod (d.drop (i + 1)) := Int.ediv_nonneg hm (by omega)
    have h64 : m / Gr.prod (d.drop (i + 1)) ≤ m := Int.ediv_le_self _ hm
    have e1 : Int.tdiv (m / Gr.prod (d.drop (i + 1))) d[i] = m / Gr.prod (d.drop i) := by
      rw [Int.tdiv_eq_ediv_of_nonneg h0, hp, Int.ediv_ediv, if_neg (by omega), Int.sub_zero]
    have e2 : Int.tmod (m / Gr.prod (d.drop (i + 1))) d[i] = m / Gr.prod (d.drop (i + 1)) % d[i] := Int.tmod_eq_emod_of_nonneg h0
    have b0 : 0 ≤ m / Gr.prod (d.drop i) := Int.ediv_nonneg hm (by have := Gr.prod_pos (d.drop i) (fun y hy => h1 y (List.mem_of_mem_drop hy)); omega)
    have b1 : m / Gr.prod (d.drop i) ≤ m := Int.ediv_le_self _ hm
    refine Ev.step (fun k => ?_) (ih (by omega) (x.set i (m / Gr.prod (d.drop (i + 1)) % rd d (i : Int))) (by simp [hl]) (at_set d x m i hlt hl hx))
    rw [walk_At.l0, show (((i + 1 : Nat) : Int) - 1) = (i : Int) by omega, if_pos (by omega), if_pos (by omega), if_pos (by omega), rdg d i hlt, if_neg (by omega), if_pos (by omega), e1, e2, w64 (by omega) (by omega), w64 (by omega) (by omega), Int.toNat_natCast]
theorem walk_at (d : List Int) (n : Int) : Ev (fun k => walk_At.f k d n) (Gr.att d n) := by
  unfold Gr.att
  by_cases h0 : n < 0
  · rw [if_neg (by omega)]
    refine Ev.congr (f := fun k => walk_At.j0 k d n true) (fun k => by rw [walk_At.f, if_pos h0]) ?_
    refine Ev.step (fun k => ?_) (Ev.now _)
    rw [walk_At.j0, if_pos rfl]
  · refine Ev.congr (f := fun k => (shape_Count.f k d).bind fun t => walk_At.j0 k d n (decide (n ≥ t))) (fun k => by rw [walk_At.f, if_neg h0]) ?_
    refine Ev.bind (shape_count d) ?_
    by_cases h1 : n < Gr.cnt d
    · rw [if_pos ⟨by omega, h1⟩]
      have hok : Gr.chk d = 0 := by
        apply Decidable.byContradiction
        intro hc; unfold Gr.cnt at h1; rw [if_neg hc] at h1; omega
      obtain ⟨c1, c2, c3⟩ := Gr.cnt_ok hok
      have h6 := (Gr.chk_ok hok).1
      have := at_l d hok n (by omega) (by omega) d.length (by omega) (List.replicate d.length 0) (by simp) (by simp [Gr.dig])
      rw [List.drop_length] at this
      simp only [Gr.prod, Int.ediv_one] at this
      refine Ev.step (fun k => ?_) this
      rw [walk_At.j0, if_neg (by simp; omega), if_pos (by omega), if_pos (by simp; omega), w64 (by omega) (by omega), Int.toNat_natCast]
    · rw [if_neg (by omega)]
      refine Ev.step (fun k => ?_) (Ev.now _)
      rw [walk_At.j0, if_pos (by simp; omega)]
theorem in_l (d r : List Int) (hl : r.length = d.length) (hn : d.length ≤ 6) : ∀ i, i ≤ r.length →
    Ev (fun k => walk_in.l0 k d r (r.length : Int) (i : Int)) (Gr.inb (d.drop i) (r.drop i)) := by
  apply down
  · rw [List.drop_length, hl, List.drop_length]
    refine Ev.step (fun k => ?_) (Ev.now _)
    rw [walk_in.l0, if_neg (by omega)]; rfl
  · intro i hi ih
    rw [dropc d i (by omega), dropc r i hi]
    simp only [Gr.inb]
    by_cases h1 : rd r (i : Int) < 0
    · rw [show decide (0 ≤ rd r (i : Int)) = false by simp; omega, Bool.false_and, Bool.false_and]
      refine Ev.step (fun k => ?_) (Ev.now _)
      rw [walk_in.l0, if_pos (by omega), if_pos (by omega), if_pos (by omega), if_pos h1]
    · rw [show decide (0 ≤ rd r (i : Int)) = true by simp; omega, Bool.true_and]
      by_cases h2 : rd d (i : Int) ≤ rd r (i : Int)
      · rw [show decide (rd r (i : Int) < rd d (i : Int)) = false by simp; omega, Bool.false_and]
        refine Ev.step (fun k => ?_) (Ev.now _)
        rw [walk_in.l0, if_pos (by omega), if_pos (by omega), if_pos (by omega), if_neg h1, if_pos (by omega), if_pos h2]
      · rw [show decide (rd r (i : Int) < rd d (i : Int)) = true by simp; omega, Bool.true_and]
        refine Ev.step (fun k => ?_) ih
        rw [walk_in.l0, if_pos (by omega), if_pos (by omega), if_pos (by omega), if_neg h1, if_pos (by omega), if_neg h2, nx i _ hi (by omega)]
theorem walk_ind (d r : List Int) : Ev (fun k => walk_in.f k d r) (Gr.ind d r) := by
  unfold Gr.ind
  refine Ev.congr (fun k => by rw [walk_in.f, shape_check, Option.bind_some]) ?_
  by_cases h : Gr.chk d = 0
  · have h6 := (Gr.chk_ok h).1
    simp only [if_pos h]
    rw [decide_eq_true h, Bool.true_and]
    by_cases hl : r.length = d.length
    · refine Ev.step (fun k => ?_) (in_l d r hl h6 0 (by omega))
      rw [walk_in.j0, if_neg (by simp; omega)]; rfl
    · rw [show Gr.inb d r = false by
        apply Decidable.byContradiction
        intro hc; exact hl (Gr.inb_length (by simpa using hc))]
      refine Ev.step (fun k => ?_) (Ev.now _)
      rw [walk_in.j0, if_pos (by simp; omega)]
  · simp only [if_neg h]
    rw [decide_eq_false h, Bool.false_and]
    refine Ev.step (fun k => ?_) (Ev.now _)
    rw [walk_in.j0, if_pos rfl]
theorem place_l (d r : List Int) (hok : Gr.chk d = 0) (hi2 : Gr.inb d r = true) : ∀ i, i ≤ r.length → ∀ n : Int, 0 ≤ n → n * Gr.prod (d.drop i) + Gr.num (d.drop i) (r.drop i) ≤ 64 → Gr.inb (d.drop i) (r.drop i) = true →
    Ev (fun k => walk_Place.l0 k d n r (r.length : Int) (i : Int)) (n * Gr.prod (d.drop i) + Gr.num (d.drop i) (r.drop i), true) := by
  obtain ⟨h6, h1, h2⟩ := Gr.chk_ok hok
  have hl := Gr.inb_length hi2
  apply down
  · intro n hn hb _
    rw [hl, List.drop_length, ← hl, List.drop_length]
    simp only [Gr.prod, Gr.num, Int.mul_one, Int.add_zero]
    refine Ev.step (fun k => ?_) (Ev.now _)
    rw [walk_Place.l0, if_neg (by omega)]
  · intro i hi ih n hn hb hin
    have hq := Gr.num_lt (d.drop (i + 1)) (r.drop (i + 1)) (fun x hx => h1 x (List.mem_of_mem_drop hx))
    have hp := Gr.prod_pos (d.drop (i + 1)) (fun x hx => h1 x (List.mem_of_mem_drop hx))
    have hx1 : 1 ≤ rd d (i : Int) := by rw [rdg d i (by omega)]; exact h1 _ (List.getElem_mem _)
    rw [dropc d i (by omega), dropc r i hi] at hin hb ⊢
    simp only [Gr.inb, Bool.and_eq_true, decide_eq_true_eq] at hin
    obtain ⟨q1, q2⟩ := hq hin.2
    simp only [Gr.prod, Gr.num] at hb ⊢
    have e : n * (rd d (i : Int) * Gr.prod (d.drop (i + 1))) + (rd r (i : Int) * Gr.prod (d.drop (i + 1)) + Gr.num (d.drop (i + 1)) (r.drop (i + 1))) = (n * rd d (i : Int) + rd r (i : Int)) * Gr.prod (d.drop (i + 1)) + Gr.num (d.drop (i + 1)) (r.drop (i + 1)) := by
      rw [Int.add_mul, ← Int.mul_assoc]; omega
    rw [e] at hb ⊢
    have b1 : 0 ≤ n * rd d (i : Int) := Int.mul_nonneg hn (by omega)
    have b2 : (n * rd d (i : Int) + rd r (i : Int)) * 1 ≤ (n * rd d (i : Int) + rd r (i : Int)) * Gr.prod (d.drop (i + 1)) := Int.mul_le_mul_of_nonneg_left hp (by omega)
    refine Ev.step (fun k => ?_) (ih _ (by omega) hb hin.2)
    rw [walk_Place.l0, if_pos (by omega), if_pos (by omega), if_pos (by omega), if_pos (by omega), show wrap64 (n * rd d (i : Int)) = n * rd d (i : Int) from w64 (by omega) (by omega), w64 (by omega) (by omega), nx i _ hi (by omega)]
theorem walk_place (d r : List Int) : Ev (fun k => walk_Place.f k d r) (Gr.plc d r) := by
  unfold Gr.plc
  refine Ev.congr (fun k => by rw [walk_Place.f]) (Ev.bind (walk_ind d r) ?_)
  by_cases h : Gr.ind d r = true
  · simp only [if_pos h]
    unfold Gr.ind at h
    simp only [Bool.and_eq_true, decide_eq_true_eq] at h
    obtain ⟨h6, h1, h2⟩ := Gr.chk_ok h.1
    have hb := (Gr.num_lt d r h1 h.2)
    have := place_l d r h.1 h.2 0 (by omega) 0 (by omega) (by simp; omega) (by simpa using h.2)
    rw [List.drop_zero, List.drop_zero, Int.zero_mul, Int.zero_add] at this
    exact this
  · simp only [if_neg h]
    exact Ev.now _
theorem many29 (n a a2 a3 a4 a5 a6 a7 : Int) (a8 : Bool) (l d : List Int) : Ev (fun k => gradinelaw29_many.f k n a a2 a3 a4 a5 a6 a7 a8 l [d]) (decide (d.length > 20) || decide (l.length > 80)) := by
  have e0 : rd_L1 [d] 0 = d := rfl
  refine Ev.congr (fun k => by rw [gradinelaw29_many.f]) ?_
  by_cases h : d.length > 20
  · rw [decide_eq_true h, Bool.true_or]
    refine Ev.step (fun k => ?_) (Ev.now true)
    rw [gradinelaw29_many.l0, if_pos (by simp), if_pos (by omega), if_pos (by simp), e0, if_pos (by omega)]
  · rw [decide_eq_false h, Bool.false_or]
    refine Ev.step (fun k => by rw [gradinelaw29_many.l0, if_pos (by simp), if_pos (by omega), if_pos (by simp), e0, if_neg (by omega)]) ?_
    by_cases h2 : l.length > 80
    · rw [decide_eq_true h2]
      refine Ev.step (fun k => ?_) (Ev.now true)
      rw [gradinelaw29_many.l0, if_neg (by simp [wrap64]), if_pos (by omega)]
    · rw [decide_eq_false h2]
      refine Ev.step (fun k => ?_) (Ev.now false)
      rw [gradinelaw29_many.l0, if_neg (by simp [wrap64]), if_neg (by omega)]; rfl
theorem move_put_l (x : List Int) (n a a2 a3 a4 a5 a6 a7 : Int) (a8 : Bool) (l : List Int) (hn : l.length ≤ 1000000000) : ∀ i, i ≤ l.length →
    Ev (fun k => move_put.l0 k x l (l.length : Int) (i : Int) n a a2 a3 a4 a5 a6 a7 a8 l) (if Gr.inr (l.drop i) a = true then (x, 0) else ([], 11)) := by
  apply down
  · rw [List.drop_length]
    refine Ev.step (fun k => ?_) (Ev.now _)
    rw [move_put.l0, if_neg (by omega)]; rfl
  · intro i hi ih
    have e := Gr.inr_cons (rd l (i : Int)) (l.drop (i + 1)) a
    rw [dropc l i hi]
    by_cases h0 : rd l (i : Int) < 0
    · rw [if_neg (fun c => absurd (e.1 c).1.1 (by omega))]
      refine Ev.step (fun k => ?_) (Ev.now _)
      rw [move_put.l0, if_pos (by omega), if_pos (by omega), if_pos (by omega), if_pos h0]
    · by_cases h1 : a ≤ rd l (i : Int)
      · rw [if_neg (fun c => absurd (e.1 c).1.2 (by omega))]
        refine Ev.step (fun k => ?_) (Ev.now _)
        rw [move_put.l0, if_pos (by omega), if_pos (by omega), if_pos (by omega), if_neg h0, if_pos h1]
      · rw [show Gr.inr (rd l (i : Int) :: l.drop (i + 1)) a = Gr.inr (l.drop (i + 1)) a by rw [Bool.eq_iff_iff, e]; exact ⟨fun h => h.2, fun h => ⟨⟨by omega, by omega⟩, h⟩⟩]
        refine Ev.step (fun k => ?_) ih
        rw [move_put.l0, if_pos (by omega), if_pos (by omega), if_pos (by omega), if_neg h0, if_neg h1, nx i _ hi hn]
theorem mput (d : List Int) (n a a2 a3 a4 a5 a6 a7 : Int) (a8 : Bool) (l : List Int) (hn : l.length ≤ 1000000000) : Ev (fun k => move_put.f k d n a a2 a3 a4 a5 a6 a7 a8 l) (Gr.putd d n a l) := by
  refine Ev.congr (fun k => by rw [move_put.f]) (Ev.bind (withp d n a) ?_)
  unfold Gr.putd
  by_cases h : (Gr.withd d n a).2 = 0
  · obtain ⟨w1, w2, w3, w4, w5⟩ := Gr.withd_ok h
    rw [if_pos h]
    simp only [if_pos h, if_pos w2, if_pos w3]
    by_cases h2 : (l.length : Int) = Gr.at0 d n
    · rw [if_pos h2]
      refine Ev.congr (fun k => by rw [← at0_rd, if_pos h2]) ?_
      have := move_put_l (Gr.withd d n a).1 n a a2 a3 a4 a5 a6 a7 a8 l hn 0 (by omega)
      rwa [List.drop_zero] at this
    · rw [if_neg h2]
      exact Ev.congr (fun k => by rw [← at0_rd, if_neg h2]) (Ev.now _)
  · rw [if_neg h]
    exact Ev.congr (fun k => by rw [if_neg h]) (Ev.now _)
theorem move_taken_l (d : List Int) (n a a2 a3 a4 a5 a6 a7 : Int) (a8 : Bool) (l : List Int) (hn : l.length ≤ 1000000000) (h0 : 0 ≤ n) (h1 : n < (d.length : Int)) : ∀ i, i ≤ l.length →
    Ev (fun k => move_taken.l0 k d l (l.length : Int) (i : Int) n a a2 a3 a4 a5 a6 a7 a8 l) (if Gr.inr (l.drop i) (Gr.at0 d n) = true then Gr.withd d n (l.length : Int) else ([], 11)) := by
  apply down
  · rw [List.drop_length]
    refine Ev.step (fun k => by rw [move_taken.l0, if_neg (by omega)]) (Ev.bind (withp d n (l.length : Int)) ?_)
    exact Ev.now _
  · intro i hi ih
    have e := Gr.inr_cons (rd l (i : Int)) (l.drop (i + 1)) (Gr.at0 d n)
    rw [dropc l i hi]
    by_cases g0 : rd l (i : Int) < 0
    · rw [if_neg (fun c => absurd (e.1 c).1.1 (by omega))]
      refine Ev.step (fun k => ?_) (Ev.now _)
      rw [move_taken.l0, if_pos (by omega), if_pos (by omega), if_pos (by omega), if_pos g0]
    · by_cases g1 : Gr.at0 d n ≤ rd l (i : Int)
      · rw [if_neg (fun c => absurd (e.1 c).1.2 (by omega))]
        refine Ev.step (fun k => ?_) (Ev.now _)
        rw [move_taken.l0, if_pos (by omega), if_pos (by omega), if_pos (by omega), if_neg g0, if_pos h0, if_pos h1, ← at0_rd d, if_pos g1]
      · rw [show Gr.inr (rd l (i : Int) :: l.drop (i + 1)) (Gr.at0 d n) = Gr.inr (l.drop (i + 1)) (Gr.at0 d n) by rw [Bool.eq_iff_iff, e]; exact ⟨fun h => h.2, fun h => ⟨⟨by omega, by omega⟩, h⟩⟩]
        refine Ev.step (fun k => ?_) ih
        rw [move_taken.l0, if_pos (by omega), if_pos (by omega), if_pos (by omega), if_neg g0, if_pos h0, if_pos h1, ← at0_rd d, if_neg g1, nx i _ hi hn]
theorem mtaken (d : List Int) (n a a2 a3 a4 a5 a6 a7 : Int) (a8 : Bool) (l : List Int) (hn : l.length ≤ 1000000000) : Ev (fun k => move_taken.f k d n a a2 a3 a4 a5 a6 a7 a8 l) (Gr.takd d n l) := by
  unfold Gr.takd
  by_cases h0 : n < 0
  · rw [if_pos (.inl h0)]
    refine Ev.congr (fun k => by rw [move_taken.f, if_pos h0]) (Ev.step (fun k => ?_) (Ev.now _))
    rw [move_taken.j0, if_pos rfl]
  · refine Ev.congr (fun k => by rw [move_taken.f, if_neg h0]) ?_
    by_cases h1 : (d.length : Int) ≤ n
    · rw [if_pos (.inr h1)]
      refine Ev.step (fun k => ?_) (Ev.now _)
      rw [move_taken.j0, if_pos (decide_eq_true h1)]
    · rw [if_neg (by omega)]
      refine Ev.step (fun k => by rw [move_taken.j0, if_neg (by simp; omega)]) ?_
      have := move_taken_l d n a a2 a3 a4 a5 a6 a7 a8 l hn (by omega) (by omega) 0 (by omega)
      rwa [List.drop_zero] at this
def pdims (d : List Int) (n a : Int) (l : List Int) : List Int × Int := if Gr.chk d = 0 then Gr.putd d n a l else ([], Gr.chk d)
def tdims (d : List Int) (n : Int) (l : List Int) : List Int × Int := if Gr.chk d = 0 then Gr.takd d n l else ([], Gr.chk d)
theorem dims39 (n a a2 a3 a4 a5 a6 a7 : Int) (a8 : Bool) (l d : List Int) (hn : l.length ≤ 1000000000) : Ev (fun k => move_Dims.f k 39 n a a2 a3 a4 a5 a6 a7 a8 l [d]) (pdims d n a l) := by
  have e0 : rd_L1 [d] 0 = d := rfl
  refine Ev.congr (fun k => by rw [move_Dims.f, move_Is.f, if_pos (by omega), Option.bind_some, if_pos (by decide), if_pos (by simp), if_neg (by omega)]) ?_
  refine Ev.step (fun k => by rw [move_Dims.j0, if_neg (by simp)]) ?_
  unfold pdims
  by_cases h : Gr.chk d = 0
  · rw [if_pos h]
    refine Ev.step (fun k => by rw [move_Dims.l0, if_pos (by simp), if_pos (by omega), if_pos (by simp), e0, shape_check, Option.bind_some, if_pos h]) ?_
    refine Ev.step (fun k => by rw [move_Dims.l0, if_neg (by simp [wrap64]), if_neg (by omega), if_pos rfl, if_pos (by simp), e0]) (Ev.bind (mput d n a a2 a3 a4 a5 a6 a7 a8 l hn) ?_)
    exact Ev.now _
  · rw [if_neg h]
    refine Ev.step (fun k => ?_) (Ev.now _)
    rw [move_Dims.l0, if_pos (by simp), if_pos (by omega), if_pos (by simp), e0, shape_check, Option.bind_some, if_neg h]
theorem dims38 (n a a2 a3 a4 a5 a6 a7 : Int) (a8 : Bool) (l d : List Int) (hn : l.length ≤ 1000000000) : Ev (fun k => move_Dims.f k 38 n a a2 a3 a4 a5 a6 a7 a8 l [d]) (tdims d n l) := by
  have e0 : rd_L1 [d] 0 = d := rfl
  refine Ev.congr (fun k => by rw [move_Dims.f, move_Is.f, if_pos (by omega), Option.bind_some, if_pos (by decide), if_pos (by simp), if_neg (by omega)]) ?_
  refine Ev.step (fun k => by rw [move_Dims.j0, if_neg (by simp)]) ?_
  unfold tdims
  by_cases h : Gr.chk d = 0
  · rw [if_pos h]
    refine Ev.step (fun k => by rw [move_Dims.l0, if_pos (by simp), if_pos (by omega), if_pos (by simp), e0, shape_check, Option.bind_some, if_pos h]) ?_
    refine Ev.step (fun k => by rw [move_Dims.l0, if_neg (by simp [wrap64]), if_pos rfl, if_pos (by simp), e0]) (Ev.bind (mtaken d n a a2 a3 a4 a5 a6 a7 a8 l hn) ?_)
    exact Ev.now _
  · rw [if_neg h]
    refine Ev.step (fun k => ?_) (Ev.now _)
    rw [move_Dims.l0, if_pos (by simp), if_pos (by omega), if_pos (by simp), e0, shape_check, Option.bind_some, if_neg h]
/-- Where the i-th element is put. -/
def mto (d : List Int) (n a : Int) (l : List Int) (i : Int) : Int × Bool :=
  if (pdims d n a l).2 = 0 ∧ (Gr.att d i).2 = true then Gr.plc (pdims d n a l).1 (Gr.mvp n l (Gr.att d i).1) else (0, false)
theorem att_ok {d : List Int} {i : Int} (h : (Gr.att d i).2 = true) : 0 ≤ i ∧ i < Gr.cnt d ∧ Gr.chk d = 0 ∧ Gr.att d i = (Gr.dig d i, true) ∧ Gr.inb d (Gr.dig d i) = true := by
  unfold Gr.att at h ⊢
  split at h
  · rename_i h1
    have hc : Gr.chk d = 0 := by
      by_cases c : Gr.chk d = 0
      · exact c
      · unfold Gr.cnt at h1; rw [if_neg c] at h1; omega
    exact ⟨h1.1, h1.2, hc, by rw [if_pos h1], Gr.inb_dig d (Gr.chk_ok hc).2.1 i⟩
  · simp at h
theorem move_to (n a a2 a3 a4 a5 a6 a7 : Int) (a8 : Bool) (l d : List Int) (i : Int) (hn : l.length ≤ 1000000000) : Ev (fun k => move_To.f k n a a2 a3 a4 a5 a6 a7 a8 l d i) (mto d n a l i) := by
  refine Ev.congr (fun k => by rw [move_To.f]) (Ev.bind (dims39 n a a2 a3 a4 a5 a6 a7 a8 l d hn) (Ev.bind (walk_at d i) ?_))
  unfold mto
  by_cases h : (pdims d n a l).2 = 0
  · by_cases h2 : (Gr.att d i).2 = true
    · rw [if_pos ⟨h, h2⟩]
      obtain ⟨b0, b1, hc, e, hp⟩ := att_ok h2
      have h3 : (Gr.putd d n a l).2 = 0 := by unfold pdims at h; rwa [if_pos hc] at h
      obtain ⟨w1, w2, w3, w4, w5, w6, w7⟩ := Gr.putd_ok h3
      have hl := Gr.inb_length hp
      obtain ⟨h4, h5⟩ := Gr.put_in h3 hp
      have h6 := (Gr.chk_ok hc).1
      rw [e]
      dsimp only
      refine Ev.congr (fun k => by rw [if_pos h]) (Ev.step (fun k => by rw [move_To.j0, if_neg (by simp), slices_Clone_int_int.f, if_pos (by omega), Option.bind_some, if_pos w2, if_pos (by omega), ← at0_rd, if_pos h4.1, if_pos h4.2, if_pos (by omega), ← at0_rd]; rfl) (Ev.bind (walk_place _ _) (Ev.now _)))
    · rw [if_neg (fun c => h2 c.2)]
      refine Ev.congr (fun k => by rw [if_pos h]) (Ev.step (fun k => ?_) (Ev.now _))
      rw [move_To.j0, if_pos (by simpa using h2)]
  · rw [if_neg (fun c => h c.1)]
    refine Ev.congr (fun k => by rw [if_neg h]) (Ev.step (fun k => ?_) (Ev.now _))
    rw [move_To.j0, if_pos rfl]
/-- Where the i-th element of what is taken comes from. -/
def mfr (d : List Int) (n : Int) (l : List Int) (i : Int) : Int × Int × Bool :=
  if (tdims d n l).2 = 0 ∧ (Gr.att (tdims d n l).1 i).2 = true then (0, (Gr.plc d (Gr.mvp n l (Gr.att (tdims d n l).1 i).1)).1, true) else (0, 0, false)
theorem from38 (n a a2 a3 a4 a5 a6 a7 : Int) (a8 : Bool) (l d : List Int) (i : Int) (hn : l.length ≤ 1000000000) : Ev (fun k => move_From.f k 38 n a a2 a3 a4 a5 a6 a7 a8 l [d] i) (mfr d n l i) := by
  have e0 : rd_L1 [d] 0 = d := rfl
  refine Ev.congr (fun k => by rw [move_From.f]) (Ev.bind (dims38 n a a2 a3 a4 a5 a6 a7 a8 l d hn) (Ev.bind (walk_at (tdims d n l).1 i) ?_))
  unfold mfr
  by_cases h : (tdims d n l).2 = 0
  · by_cases h2 : (Gr.att (tdims d n l).1 i).2 = true
    · rw [if_pos ⟨h, h2⟩]
      obtain ⟨b0, b1, hc, e, hp⟩ := att_ok h2
      have hcd : Gr.chk d = 0 := by
        by_cases c : Gr.chk d = 0
        · exact c
        · unfold tdims at h; rw [if_neg c] at h; exact h
      have h3 : (Gr.takd d n l).2 = 0 := by unfold tdims at h; rwa [if_pos hcd] at h
      have e3 : tdims d n l = Gr.takd d n l := by unfold tdims; rw [if_pos hcd]
      obtain ⟨w1, w2, w3, w4, w5, w6⟩ := Gr.takd_ok h3
      rw [e3, w6] at hp e
      have hl := Gr.inb_length hp
      obtain ⟨h4, h5⟩ := Gr.take_in h3 hp
      rw [e3, w6] at h2 ⊢
      rw [e]
      dsimp only at hl hp h4 h5 ⊢
      simp only [List.length_set] at hl
      refine Ev.congr (fun k => by rw [if_pos rfl, if_pos rfl]) (Ev.step (fun k => by rw [move_From.j0, if_neg (by decide), if_pos rfl, if_pos w2, if_pos (by omega), ← at0_rd, if_pos h4.1, if_pos h4.2, if_pos (by simp), e0, ← at0_rd]) (Ev.bind (walk_place _ _) (Ev.now _)))
    · rw [if_neg (fun c => h2 c.2)]
      refine Ev.congr (fun k => by rw [if_pos h, if_neg h2]) (Ev.step (fun k => ?_) (Ev.now _))
      rw [move_From.j0, if_pos rfl]
  · rw [if_neg (fun c => h c.1)]
    refine Ev.congr (fun k => by rw [if_neg h]) (Ev.step (fun k => ?_) (Ev.now _))
    rw [move_From.j0, if_pos rfl]
end Go.Proofs.Yticcamciaohepaa.S
namespace Go.Proofs.Yticcamciaohepaa.Q
open Go.RowKit Go.Proofs.YticcamciaohepaaW.PrintWords Go.Proofs.YticcamciaohepaaW.PrintLast Go.Proofs.YticcamciaohepaaW.PrintMore
attribute [local go_sem] max2_int min2_int max_two min_two max_three min_three max_four min_four
set_option linter.unusedVariables false
set_option linter.unusedSimpArgs false

theorem mt.drawn {w w' : World} (h : Drawn0 w w') : Below w.heap.size w w' := by
  obtain ⟨nd, rfl⟩ := h
  exact pw_below_drewN (Below.refl _ _) _
section
variable {P : Program} {ops : Array Oper} {o : Oper} {rest : List Oper} {a : Act} {Q : Exit → Act → World → Prop}
theorem mt.lit {W : World} (hgd : o.guard = none) {N : Tmp} (_hd : o.dst = some N) {u : Value} {t : TypeId} (hrun : (execOp a.eval o).run P W = .ok (.value (.slice (some ⟨W.heap.size, 0, none⟩) 1 1)) (W.alloc (.cells #[u] t (0, 0))))
    (h : ∀ g, g = W.heap.size → ∀ w1, w1.heap[g]? = some (.cells #[u] t (0, 0)) → Below W.heap.size W w1 → wpList P ops Q rest (a.put o.dst (.slice (some ⟨g, 0, none⟩) 1 1)) w1) : wpList P ops Q (o :: rest) a W :=
  Kd.event_run hgd hrun (h _ rfl _ (blk_new W _) (below_alloc (Below.refl _ _) _))
end
theorem mt.one {w : World} {g t c : Nat} {A : Option Addr} {x : List Int} (h : w.heap[g]? = some (.cells #[.slice A x.length c] t (0, 0))) (hc : x.length ≤ c) (hC : Kd.C (Kd.int .i64) w A x.length x) : Kd.C (Kd.slice 3 (Kd.int .i64)) w (some ⟨g, 0, none⟩) 1 [x] := by
  refine ⟨rfl, by omega, fun _ => ⟨_, rfl, fun j p hj => ?_⟩⟩
  cases j with
  | zero =>
    simp only [List.getElem?_cons_zero, Option.some.injEq] at hj
    subst hj
    refine ⟨[.slice A x.length c], rfl, ⟨A, c, rfl, hc, hC⟩, fun i u hu => ?_⟩
    cases i with
    | zero =>
      simp only [List.getElem?_cons_zero, Option.some.injEq] at hu
      subst hu
      exact (blk_cell h 0).trans rfl
    | succ i => simp at hu
  | succ j => simp at hj
theorem mt.has (k : Nat) (ad : Addr) (c : Nat) (l : List Int) (i : Nat) (b : Bool) (w : World) (hi : i ≤ l.length) (hr : Kd.C (Kd.int .i64) w (some ad) l.length l) (hc : l.length ≤ c) (h : gradineref19_Has.f k (l.take i) (rd l (i : Int)) = some b) :
  Calls Try.prog 9 #[.slice (some ad) i c, .int .i64 (rd l (i : Int))] w fun e w' => e = .returned (.bool b) ∧ Drawn0 w w' := by
  obtain ⟨i08, hi08, _, hsz8, _⟩ := info_parts info3
  obtain ⟨hcut8, hA8, hC8⟩ := print_take_of (P := Try.prog) (Value.int .i64) 0 22 3 .i64 Try.underlying22 hi08 hsz8 (some ad) c l (i : Int) (by omega) (by omega) hc
  have hr' := Kd.C_of_reads (h1 := fun _ => rfl) (hA8 _ (Kd.reads_of_C hr))
  have hn : (l.take (i : Int).toNat).length = i := by rw [Int.toNat_natCast, List.length_take]; omega
  have := gradineref19_Has.calls k (some ad) c (l.take i) (rd l (i : Int)) b w hr' hC8 h
  rw [show (l.take i).length = i from hn] at this
  exact this
theorem mt.many (k : Nat) (a0 a1 a2 a3 a4 a5 a6 a7 : Int) (a8 : Bool) (A : Option Addr) (c : Nat) (l : List Int) (A1 : Option Addr) (c1 : Nat) (d : List Int) (r : Bool) (w : World) (g : Nat) (hr : Kd.C (Kd.int .i64) w A l.length l) (hc : l.length ≤ c) (hg : w.heap[g]? = some (.cells #[.slice A1 d.length c1] 22 (0, 0))) (hr1 : Kd.C (Kd.int .i64) w A1 d.length d) (hc1 : d.length ≤ c1) (h : gradinelaw29_many.f k a0 a1 a2 a3 a4 a5 a6 a7 a8 l [d] = some r) :
  Calls Try.prog 5 #[.agg #[.int .i64 a0, .int .i64 a1, .int .i64 a2, .int .i64 a3, .int .i64 a4, .int .i64 a5, .int .i64 a6, .int .i64 a7, .bool a8, .slice A l.length c], .slice (some ⟨g, 0, none⟩) 1 1] w fun e w' => e = .returned (.bool r) ∧ Below w.heap.size w w' := gradinelaw29_many.calls k a0 a1 a2 a3 a4 a5 a6 a7 a8 A c l (some ⟨g, 0, none⟩) 1 [d] r w hr hc (mt.one hg hc1 hr1) (Nat.le_refl _) h
theorem mt.dims (k : Nat) (op : Int) (a0 a1 a2 a3 a4 a5 a6 a7 : Int) (a8 : Bool) (A : Option Addr) (c : Nat) (l : List Int) (A1 : Option Addr) (c1 : Nat) (d : List Int) (r1 : List Int) (r2 : Int) (w : World) (g : Nat) (hr : Kd.C (Kd.int .i64) w A l.length l) (hc : l.length ≤ c) (hg : w.heap[g]? = some (.cells #[.slice A1 d.length c1] 22 (0, 0))) (hr1 : Kd.C (Kd.int .i64) w A1 d.length d) (hc1 : d.length ≤ c1) (h : move_Dims.f k op a0 a1 a2 a3 a4 a5 a6 a7 a8 l [d] = some (r1, r2)) :
  Calls Try.prog 10 #[.int .i64 op, .agg #[.int .i64 a0, .int .i64 a1, .int .i64 a2, .int .i64 a3, .int .i64 a4, .int .i64 a5, .int .i64 a6, .int .i64 a7, .bool a8, .slice A l.length c], .slice (some ⟨g, 0, none⟩) 1 1] w fun e w' => ∃ v0_ : Value, e = .returned (.tuple #[v0_, .int .i64 r2]) ∧ Kd.R (Kd.int .i64) 3 w' w.heap.size (fun _ => True) v0_ r1 ∧ Below w.heap.size w w' := move_Dims.calls k op a0 a1 a2 a3 a4 a5 a6 a7 a8 A c l (some ⟨g, 0, none⟩) 1 [d] r1 r2 w hr hc (mt.one hg hc1 hr1) (Nat.le_refl _) h
theorem mt.from_ (k : Nat) (op : Int) (a0 a1 a2 a3 a4 a5 a6 a7 : Int) (a8 : Bool) (A : Option Addr) (c : Nat) (l : List Int) (A1 : Option Addr) (c1 : Nat) (d : List Int) (i : Int) (r1 r2 : Int) (r3 : Bool) (w : World) (g : Nat) (hr : Kd.C (Kd.int .i64) w A l.length l) (hc : l.length ≤ c) (hg : w.heap[g]? = some (.cells #[.slice A1 d.length c1] 22 (0, 0))) (hr1 : Kd.C (Kd.int .i64) w A1 d.length d) (hc1 : d.length ≤ c1) (h : move_From.f k op a0 a1 a2 a3 a4 a5 a6 a7 a8 l [d] i = some (r1, r2, r3)) :
  Calls Try.prog 12 #[.int .i64 op, .agg #[.int .i64 a0, .int .i64 a1, .int .i64 a2, .int .i64 a3, .int .i64 a4, .int .i64 a5, .int .i64 a6, .int .i64 a7, .bool a8, .slice A l.length c], .slice (some ⟨g, 0, none⟩) 1 1, .int .i64 i] w fun e w' => e = .returned (.tuple #[.int .i64 r1, .int .i64 r2, .bool r3]) ∧ Below w.heap.size w w' := move_From.calls k op a0 a1 a2 a3 a4 a5 a6 a7 a8 A c l (some ⟨g, 0, none⟩) 1 [d] i r1 r2 r3 w hr hc (mt.one hg hc1 hr1) (Nat.le_refl _) h
/-- Is one of the list, from the i-th on, among those ahead of it? -/
def mt.l0 (k : Nat) (l : List Int) : Nat → Nat → Option Bool
  | 0, _ => some false
  | q + 1, i => (gradineref19_Has.f k (l.take i) (rd l (i : Int))).bind fun b => if b = true then some true else mt.l0 k l q (i + 1)
def mt.l1 (k : Nat) (a0 a1 a2 a3 a4 a5 a6 a7 : Int) (a8 : Bool) (l d x : List Int) : Nat → Nat → Option Unit
  | 0, _ => some ()
  | q + 1, i => (move_To.f k a0 a1 a2 a3 a4 a5 a6 a7 a8 l d (i : Int)).bind fun t => (move_From.f k 38 a0 a1 a2 a3 a4 a5 a6 a7 a8 l [x] (i : Int)).bind fun s => if t.2 = true ∧ s.2.2 = true ∧ s.2.1 = t.1 then mt.l1 k a0 a1 a2 a3 a4 a5 a6 a7 a8 l d x q (i + 1) else none
def mt.f (k : Nat) (a0 a1 a2 a3 a4 a5 a6 a7 : Int) (a8 : Bool) (l d : List Int) : Option Bool :=
  (gradinelaw29_many.f k a0 a1 a2 a3 a4 a5 a6 a7 a8 l [d]).bind fun m => if m = true then some true else
  if l.length < 1000000 then ((mt.l0 k l l.length 0).bind fun dup => if dup = true then some true else
  (move_Dims.f k 39 a0 a1 a2 a3 a4 a5 a6 a7 a8 l [d]).bind fun r => if r.2 = 0 then ((gradineref19_Count.f k d).bind fun n => if 0 ≤ n ∧ n ≤ 64 then ((mt.l1 k a0 a1 a2 a3 a4 a5 a6 a7 a8 l d r.1 n.toNat 0).bind fun _ => some true) else none) else (if r.1.length = 0 then some true else none)) else none
set_option maxHeartbeats 8000000 in
set_option maxRecDepth 100000 in
theorem mt.calls (k : Nat) (a0 a1 a2 a3 a4 a5 a6 a7 : Int) (a8 : Bool) (A : Option Addr) (c : Nat) (l : List Int) (A1 : Option Addr) (c1 : Nat) (l1 : List Int) (w : World) (hr : Kd.C (Kd.int .i64) w A l.length l) (hc : l.length ≤ c) (hr1 : Kd.C (Kd.int .i64) w A1 l1.length l1) (hc1 : l1.length ≤ c1) (h : mt.f k a0 a1 a2 a3 a4 a5 a6 a7 a8 l l1 = some true) :
  Calls Try.prog 4 #[.agg #[.int .i64 a0, .int .i64 a1, .int .i64 a2, .int .i64 a3, .int .i64 a4, .int .i64 a5, .int .i64 a6, .int .i64 a7, .bool a8, .slice A l.length c], .slice A1 l1.length c1] w fun e w' => e = .returned (.bool true) ∧ Below w.heap.size w w' := by
 have hu24 := Try.underlying24
 have HR := aM hr
 have HC := aM hc
 have HR1 := aM hr1
 have HC1 := aM hc1
 clear hr hc hr1 hc1
 have HB := aM (Below.refl w.heap.size w)
 replace h := Option.bind_eq_some_iff.mp h
 obtain ⟨m, Em, H⟩ := h
 have Am := aM Em
 clear Em
 cases m with
 | true =>
  clear H
  go_enter Try.func4, Try.ntmps4
  go_wp2_with (first | ((with_reducible refine gate_dst (N := 2) rfl ?_); refine box_event ?hg (N := 2) ?hd (cs := #[.int .i64 a0, .int .i64 a1, .int .i64 a2, .int .i64 a3, .int .i64 a4, .int .i64 a5, .int .i64 a6, .int .i64 a7, .bool a8, .slice A l.length c]) (t := 24) ?hr ?_; (case hd => rfl); (case hg => rfl); (case hr => first | (go_simp; done) | (go_simp; rfl)); intro g hg w201 hbox hb; have BK := aM hbox; have GE := gE (w := w) hg (qB HB); replace HB := bS (qB HB) hb; clear hb hbox hg; obtain ⟨hcz102_0, hcz102_1, hcz102_2, hcz102_3, hcz102_4, hcz102_5, hcz102_6, hcz102_7, hcz102_8, hcz102_9, hfz102_0, hfz102_1, hfz102_2, hfz102_3, hfz102_4, hfz102_5, hfz102_6, hfz102_7, hfz102_8, hfz102_9⟩ := blk10 BK.out) | ((with_reducible refine gate_dst (N := 16) rfl ?_); refine mt.lit ?hg (N := 16) ?hd (u := .slice A1 l1.length c1) (t := 22) ?hr ?_; (case hd => rfl); (case hg => rfl); (case hr => first | (go_simp; done) | (go_simp; rfl)); intro gm hg w203 hbox hb; have Lgm := aM hbox; clear hg; replace BK := bK BK hb; replace HB := bS (qB1 HB GE) hb; clear hb hbox) | ((with_reducible refine gate_callee (f := 5) rfl ?_); refine goesL_ (some 17) rfl rfl Try.func5 (by kernel_rfl) rfl #[.agg #[.int .i64 a0, .int .i64 a1, .int .i64 a2, .int .i64 a3, .int .i64 a4, .int .i64 a5, .int .i64 a6, .int .i64 a7, .bool a8, .slice A l.length c], .slice (some ⟨gm, 0, none⟩) 1 1] rfl pA ?_; (with_reducible refine (mt.many k a0 a1 a2 a3 a4 a5 a6 a7 a8 A c l A1 c1 l1 true _ gm ?s1 ?s2 ?s3 ?s4 ?s5 Am.out).mono ?_); (case s1 => exact sC HR HB); (case s2 => exact HC.out); (case s3 => exact Lgm.out); (case s4 => exact sC HR1 HB); (case s5 => exact HC1.out); rintro e w204 ⟨rfl, hb⟩; refine ⟨_, rfl, ?_⟩; replace BK := bK BK hb; replace HB := bS (qB1 HB GE) hb; clear hb; obtain ⟨hcz105_0, hcz105_1, hcz105_2, hcz105_3, hcz105_4, hcz105_5, hcz105_6, hcz105_7, hcz105_8, hcz105_9, hfz105_0, hfz105_1, hfz105_2, hfz105_3, hfz105_4, hfz105_5, hfz105_6, hfz105_7, hfz105_8, hfz105_9⟩ := blk10 BK.out) | ((with_reducible refine gate_callee (f := 6) rfl ?_); refine goesL_ (some 18) rfl rfl Try.func6 (by kernel_rfl) rfl #[] rfl pA ?_; (with_reducible refine (gradinelaw29_same.calls true _ rfl).mono ?_); skip; rintro e w206 ⟨rfl, hb⟩; refine ⟨_, rfl, ?_⟩; replace BK := bK BK hb; replace HB := bS (qB1 HB GE) hb; clear hb))
  go_ret
  exact ⟨pE, HB.out⟩
 | false =>
  rw [if_neg (by simp)] at H
  split at H
  rotate_left
  · cases H
  rename_i hl_
  have HL := aM hl_
  clear hl_
  replace H := Option.bind_eq_some_iff.mp H
  obtain ⟨dup, E0, H⟩ := H
  have A0_ := aM E0
  have H' := aM H
  clear E0 H
  go_enter Try.func4, Try.ntmps4
  go_wp2_with (first | ((with_reducible refine gate_dst (N := 2) rfl ?_); refine box_event ?hg (N := 2) ?hd (cs := #[.int .i64 a0, .int .i64 a1, .int .i64 a2, .int .i64 a3, .int .i64 a4, .int .i64 a5, .int .i64 a6, .int .i64 a7, .bool a8, .slice A l.length c]) (t := 24) ?hr ?_; (case hd => rfl); (case hg => rfl); (case hr => first | (go_simp; done) | (go_simp; rfl)); intro g hg w207 hbox hb; have BK := aM hbox; have GE := gE (w := w) hg (qB HB); replace HB := bS (qB HB) hb; clear hb hbox hg; obtain ⟨hcz108_0, hcz108_1, hcz108_2, hcz108_3, hcz108_4, hcz108_5, hcz108_6, hcz108_7, hcz108_8, hcz108_9, hfz108_0, hfz108_1, hfz108_2, hfz108_3, hfz108_4, hfz108_5, hfz108_6, hfz108_7, hfz108_8, hfz108_9⟩ := blk10 BK.out) | ((with_reducible refine gate_dst (N := 16) rfl ?_); refine mt.lit ?hg (N := 16) ?hd (u := .slice A1 l1.length c1) (t := 22) ?hr ?_; (case hd => rfl); (case hg => rfl); (case hr => first | (go_simp; done) | (go_simp; rfl)); intro gm hg w209 hbox hb; have Lgm := aM hbox; clear hg; replace BK := bK BK hb; replace HB := bS (qB1 HB GE) hb; clear hb hbox) | ((with_reducible refine gate_callee (f := 5) rfl ?_); refine goesL_ (some 17) rfl rfl Try.func5 (by kernel_rfl) rfl #[.agg #[.int .i64 a0, .int .i64 a1, .int .i64 a2, .int .i64 a3, .int .i64 a4, .int .i64 a5, .int .i64 a6, .int .i64 a7, .bool a8, .slice A l.length c], .slice (some ⟨gm, 0, none⟩) 1 1] rfl pA ?_; (with_reducible refine (mt.many k a0 a1 a2 a3 a4 a5 a6 a7 a8 A c l A1 c1 l1 false _ gm ?s1 ?s2 ?s3 ?s4 ?s5 Am.out).mono ?_); (case s1 => exact sC HR HB); (case s2 => exact HC.out); (case s3 => exact Lgm.out); (case s4 => exact sC HR1 HB); (case s5 => exact HC1.out); rintro e w210 ⟨rfl, hb⟩; refine ⟨_, rfl, ?_⟩; replace BK := bK BK hb; replace HB := bS (qB1 HB GE) hb; clear hb; obtain ⟨hcz111_0, hcz111_1, hcz111_2, hcz111_3, hcz111_4, hcz111_5, hcz111_6, hcz111_7, hcz111_8, hcz111_9, hfz111_0, hfz111_1, hfz111_2, hfz111_3, hfz111_4, hfz111_5, hfz111_6, hfz111_7, hfz111_8, hfz111_9⟩ := blk10 BK.out))
  clear hcz108_0 hfz108_0 hcz108_1 hfz108_1 hcz108_2 hfz108_2 hcz108_3 hfz108_3 hcz108_4 hfz108_4 hcz108_5 hfz108_5 hcz108_6 hfz108_6 hcz108_7 hfz108_7 hcz108_8 hfz108_8 hcz108_9 hfz108_9 hcz111_0 hfz111_0 hcz111_1 hfz111_1 hcz111_2 hfz111_2 hcz111_3 hfz111_3 hcz111_4 hfz111_4 hcz111_5 hfz111_5 hcz111_6 hfz111_6 hcz111_7 hfz111_7 hcz111_8 hfz111_8 hcz111_9 hfz111_9
  go_loopg [22] l.length (fun kq v22 w' => ∃ (i : Nat), v22 = .int .i64 (i : Int) ∧ Aside0 (i + kq = l.length) ∧ Aside0 (mt.l0 k l kq i = some dup) ∧ Aside0 (w'.heap[g]? = some (.cells #[.int .i64 a0, .int .i64 a1, .int .i64 a2, .int .i64 a3, .int .i64 a4, .int .i64 a5, .int .i64 a6, .int .i64 a7, .bool a8, .slice A l.length c] 24 (0, 0))) ∧ Aside0 (Below w.heap.size w w'))
  case atStart => exact ⟨0, rfl, ⟨by omega⟩, A0_, BK, HB⟩
  case round =>
   clear A0_ BK HB Lgm
   obtain ⟨i, rfl, HK, HA, BK, HB⟩ := hrel
   cases gk with
   | succ kq =>
    have hi : i < l.length := by have := HK.out; omega
    have HA1 := HA.out
    rw [mt.l0] at HA1
    replace HA1 := Option.bind_eq_some_iff.mp HA1
    obtain ⟨b, Eh, HA2⟩ := HA1
    have Ah := aM Eh
    have HI := aM (show 0 ≤ (i : Int) ∧ (i : Int) < (l.length : Int) from ⟨by omega, by omega⟩)
    have d1 : decide ((i : Int) < (l.length : Int)) = true := decide_eq_true (by omega)
    have d1n : decide (i < l.length) = true := decide_eq_true hi
    obtain ⟨i08, hi08, _, hsz8, _⟩ := info_parts info3
    obtain ⟨hcut8, hA8, hC8⟩ := print_take_of (P := Try.prog) (Value.int .i64) 0 22 3 .i64 Try.underlying22 hi08 hsz8 A c l (i : Int) (by omega) (by omega) HC.out
    have hil_ := aM (Nat.le_of_lt hi)
    simp only [Int.toNat_natCast, List.length_take, Nat.min_eq_left hil_.out] at hcut8
    clear hA8 hC8 hi08 hsz8 HA Eh hi
    obtain ⟨ad, ead, hx⟩ := Kd.at_int HR.out (i : Int) HI.out.1 HI.out.2
    cases ead
    rw [Int.toNat_natCast] at hx
    replace hx := (HB.out.cell (World.block_lt_of_cell? w _ hx)).trans hx
    have p805 : (0 ≤ (i : Int)) = True := eq_true HI.out.1
    have q805 : ((i : Int) < (l.length : Int)) = True := eq_true HI.out.2
    obtain ⟨hcz112_0, hcz112_1, hcz112_2, hcz112_3, hcz112_4, hcz112_5, hcz112_6, hcz112_7, hcz112_8, hcz112_9, hfz112_0, hfz112_1, hfz112_2, hfz112_3, hfz112_4, hfz112_5, hfz112_6, hfz112_7, hfz112_8, hfz112_9⟩ := blk10 BK.out
    cases b with
    | true =>
     clear H'
     go_wp2
     go_quiet (first | (go_at_call 9; (with_reducible refine (mt.has k ad c l i true _ hil_.out ?s1 HC.out Ah.out).mono ?_); (case s1 => exact sC HR HB); rintro e_ w_ ⟨rfl, ⟨nd, rfl⟩⟩; (try first | exact ⟨rfl, _, World.drewN_drewN _ _ _⟩ | exact ⟨rfl, _, Eq.trans (World.drewN_drewN _ _ _) (congrArg (World.drewN _) (Nat.add_assoc _ _ _))⟩)))
     go_wp2_with (first | ((with_reducible refine gate_callee (f := 6) rfl ?_); refine goesL_ (some 35) rfl rfl Try.func6 (by kernel_rfl) rfl #[] rfl pA ?_; (with_reducible refine (gradinelaw29_same.calls true _ rfl).mono ?_); skip; rintro e w223 ⟨rfl, hb⟩; refine ⟨_, rfl, ?_⟩; replace BK := bK BK hb; replace HB := bS (qB1 HB GE) hb; clear hb))
     go_ret
     exact ⟨pE, HB.out⟩
    | false =>
     rw [if_neg (by simp)] at HA2
     have H1 := aM HA2
     clear HA2
     go_wp2
     go_quiet (first | (go_at_call 9; (with_reducible refine (mt.has k ad c l i false _ hil_.out ?s1 HC.out Ah.out).mono ?_); (case s1 => exact sC HR HB); rintro e_ w_ ⟨rfl, ⟨nd, rfl⟩⟩; (try first | exact ⟨rfl, _, World.drewN_drewN _ _ _⟩ | exact ⟨rfl, _, Eq.trans (World.drewN_drewN _ _ _) (congrArg (World.drewN _) (Nat.add_assoc _ _ _))⟩)))
     go_wp2
     go_roundg kq
     case measure => omega
     case rel => exact ⟨i + 1, by first | rfl | (rw [w64o (by have := HK.out; have := HL.out; omega) (by have := HK.out; have := HL.out; omega)]; rfl), ⟨by have := HK.out; omega⟩, H1, ⟨by first | exact blk_drewN BK.out _ | exact BK.out⟩, ⟨by first | exact pw_below_drewN HB.out _ | exact HB.out⟩⟩
   | zero =>
    have HA1 := HA.out
    clear HA
    rw [mt.l0] at HA1
    obtain rfl := Option.some.inj HA1
    clear HA1
    have hil : i = l.length := by have := HK.out; omega
    clear HK
    subst hil
    have d1 : decide ((l.length : Int) < (l.length : Int)) = false := decide_eq_false (by omega)
    have d1n : decide (l.length < l.length) = false := decide_eq_false (by omega)
    have H := H'.out
    clear H'
    rw [if_neg (by simp)] at H
    replace H := Option.bind_eq_some_iff.mp H
    obtain ⟨⟨x, e⟩, E1, H⟩ := H
    have Ad := aM E1
    clear E1
    dsimp only at H
    obtain ⟨hcz124_0, hcz124_1, hcz124_2, hcz124_3, hcz124_4, hcz124_5, hcz124_6, hcz124_7, hcz124_8, hcz124_9, hfz124_0, hfz124_1, hfz124_2, hfz124_3, hfz124_4, hfz124_5, hfz124_6, hfz124_7, hfz124_8, hfz124_9⟩ := blk10 BK.out
    by_cases he : e = 0
    · rw [if_pos he] at H
      subst he
      replace H := Option.bind_eq_some_iff.mp H
      obtain ⟨n, E1, H⟩ := H
      have An := aM E1
      clear E1
      split at H
      rotate_left
      · cases H
      rename_i hn_
      have HN := aM hn_
      clear hn_
      replace H := Option.bind_eq_some_iff.mp H
      obtain ⟨_, E1, H⟩ := H
      have A1_ := aM E1
      clear E1 H
      go_wp2_with (first | ((with_reducible refine gate_dst (N := 40) rfl ?_); refine mt.lit ?hg (N := 40) ?hd (u := .slice A1 l1.length c1) (t := 22) ?hr ?_; (case hd => rfl); (case hg => rfl); (case hr => first | (go_simp; done) | (go_simp; rfl)); intro gd hg w213 hbox hb; have Lgd := aM hbox; clear hg; replace BK := bK BK hb; replace HB := bS (qB1 HB GE) hb; clear hb hbox) | ((with_reducible refine gate_callee (f := 10) rfl ?_); refine goesL_ (some 41) rfl rfl Try.func10 (by kernel_rfl) rfl #[.int .i64 39, .agg #[.int .i64 a0, .int .i64 a1, .int .i64 a2, .int .i64 a3, .int .i64 a4, .int .i64 a5, .int .i64 a6, .int .i64 a7, .bool a8, .slice A l.length c], .slice (some ⟨gd, 0, none⟩) 1 1] rfl pA ?_; (with_reducible refine (mt.dims k 39 a0 a1 a2 a3 a4 a5 a6 a7 a8 A c l A1 c1 l1 _ _ _ gd ?s1 ?s2 ?s3 ?s4 ?s5 Ad.out).mono ?_); (case s1 => exact sC HR HB); (case s2 => exact HC.out); (case s3 => exact Lgd.out); (case s4 => exact sC HR1 HB); (case s5 => exact HC1.out); rintro e_ w214 ⟨v0, rfl, ho0, hb⟩; refine ⟨_, rfl, ?_⟩; have HO := aM (Kd.R_lower ho0 (below_size (qB1 HB GE))); replace BK := bK BK hb; replace HB := bS (qB1 HB GE) hb; clear hb ho0; obtain ⟨Ao, co, eo⟩ := Kd.R_slice HO.out; subst eo; obtain ⟨hcz115_0, hcz115_1, hcz115_2, hcz115_3, hcz115_4, hcz115_5, hcz115_6, hcz115_7, hcz115_8, hcz115_9, hfz115_0, hfz115_1, hfz115_2, hfz115_3, hfz115_4, hfz115_5, hfz115_6, hfz115_7, hfz115_8, hfz115_9⟩ := blk10 BK.out) | ((with_reducible refine gate_callee (f := 11) rfl ?_); refine goesL_ (some 53) rfl rfl Try.func11 (by kernel_rfl) rfl #[.slice A1 l1.length c1] rfl pA ?_; (with_reducible refine (gradineref19_Count.calls k _ _ l1 n _ ?s1 ?s2 An.out).mono ?_); (case s1 => exact sC HR1 HB); (case s2 => exact HC1.out); rintro e_ w216 ⟨rfl, hd⟩; refine ⟨_, rfl, ?_⟩; have hb := mt.drawn hd; clear hd; replace HO := bR HO hb; replace BK := bK BK hb; replace HB := bS (qB1 HB GE) hb; clear hb))
      try clear hcz124_0 hfz124_0 hcz124_1 hfz124_1 hcz124_2 hfz124_2 hcz124_3 hfz124_3 hcz124_4 hfz124_4 hcz124_5 hfz124_5 hcz124_6 hfz124_6 hcz124_7 hfz124_7 hcz124_8 hfz124_8 hcz124_9 hfz124_9 hcz115_0 hfz115_0 hcz115_1 hfz115_1 hcz115_2 hfz115_2 hcz115_3 hfz115_3 hcz115_4 hfz115_4 hcz115_5 hfz115_5 hcz115_6 hfz115_6 hcz115_7 hfz115_7 hcz115_8 hfz115_8 hcz115_9 hfz115_9
      go_loopg [54] n.toNat (fun kq v54 w' => ∃ (i : Nat), v54 = .int .i64 (i : Int) ∧ Aside0 (i + kq = n.toNat) ∧ Aside0 (mt.l1 k a0 a1 a2 a3 a4 a5 a6 a7 a8 l l1 x kq i = some ()) ∧ Aside0 (w'.heap[g]? = some (.cells #[.int .i64 a0, .int .i64 a1, .int .i64 a2, .int .i64 a3, .int .i64 a4, .int .i64 a5, .int .i64 a6, .int .i64 a7, .bool a8, .slice A l.length c] 24 (0, 0))) ∧ Aside0 (Kd.R (Kd.int .i64) 3 w' w.heap.size (fun _ => True) (.slice Ao x.length co) x) ∧ Aside0 (Below w.heap.size w w'))
      case atStart => exact ⟨0, rfl, ⟨by omega⟩, A1_, ⟨by first | exact BK.out | (with_reducible repeat (first | apply bN | apply bD | apply bA)); exact BK.out⟩, ⟨by first | exact HO.out | ((with_reducible repeat (first | apply rA | apply rN | apply rD)); exact HO.out)⟩, ⟨qB HB⟩⟩
      case round =>
       clear A1_ BK HB HO Lgd
       obtain ⟨i, rfl, HK, HA, BK, HO, HB⟩ := hrel
       obtain ⟨hcz125_0, hcz125_1, hcz125_2, hcz125_3, hcz125_4, hcz125_5, hcz125_6, hcz125_7, hcz125_8, hcz125_9, hfz125_0, hfz125_1, hfz125_2, hfz125_3, hfz125_4, hfz125_5, hfz125_6, hfz125_7, hfz125_8, hfz125_9⟩ := blk10 BK.out
       cases gk with
       | succ kq =>
        have HA1 := HA.out
        clear HA
        rw [mt.l1] at HA1
        replace HA1 := Option.bind_eq_some_iff.mp HA1
        obtain ⟨⟨t, t2⟩, Et, HA2⟩ := HA1
        have At := aM Et
        clear Et
        replace HA2 := Option.bind_eq_some_iff.mp HA2
        obtain ⟨⟨z, t3, z2⟩, Ez, HA3⟩ := HA2
        have Af := aM Ez
        clear Ez
        dsimp only at HA3
        split at HA3
        rotate_left
        · cases HA3
        rename_i hq_
        obtain ⟨rfl, rfl, rfl⟩ := hq_
        have H1 := aM HA3
        clear HA3
        have d2 : decide ((i : Int) < n) = true := decide_eq_true (by have := HK.out; have := HN.out; omega)
        have d5 : (t3 != t3) = false := bne_self_eq_false t3
        go_wp2_with (first | ((with_reducible refine gate_callee (f := 8) rfl ?_); refine goesL_ (some 61) rfl rfl Try.func8 (by kernel_rfl) rfl #[.agg #[.int .i64 a0, .int .i64 a1, .int .i64 a2, .int .i64 a3, .int .i64 a4, .int .i64 a5, .int .i64 a6, .int .i64 a7, .bool a8, .slice A l.length c], .slice A1 l1.length c1, .int .i64 (i : Int)] rfl pA ?_; (with_reducible refine (move_To.calls k a0 a1 a2 a3 a4 a5 a6 a7 a8 _ _ l (fun k_ => k_ < w.heap.size) _ _ l1 (i : Int) t3 true _ ?s1 ?s2 ?s3 At.out).mono ?_); (case s1 => exact sC HR HB); (case s2 => exact HC.out); (case s3 => exact Kd.V_mk HC1.out (Kd.F_below (Kd.C_F (Kd.heap_int .i64) HR1.out) (qB1 HB GE))); rintro e_ w217 ⟨rfl, hb⟩; refine ⟨_, rfl, ?_⟩; replace HO := bR HO hb; replace BK := bK BK hb; replace HB := bS (qB1 HB GE) hb; clear hb; obtain ⟨hcz118_0, hcz118_1, hcz118_2, hcz118_3, hcz118_4, hcz118_5, hcz118_6, hcz118_7, hcz118_8, hcz118_9, hfz118_0, hfz118_1, hfz118_2, hfz118_3, hfz118_4, hfz118_5, hfz118_6, hfz118_7, hfz118_8, hfz118_9⟩ := blk10 BK.out) | ((with_reducible refine gate_dst (N := 67) rfl ?_); refine mt.lit ?hg (N := 67) ?hd (u := .slice Ao x.length co) (t := 22) ?hr ?_; (case hd => rfl); (case hg => rfl); (case hr => first | (go_simp; done) | (go_simp; rfl)); intro gf hg w219 hbox hb; have Lgf := aM hbox; clear hg; replace HO := bR HO hb; replace BK := bK BK hb; replace HB := bS (qB1 HB GE) hb; clear hb hbox) | ((with_reducible refine gate_callee (f := 12) rfl ?_); refine goesL_ (some 69) rfl rfl Try.func12 (by kernel_rfl) rfl #[.int .i64 38, .agg #[.int .i64 a0, .int .i64 a1, .int .i64 a2, .int .i64 a3, .int .i64 a4, .int .i64 a5, .int .i64 a6, .int .i64 a7, .bool a8, .slice A l.length c], .slice (some ⟨gf, 0, none⟩) 1 1, .int .i64 (i : Int)] rfl pA ?_; (with_reducible refine (mt.from_ k 38 a0 a1 a2 a3 a4 a5 a6 a7 a8 A c l Ao co x (i : Int) z t3 true _ gf ?s1 ?s2 ?s3 ?s4 ?s5 Af.out).mono ?_); (case s1 => exact sC HR HB); (case s2 => exact HC.out); (case s3 => exact Lgf.out); (case s4 => exact sR HO); (case s5 => exact sL HO); rintro e_ w220 ⟨rfl, hb⟩; refine ⟨_, rfl, ?_⟩; replace HO := bR HO hb; replace BK := bK BK hb; replace HB := bS (qB1 HB GE) hb; clear hb))
        go_roundg kq
        case measure => omega
        case rel => exact ⟨i + 1, by first | rfl | (rw [w64o (by have := HK.out; have := HN.out; omega) (by have := HK.out; have := HN.out; omega)]; rfl), ⟨by have := HK.out; omega⟩, H1, ⟨by first | exact BK.out | (with_reducible repeat (first | apply bN | apply bD | apply bA)); exact BK.out⟩, ⟨by first | exact HO.out | ((with_reducible repeat (first | apply rA | apply rN | apply rD)); exact HO.out)⟩, ⟨qB1 HB GE⟩⟩
       | zero =>
        have hin : (i : Int) = n := by have := HK.out; have := HN.out; omega
        have d2 : decide ((i : Int) < n) = false := decide_eq_false (by omega)
        go_wp2_with (first | ((with_reducible refine gate_callee (f := 6) rfl ?_); refine goesL_ (some 85) rfl rfl Try.func6 (by kernel_rfl) rfl #[] rfl pA ?_; (with_reducible refine (gradinelaw29_same.calls true _ rfl).mono ?_); skip; rintro e w221 ⟨rfl, hb⟩; refine ⟨_, rfl, ?_⟩; replace BK := bK BK hb; replace HB := bS (qB1 HB GE) hb; clear hb))
        go_ret
        exact ⟨pE, HB.out⟩
    · rw [if_neg he] at H
      split at H
      rotate_left
      · cases H
      rename_i hx_
      clear H
      obtain rfl := List.length_eq_zero_iff.1 hx_
      clear hx_
      have be : (e == 0) = false := beq_eq_false_iff_ne.mpr he
      have bn : (e != 0) = true := bne_iff_ne.mpr he
      go_wp2_with (first | ((with_reducible refine gate_dst (N := 40) rfl ?_); refine mt.lit ?hg (N := 40) ?hd (u := .slice A1 l1.length c1) (t := 22) ?hr ?_; (case hd => rfl); (case hg => rfl); (case hr => first | (go_simp; done) | (go_simp; rfl)); intro gd hg w213 hbox hb; have Lgd := aM hbox; clear hg; replace BK := bK BK hb; replace HB := bS (qB1 HB GE) hb; clear hb hbox) | ((with_reducible refine gate_callee (f := 10) rfl ?_); refine goesL_ (some 41) rfl rfl Try.func10 (by kernel_rfl) rfl #[.int .i64 39, .agg #[.int .i64 a0, .int .i64 a1, .int .i64 a2, .int .i64 a3, .int .i64 a4, .int .i64 a5, .int .i64 a6, .int .i64 a7, .bool a8, .slice A l.length c], .slice (some ⟨gd, 0, none⟩) 1 1] rfl pA ?_; (with_reducible refine (mt.dims k 39 a0 a1 a2 a3 a4 a5 a6 a7 a8 A c l A1 c1 l1 _ _ _ gd ?s1 ?s2 ?s3 ?s4 ?s5 Ad.out).mono ?_); (case s1 => exact sC HR HB); (case s2 => exact HC.out); (case s3 => exact Lgd.out); (case s4 => exact sC HR1 HB); (case s5 => exact HC1.out); rintro e_ w214 ⟨v0, rfl, ho0, hb⟩; refine ⟨_, rfl, ?_⟩; have HO := aM (Kd.R_lower ho0 (below_size (qB1 HB GE))); replace BK := bK BK hb; replace HB := bS (qB1 HB GE) hb; clear hb ho0; obtain ⟨Ao, co, eo⟩ := Kd.R_slice HO.out; subst eo; obtain ⟨hcz115_0, hcz115_1, hcz115_2, hcz115_3, hcz115_4, hcz115_5, hcz115_6, hcz115_7, hcz115_8, hcz115_9, hfz115_0, hfz115_1, hfz115_2, hfz115_3, hfz115_4, hfz115_5, hfz115_6, hfz115_7, hfz115_8, hfz115_9⟩ := blk10 BK.out) | (go_at_call 6; (with_reducible refine (gradinelaw29_same.calls true _ rfl).mono ?_); skip; rintro e w222 ⟨rfl, hb⟩; replace BK := bK BK hb; replace HB := bS (qB1 HB GE) hb; clear hb))
      go_ret
      exact ⟨pE, HB.out⟩
end Go.Proofs.Yticcamciaohepaa.Q
namespace Go.Proofs.Yticcamciaohepaa.Pure
open Go.RowKit Go.Proofs.Yticcamciaohepaa.Q Go.Proofs.Yticcamciaohepaa.S Go.Proofs.YticcamciaohepaaW.PrintWords Go.Proofs.YticcamciaohepaaW.PrintLast
set_option linter.unusedVariables false
set_option linter.unusedSimpArgs false

theorem taken_l0 (l : List Int) (hn : l.length ≤ 1000000000) : ∀ q i : Nat, i + q = l.length → ∃ b, Ev (fun k => mt.l0 k l q i) b
  | 0, i, _ => ⟨false, Ev.now _⟩
  | q + 1, i, h => by
    have hh := has (l.take i) (rd l (i : Int)) (by rw [List.length_take]; omega)
    obtain ⟨b, hb⟩ := taken_l0 l hn q (i + 1) (by omega)
    by_cases hc : (l.take i).contains (rd l (i : Int)) = true
    · refine ⟨true, Ev.congr (fun k => by rw [mt.l0]) (Ev.bind hh ?_)⟩
      exact Ev.congr (fun k => by rw [if_pos hc]) (Ev.now _)
    · refine ⟨b, Ev.congr (fun k => by rw [mt.l0]) (Ev.bind hh ?_)⟩
      exact Ev.congr (fun k => by rw [if_neg hc]) hb
theorem taken_one (n a a2 a3 a4 a5 a6 a7 : Int) (a8 : Bool) (l d : List Int) (h : (pdims d n a l).2 = 0) (i : Int) (h0 : 0 ≤ i) (h1 : i < Gr.cnt d) :
    mto d n a l i = ((mfr (pdims d n a l).1 n l i).2.1, true) ∧ (mfr (pdims d n a l).1 n l i).2.2 = true := by
  have h2 : (Gr.att d i).2 = true := by unfold Gr.att; rw [if_pos ⟨h0, h1⟩]
  obtain ⟨b0, b1, hc, e, hp⟩ := att_ok h2
  have e3 : pdims d n a l = Gr.putd d n a l := by unfold pdims; rw [if_pos hc]
  have h3 : (Gr.putd d n a l).2 = 0 := by rwa [e3] at h
  obtain ⟨w1, w2, w3, w4, w5, w6, w7⟩ := Gr.putd_ok h3
  have h5 := (Gr.put_in h3 hp).2
  have et : tdims (d.set n.toNat a) n l = (d, 0) := by unfold tdims; rw [if_pos w4, Gr.take_put h3]
  unfold mto mfr
  rw [if_pos ⟨h, h2⟩, e3, w7, et, e]
  simp only
  unfold Gr.plc Gr.ind
  rw [decide_eq_true w4, h5]
  simp
theorem taken_l1 (n a a2 a3 a4 a5 a6 a7 : Int) (a8 : Bool) (l d : List Int) (hn : l.length ≤ 1000000000) (h : (pdims d n a l).2 = 0) : ∀ q i : Nat, ((i + q : Nat) : Int) ≤ Gr.cnt d → Ev (fun k => mt.l1 k n a a2 a3 a4 a5 a6 a7 a8 l d (pdims d n a l).1 q i) ()
  | 0, i, _ => Ev.now _
  | q + 1, i, hq => by
    obtain ⟨g1, g2⟩ := taken_one n a a2 a3 a4 a5 a6 a7 a8 l d h (i : Int) (by omega) (by omega)
    refine Ev.congr (fun k => by rw [mt.l1]) (Ev.bind (move_to n a a2 a3 a4 a5 a6 a7 a8 l d (i : Int) hn) (Ev.bind (from38 n a a2 a3 a4 a5 a6 a7 a8 l (pdims d n a l).1 (i : Int) hn) ?_))
    refine Ev.congr (fun k => by rw [if_pos ⟨by rw [g1], g2, by rw [g1]⟩]) (taken_l1 n a a2 a3 a4 a5 a6 a7 a8 l d hn h q (i + 1) (by omega))
theorem MoveTaken (n a a2 a3 a4 a5 a6 a7 : Int) (a8 : Bool) (l d : List Int) : Ev (fun k => mt.f k n a a2 a3 a4 a5 a6 a7 a8 l d) true := by
  refine Ev.congr (fun k => by rw [mt.f]) (Ev.bind (many29 n a a2 a3 a4 a5 a6 a7 a8 l d) ?_)
  by_cases hm : (decide (d.length > 20) || decide (l.length > 80)) = true
  · exact Ev.congr (fun k => by rw [if_pos hm]) (Ev.now _)
  · have hl : l.length ≤ 80 := by simp at hm; omega
    obtain ⟨b, hb⟩ := taken_l0 l (by omega) l.length 0 (by omega)
    refine Ev.congr (fun k => by rw [if_neg hm, if_pos (by omega)]) (Ev.bind hb ?_)
    cases b with
    | true => exact Ev.congr (fun k => by rw [if_pos rfl]) (Ev.now _)
    | false =>
      refine Ev.congr (fun k => by rw [if_neg (by simp)]) (Ev.bind (dims39 n a a2 a3 a4 a5 a6 a7 a8 l d (by omega)) ?_)
      by_cases h : (pdims d n a l).2 = 0
      · have hc : Gr.chk d = 0 := by
          by_cases c : Gr.chk d = 0
          · exact c
          · unfold pdims at h; rw [if_neg c] at h; exact h
        obtain ⟨c1, c2, c3⟩ := Gr.cnt_ok hc
        refine Ev.congr (fun k => by rw [if_pos h]) (Ev.bind (ref_count d) ?_)
        refine Ev.congr (fun k => by rw [if_pos ⟨by omega, by omega⟩]) (Ev.bind (taken_l1 n a a2 a3 a4 a5 a6 a7 a8 l d (by omega) h (Gr.cnt d).toNat 0 (by omega)) (Ev.now _))
      · refine Ev.congr (fun k => ?_) (Ev.now _)
        rw [if_neg h, if_pos]
        unfold pdims at h ⊢
        split
        · rename_i c; rw [if_pos c] at h; rw [Gr.putd_err h]; rfl
        · rfl
theorem MoveTaken_walk (w : World) (a0 : Int) (_ : (Lit.int .i64 a0).wf = true) (a1 : Int) (_ : (Lit.int .i64 a1).wf = true) (a2 : Int) (_ : (Lit.int .i64 a2).wf = true) (a3 : Int) (_ : (Lit.int .i64 a3).wf = true) (a4 : Int) (_ : (Lit.int .i64 a4).wf = true) (a5 : Int) (_ : (Lit.int .i64 a5).wf = true) (a6 : Int) (_ : (Lit.int .i64 a6).wf = true) (a7 : Int) (_ : (Lit.int .i64 a7).wf = true) (a8 : Bool)
    (A : Option Addr) (c : Nat) (l : List Int) (hr : Kd.C (Kd.int .i64) w A l.length l) (hc : l.length ≤ c) (_ : ∀ x ∈ l, (Lit.int .i64 x).wf = true)
    (A1 : Option Addr) (c1 : Nat) (d : List Int) (hr1 : Kd.C (Kd.int .i64) w A1 d.length d) (hc1 : d.length ≤ c1) (_ : ∀ x ∈ d, (Lit.int .i64 x).wf = true) :
    Calls Try.prog 4 #[.agg #[.int .i64 a0, .int .i64 a1, .int .i64 a2, .int .i64 a3, .int .i64 a4, .int .i64 a5, .int .i64 a6, .int .i64 a7, .bool a8, .slice A l.length c], .slice A1 d.length c1] w fun e w' => e = .returned (.bool true) ∧ Below w.heap.size w w' := by
  obtain ⟨k, h⟩ := (MoveTaken a0 a1 a2 a3 a4 a5 a6 a7 a8 l d).rounds
  exact mt.calls k a0 a1 a2 a3 a4 a5 a6 a7 a8 A c l A1 c1 d w hr hc hr1 hc1 h
end Go.Proofs.Yticcamciaohepaa.Pure
