/- The law MovePuts: To returns the destination of each element of any put. -/
import Derived.Test.YticcamciaohepaaQx0
import Derived.Test.YticcamciaohepaaQxfLaw29Many
import Derived.Test.YticcamciaohepaaQxfLaw29SameT
import Derived.Test.YticcamciaohepaaQxfMoveDims
import Derived.Test.YticcamciaohepaaQxfMoveIs
import Derived.Test.YticcamciaohepaaQxfMovePut
import Derived.Test.YticcamciaohepaaQxfMoveTo
import Derived.Test.YticcamciaohepaaQxfRef19Check
import Derived.Test.YticcamciaohepaaQxfRef19Same
import Derived.Test.YticcamciaohepaaQxfRef19With
import Derived.Test.YticcamciaohepaaQxfRef20All
import Derived.Test.YticcamciaohepaaQxfRef20Place
import Derived.Test.YticcamciaohepaaQxfRef29Of
import Derived.Test.YticcamciaohepaaQxfRef29Put
import Derived.Test.YticcamciaohepaaQxfShapeCheck
import Derived.Test.YticcamciaohepaaQxfShapeCount
import Derived.Test.YticcamciaohepaaQxfShapeWith
import Derived.Test.YticcamciaohepaaQxfSlicesCloneIntInt
import Derived.Test.YticcamciaohepaaQxfWalkAt
import Derived.Test.YticcamciaohepaaQxfWalkIn
import Derived.Test.YticcamciaohepaaQxfWalkPlace
import Derived.Test.YticcamciaohepaaMath
namespace Gr
/-- How many elements dims have; 0, if they may not be. -/
def cnt (d : List Int) : Int := if chk d = 0 then prod d else 0
def at0 (l : List Int) (i : Int) : Int := l.getD i.toNat 0
def withd (d : List Int) (axis size : Int) : List Int × Int :=
  if chk d = 0 then (if axis < 0 ∨ (d.length : Int) ≤ axis then ([], 10) else (if chk (d.set axis.toNat size) = 0 then (d.set axis.toNat size, 0) else ([], chk (d.set axis.toNat size)))) else ([], chk d)
theorem chk_ok {d : List Int} (h : chk d = 0) : d.length ≤ 6 ∧ (∀ x ∈ d, 1 ≤ x) ∧ prod d ≤ 64 := by
  unfold chk at h
  split at h
  · omega
  · rename_i h6
    split at h
    · omega
    · rename_i h1
      split at h
      · omega
      · rename_i h2
        refine ⟨by omega, fun x hx => ?_, by omega⟩
        rw [Bool.not_eq_true, List.any_eq_false] at h1
        have := h1 x hx
        simp at this
        omega
theorem ok_chk {d : List Int} (h6 : d.length ≤ 6) (h1 : ∀ x ∈ d, 1 ≤ x) (h2 : prod d ≤ 64) : chk d = 0 := by
  unfold chk
  rw [if_neg (by omega), if_neg, if_neg (by omega)]
  rw [Bool.not_eq_true, List.any_eq_false]
  intro x hx
  have := h1 x hx
  simp
  omega
theorem ok_le {d : List Int} (h : chk d = 0) : ∀ x ∈ d, x ≤ 64 := by
  obtain ⟨_, h1, h2⟩ := chk_ok h
  intro x hx
  obtain ⟨a, b, rfl⟩ := List.append_of_mem hx
  rw [prod_append] at h2
  simp only [prod] at h2
  have ha := prod_pos a (fun y hy => h1 y (by simp [hy]))
  have hb := prod_pos b (fun y hy => h1 y (by simp [hy]))
  have hx1 := h1 x (by simp)
  have h3 : 1 * (x * prod b) ≤ prod a * (x * prod b) := Int.mul_le_mul_of_nonneg_right ha (Int.mul_nonneg (by omega) (by omega))
  have h4 : x * 1 ≤ x * prod b := Int.mul_le_mul_of_nonneg_left hb (by omega)
  omega
theorem ok_take {d : List Int} (h : chk d = 0) (i : Nat) : chk (d.take i) = 0 := by
  obtain ⟨h6, h1, h2⟩ := chk_ok h
  have := prod_take_le d h1 i
  exact ok_chk (by simp; omega) (fun x hx => h1 x (List.mem_of_mem_take hx)) (by omega)
theorem cnt_ok {d : List Int} (h : chk d = 0) : cnt d = prod d ∧ 1 ≤ cnt d ∧ cnt d ≤ 64 := by
  obtain ⟨h6, h1, h2⟩ := chk_ok h
  have := prod_pos d h1
  unfold cnt
  rw [if_pos h]
  exact ⟨rfl, this, h2⟩
/-- The place of the n-th element. -/
def dig : List Int → Int → List Int
  | [], _ => []
  | x :: l, n => n / prod l % x :: dig l n
/-- The number of a place. -/
def num : List Int → List Int → Int
  | _ :: d, a :: r => a * prod d + num d r
  | _, _ => 0
/-- Is it a place of these dims? -/
def inb : List Int → List Int → Bool
  | [], [] => true
  | x :: d, a :: r => decide (0 ≤ a) && decide (a < x) && inb d r
  | _, _ => false
def ind (d at_ : List Int) : Bool := decide (chk d = 0) && inb d at_
def att (d : List Int) (n : Int) : List Int × Bool := if 0 ≤ n ∧ n < cnt d then (dig d n, true) else ([], false)
def plc (d at_ : List Int) : Int × Bool := if ind d at_ = true then (num d at_, true) else (0, false)
def alls (d : List Int) : List (List Int) := if chk d = 0 then (List.range (prod d).toNat).map fun n : Nat => dig d (n : Int) else []
theorem dig_length (d : List Int) (n : Int) : (dig d n).length = d.length := by
  induction d with
  | nil => rfl
  | cons x d ih => simp [dig, ih]
theorem num_dig (d : List Int) (h : ∀ x ∈ d, 1 ≤ x) (n : Int) : num d (dig d n) = n % prod d := by
  induction d with
  | nil => simp [num, prod, Int.emod_one]
  | cons x d ih =>
    have hx := h x (by simp)
    have hp := prod_pos d (fun y hy => h y (by simp [hy]))
    simp only [num, dig, prod]
    rw [ih (fun y hy => h y (by simp [hy]))]
    have e1 : x * prod d = prod d * x := Int.mul_comm ..
    have h1 := Int.emod_add_mul_ediv n (prod d)
    have h2 := Int.emod_add_mul_ediv (n / prod d) x
    have h3 : n = (n / prod d % x * prod d + n % prod d) + (x * prod d) * (n / prod d / x) := by
      have : prod d * (n / prod d) = prod d * (n / prod d % x) + prod d * (x * (n / prod d / x)) := by rw [← Int.mul_add, h2]
      rw [show (x * prod d) * (n / prod d / x) = prod d * (x * (n / prod d / x)) by rw [e1, Int.mul_assoc], Int.mul_comm (n / prod d % x)]
      omega
    have b1 := Int.emod_nonneg (n / prod d) (show x ≠ 0 by omega)
    have b2 := Int.emod_lt_of_pos (n / prod d) (show 0 < x by omega)
    have b3 := Int.emod_nonneg n (show prod d ≠ 0 by omega)
    have b4 := Int.emod_lt_of_pos n (show 0 < prod d by omega)
    have b5 : 0 ≤ n / prod d % x * prod d := Int.mul_nonneg b1 (by omega)
    have b6 : (n / prod d % x + 1) * prod d ≤ x * prod d := Int.mul_le_mul_of_nonneg_right (by omega) (by omega)
    rw [Int.add_mul] at b6
    have h4 := Int.add_mul_emod_self_left (n / prod d % x * prod d + n % prod d) (x * prod d) (n / prod d / x)
    rw [← h3] at h4
    rw [h4]
    exact (Int.emod_eq_of_lt (by omega) (by omega)).symm
theorem num_dig_lt (d : List Int) (h : ∀ x ∈ d, 1 ≤ x) (n : Int) (h0 : 0 ≤ n) (h1 : n < prod d) : num d (dig d n) = n := by
  rw [num_dig d h n, Int.emod_eq_of_lt h0 h1]
theorem inb_dig (d : List Int) (h : ∀ x ∈ d, 1 ≤ x) (n : Int) : inb d (dig d n) = true := by
  induction d with
  | nil => rfl
  | cons x d ih =>
    have hx := h x (by simp)
    simp only [inb, dig]
    rw [ih (fun y hy => h y (by simp [hy]))]
    have b1 := Int.emod_nonneg (n / prod d) (show x ≠ 0 by omega)
    have b2 := Int.emod_lt_of_pos (n / prod d) (show 0 < x by omega)
    simp [b1, b2]
theorem inb_length {d r : List Int} (h : inb d r = true) : r.length = d.length := by
  induction d generalizing r with
  | nil => cases r <;> simp_all [inb]
  | cons x d ih =>
    cases r with
    | nil => simp [inb] at h
    | cons a r =>
      simp only [inb, Bool.and_eq_true] at h
      simp [ih h.2]
theorem num_lt (d r : List Int) (h : ∀ x ∈ d, 1 ≤ x) (hi : inb d r = true) : 0 ≤ num d r ∧ num d r < prod d := by
  induction d generalizing r with
  | nil => cases r <;> simp [num, prod]
  | cons x d ih =>
    cases r with
    | nil => simp [inb] at hi
    | cons a r =>
      simp only [inb, Bool.and_eq_true, decide_eq_true_eq] at hi
      obtain ⟨i1, i2⟩ := ih r (fun y hy => h y (by simp [hy])) hi.2
      have hp := prod_pos d (fun y hy => h y (by simp [hy]))
      simp only [num, prod]
      have b5 : 0 ≤ a * prod d := Int.mul_nonneg hi.1.1 (by omega)
      have b6 : (a + 1) * prod d ≤ x * prod d := Int.mul_le_mul_of_nonneg_right (by omega) (by omega)
      rw [Int.add_mul] at b6
      omega
theorem dig_add (d : List Int) (h : ∀ x ∈ d, 1 ≤ x) (a m : Int) : dig d (a * prod d + m) = dig d m := by
  induction d generalizing a with
  | nil => rfl
  | cons y d ih =>
    have hy := h y (by simp)
    have hp := prod_pos d (fun z hz => h z (by simp [hz]))
    simp only [dig, prod]
    rw [show a * (y * prod d) = (a * y) * prod d by rw [Int.mul_assoc]]
    rw [ih (fun z hz => h z (by simp [hz])) (a * y)]
    rw [Int.add_comm ((a * y) * prod d) m, Int.add_mul_ediv_right _ _ (by omega), Int.mul_comm a y, Int.add_mul_emod_self_left]
theorem dig_num (d r : List Int) (h : ∀ x ∈ d, 1 ≤ x) (hi : inb d r = true) : dig d (num d r) = r := by
  induction d generalizing r with
  | nil => cases r <;> simp_all [inb, dig]
  | cons x d ih =>
    cases r with
    | nil => simp [inb] at hi
    | cons a r =>
      simp only [inb, Bool.and_eq_true, decide_eq_true_eq] at hi
      have hd : ∀ y ∈ d, 1 ≤ y := fun y hy => h y (by simp [hy])
      obtain ⟨i1, i2⟩ := num_lt d r hd hi.2
      have hp := prod_pos d hd
      simp only [num, dig]
      rw [dig_add d hd, ih r hd hi.2]
      rw [Int.add_comm, Int.add_mul_ediv_right _ _ (by omega), Int.ediv_eq_zero_of_lt i1 i2, Int.zero_add, Int.emod_eq_of_lt hi.1.1 hi.1.2]
theorem dig_snoc (p : List Int) (x : Int) (h : ∀ y ∈ p, 1 ≤ y) (hx : 1 ≤ x) (m : Int) : dig (p ++ [x]) m = dig p (m / x) ++ [m % x] := by
  induction p with
  | nil => simp [dig, prod]
  | cons y p ih =>
    simp only [List.cons_append, dig]
    rw [ih (fun z hz => h z (by simp [hz])), prod_append]
    simp only [prod, Int.mul_one]
    rw [Int.mul_comm (prod p) x, Int.ediv_ediv, if_neg (by omega), Int.sub_zero]
theorem range_mul {α : Type} (f : Nat → α) (P X : Nat) : (List.range (P * X)).map f = (List.range P).flatMap fun n => (List.range X).map fun v => f (n * X + v) := by
  induction P with
  | zero => simp
  | succ P ih =>
    rw [List.range_succ, List.flatMap_append, ← ih, Nat.succ_mul, List.range_add, List.map_append, List.map_map]
    simp only [List.flatMap_cons, List.flatMap_nil, List.append_nil]
    rfl
/-- All places of a prefix. -/
def pre (p : List Int) : List (List Int) := (List.range (prod p).toNat).map fun n : Nat => dig p (n : Int)
theorem pre_nil : pre [] = [[]] := by decide
theorem pre_snoc (p : List Int) (x : Int) (h : ∀ y ∈ p, 1 ≤ y) (hx : 1 ≤ x) : pre (p ++ [x]) = (pre p).flatMap fun q => (List.range x.toNat).map fun v : Nat => q ++ [(v : Int)] := by
  have hp := prod_pos p h
  unfold pre
  rw [prod_append]
  simp only [prod, Int.mul_one]
  rw [Int.toNat_mul (by omega) (by omega), range_mul, List.flatMap_map]
  congr 1
  funext n
  apply List.map_congr_left
  intro v hv
  rw [List.mem_range] at hv
  rw [dig_snoc p x h hx]
  have e : ((n * x.toNat + v : Nat) : Int) = (v : Int) + (n : Int) * x := by
    rw [Int.natCast_add, Int.natCast_mul, Int.toNat_of_nonneg (by omega)]; omega
  rw [e, Int.add_mul_ediv_right _ _ (by omega), Int.ediv_eq_zero_of_lt (by omega) (by omega), Int.zero_add, Int.add_mul_emod_self_right, Int.emod_eq_of_lt (by omega) (by omega)]
theorem pre_length (p : List Int) : (pre p).length = (prod p).toNat := by simp [pre]
theorem alls_ok {d : List Int} (h : chk d = 0) : alls d = pre d := by unfold alls; rw [if_pos h]; rfl
theorem alls_length (d : List Int) : ((alls d).length : Int) = cnt d := by
  unfold alls cnt
  split
  · rename_i h
    have := prod_pos d (chk_ok h).2.1
    simp; omega
  · rfl
theorem alls_get (d : List Int) (n : Nat) (h : n < (alls d).length) : (alls d)[n] = dig d (n : Int) := by
  unfold alls at h ⊢
  split
  · simp
  · rename_i hc; rw [if_neg hc] at h; simp at h
def inr (l : List Int) (m : Int) : Bool := l.all fun i => decide (0 ≤ i) && decide (i < m)
def putd (d : List Int) (n a : Int) (l : List Int) : List Int × Int :=
  if (withd d n a).2 = 0 then (if (l.length : Int) = at0 d n then (if inr l a = true then ((withd d n a).1, 0) else ([], 11)) else ([], 8)) else ([], (withd d n a).2)
/-- Where an element goes, or comes from. -/
def mvp (n : Int) (l p : List Int) : List Int := p.set n.toNat (at0 l (at0 p n))
theorem inr_cons (x : Int) (l : List Int) (m : Int) : inr (x :: l) m = true ↔ (0 ≤ x ∧ x < m) ∧ inr l m = true := by
  simp [inr, List.all_cons]
theorem inr_a29 {l : List Int} {m : Int} (h : inr l m = true) (i : Nat) (hi : i < l.length) : 0 ≤ l[i] ∧ l[i] < m := by
  unfold inr at h
  rw [List.all_eq_true] at h
  simpa using h _ (List.getElem_mem hi)
theorem at0_g29 (l : List Int) (i : Nat) (h : i < l.length) : at0 l (i : Int) = l[i] := by
  simp [at0, List.getD_eq_getElem?_getD, List.getElem?_eq_getElem h]
theorem inb_a29 {d p : List Int} (h : inb d p = true) (i : Nat) (hi : i < d.length) : 0 ≤ at0 p (i : Int) ∧ at0 p (i : Int) < at0 d (i : Int) := by
  induction d generalizing p i with
  | nil => simp at hi
  | cons x d ih =>
    cases p with
    | nil => simp [inb] at h
    | cons a r =>
      simp only [inb, Bool.and_eq_true, decide_eq_true_eq] at h
      cases i with
      | zero => simpa [at0] using h.1
      | succ i =>
        have := ih h.2 i (by simpa using hi)
        simpa [at0] using this
theorem inb_set29 {d p : List Int} (h : inb d p = true) (i : Nat) (a v : Int) (h0 : 0 ≤ v) (h1 : v < a) : inb (d.set i a) (p.set i v) = true := by
  induction d generalizing p i with
  | nil => cases p with
    | nil => rfl
    | cons a r => simp [inb] at h
  | cons x d ih =>
    cases p with
    | nil => simp [inb] at h
    | cons b r =>
      simp only [inb, Bool.and_eq_true, decide_eq_true_eq] at h
      cases i with
      | zero => simp [inb, h0, h1, h.2]
      | succ i => simp [inb, h.1.1, h.1.2, ih h.2 i]
theorem withd_o29 {d : List Int} {n a : Int} (h : (withd d n a).2 = 0) : chk d = 0 ∧ 0 ≤ n ∧ n < (d.length : Int) ∧ chk (d.set n.toNat a) = 0 ∧ withd d n a = (d.set n.toNat a, 0) := by
  unfold withd at h ⊢
  split at h
  · rename_i h1
    split at h
    · simp at h
    · rename_i h2
      split at h
      · rename_i h3
        exact ⟨h1, by omega, by omega, h3, by rw [if_pos h1, if_neg h2, if_pos h3]⟩
      · exact absurd h (by assumption)
  · exact absurd h (by assumption)
theorem putd_ok {d : List Int} {n a : Int} {l : List Int} (h : (putd d n a l).2 = 0) :
    chk d = 0 ∧ 0 ≤ n ∧ n < (d.length : Int) ∧ chk (d.set n.toNat a) = 0 ∧ (l.length : Int) = at0 d n ∧ inr l a = true ∧ putd d n a l = (d.set n.toNat a, 0) := by
  unfold putd at h ⊢
  split at h
  · rename_i h1
    obtain ⟨w1, w2, w3, w4, w5⟩ := withd_o29 h1
    split at h
    · rename_i h2
      split at h
      · rename_i h3
        exact ⟨w1, w2, w3, w4, h2, h3, by rw [if_pos h1, if_pos h2, if_pos h3, w5]⟩
      · simp at h
    · simp at h
  · exact absurd h (by assumption)
theorem put_in {d : List Int} {n a : Int} {l p : List Int} (h : (putd d n a l).2 = 0) (hp : inb d p = true) : (0 ≤ at0 p n ∧ at0 p n < (l.length : Int)) ∧ inb (d.set n.toNat a) (mvp n l p) = true := by
  obtain ⟨w1, w2, w3, w4, w5, w6, w7⟩ := putd_ok h
  obtain ⟨m, rfl⟩ := Int.eq_ofNat_of_zero_le w2
  have h1 := inb_a29 hp m (by omega)
  have h2 : 0 ≤ at0 p (m : Int) ∧ at0 p (m : Int) < (l.length : Int) := ⟨h1.1, by omega⟩
  refine ⟨h2, ?_⟩
  obtain ⟨q, hq⟩ := Int.eq_ofNat_of_zero_le h2.1
  have h3 := inr_a29 w6 q (by omega)
  unfold mvp
  rw [hq, at0_g29 l q (by omega), Int.toNat_natCast]
  exact inb_set29 hp m a _ h3.1 h3.2
def plr (d r : List Int) : Int := if ind d r = true then num d r else -1
theorem mem_alls {d : List Int} (h : chk d = 0) {p : List Int} : p ∈ alls d ↔ inb d p = true := by
  obtain ⟨h6, h1, h2⟩ := chk_ok h
  rw [alls_ok h]
  unfold pre
  rw [List.mem_map]
  constructor
  · rintro ⟨n, _, rfl⟩; exact inb_dig d h1 _
  · intro hi
    obtain ⟨q1, q2⟩ := num_lt d p h1 hi
    refine ⟨(num d p).toNat, ?_, ?_⟩
    · rw [List.mem_range]; omega
    · rw [Int.toNat_of_nonneg q1]; exact dig_num d p h1 hi
def putv (d : List Int) (n a : Int) (l : List Int) : List Int × List Int × List Int × Int :=
  if (putd d n a l).2 = 0 then ((putd d n a l).1, [], (alls d).map (fun p => plr (putd d n a l).1 (mvp n l p)), 0) else ([], [], [], (putd d n a l).2)
end Gr
namespace Go.Proofs.Yticcamciaohepaa.S
open Go.RowKit Go.Proofs.Yticcamciaohepaa.Q Go.Proofs.YticcamciaohepaaW.PrintWords Go.Proofs.YticcamciaohepaaW.PrintLast Go.Proofs.YticcamciaohepaaW.PrintMore
set_option linter.unusedVariables false
set_option linter.unusedSimpArgs false
theorem w64 {x : Int} (h0 : -9223372036854775808 ≤ x) (h1 : x ≤ 9223372036854775807) : wrap64 x = x := by
  unfold wrap64; omega
theorem down (P : Nat → Prop) (n : Nat) (h0 : P n) (hs : ∀ i, i < n → P (i + 1) → P i) : ∀ i, i ≤ n → P i := by
  intro i hi
  obtain ⟨d, rfl⟩ : ∃ d, n = i + d := ⟨n - i, by omega⟩
  clear hi
  induction d generalizing i with
  | zero => exact h0
  | succ d ih =>
    apply hs i (by omega)
    exact ih (i + 1) (by rw [show i + 1 + d = i + (d + 1) by omega]; exact h0) (fun j hj hp => hs j (by omega) hp)
theorem rdg (l : List Int) (i : Nat) (h : i < l.length) : rd l (i : Int) = l[i] := by
  simp [rd, List.getD_eq_getElem?_getD, List.getElem?_eq_getElem h]
theorem dropc (l : List Int) (i : Nat) (h : i < l.length) : l.drop i = rd l (i : Int) :: l.drop (i + 1) := by
  rw [rdg l i h]; exact (List.drop_eq_getElem_cons h)
theorem nx (i n : Nat) (h : i < n) (hn : n ≤ 1000000000) : wrap64 ((i : Int) + 1) = ((i + 1 : Nat) : Int) := by
  rw [w64 (by omega) (by omega)]; omega
theorem shape_check (d : List Int) : shape_Check.f d = some (Gr.chk d) := rfl
theorem check_1 (d : List Int) (hok : ∀ x ∈ d, 1 ≤ x) (hn : d.length ≤ 6) : ∀ i, i ≤ d.length → Gr.prod (d.take i) ≤ 64 →
    Ev (fun k => gradineref19_Check.l1 k d (Gr.prod (d.take i)) (d.length : Int) (i : Int)) (if 64 < Gr.prod d then 12 else 0) := by
  apply down
  · intro h
    rw [List.take_length] at h ⊢
    rw [if_neg (by omega)]
    refine Ev.step (fun k => ?_) (Ev.now 0)
    rw [gradineref19_Check.l1, if_neg (by omega)]
  · intro i hi ih h
    have hp := Gr.prod_pos (d.take i) (fun x hx => hok x (List.mem_of_mem_take hx))
    have hs := Gr.prod_take_succ d i hi
    have h1 : 1 ≤ d[i] := hok _ (List.getElem_mem hi)
    have hle := Gr.prod_take_le d hok (i + 1)
    have hge : d[i] ≤ Gr.prod (d.take i) * d[i] := by
      have : 1 * d[i] ≤ Gr.prod (d.take i) * d[i] := Int.mul_le_mul_of_nonneg_right hp (by omega)
      omega
    by_cases e : 64 < d[i]
    · rw [if_pos (by omega)]
      refine Ev.step (fun k => ?_) (Ev.now 12)
      rw [gradineref19_Check.l1, if_pos (by omega), if_pos (by omega), if_pos (by omega), rdg d i hi, if_pos (by omega)]
    · have hb : Gr.prod (d.take i) * d[i] ≤ 64 * 64 := Int.mul_le_mul h (by omega) (by omega) (by omega)
      by_cases e2 : 64 < Gr.prod (d.take i) * d[i]
      · rw [if_pos (by omega)]
        refine Ev.step (fun k => ?_) (Ev.now 12)
        rw [gradineref19_Check.l1, if_pos (by omega), if_pos (by omega), if_pos (by omega), rdg d i hi, if_neg (by omega), w64 (by omega) (by omega), if_pos (by omega)]
      · refine Ev.step (fun k => ?_) (ih (by omega))
        rw [gradineref19_Check.l1, if_pos (by omega), if_pos (by omega), if_pos (by omega), rdg d i hi, if_neg (by omega), w64 (by omega) (by omega), if_neg (by omega), nx i _ hi (by omega), ← hs]
theorem check_0 (d : List Int) (hn : d.length ≤ 6) : ∀ i, i ≤ d.length → (∀ x ∈ d.take i, 1 ≤ x) →
    Ev (fun k => gradineref19_Check.l0 k d (d.length : Int) (i : Int)) (Gr.chk d) := by
  apply down
  · intro h
    rw [List.take_length] at h
    have e : Gr.chk d = if 64 < Gr.prod d then 12 else 0 := by
      unfold Gr.chk
      rw [if_neg (by omega), if_neg]
      rw [Bool.not_eq_true, List.any_eq_false]
      intro x hx
      have := h x hx
      simp; omega
    rw [e]
    refine Ev.step (fun k => ?_) (check_1 d h hn 0 (by omega) (by simp [Gr.prod]))
    rw [gradineref19_Check.l0, if_neg (by omega)]; simp [Gr.prod]
  · intro i hi ih h
    by_cases e : d[i] < 1
    · have e8 : Gr.chk d = 8 := by
        unfold Gr.chk
        rw [if_neg (by omega), if_pos]
        rw [List.any_eq_true]
        exact ⟨d[i], List.getElem_mem hi, by simpa using e⟩
      rw [e8]
      refine Ev.step (fun k => ?_) (Ev.now 8)
      rw [gradineref19_Check.l0, if_pos (by omega), if_pos (by omega), if_pos (by omega), rdg d i hi, if_pos (by omega)]
    · refine Ev.step (fun k => ?_) (ih ?_)
      · rw [gradineref19_Check.l0, if_pos (by omega), if_pos (by omega), if_pos (by omega), rdg d i hi, if_neg (by omega), nx i _ hi (by omega)]
      · intro x hx
        rw [List.take_succ_eq_append_getElem hi, List.mem_append] at hx
        rcases hx with hx | hx
        · exact h x hx
        · simp at hx; omega
theorem ref_check (d : List Int) : Ev (fun k => gradineref19_Check.f k d) (Gr.chk d) := by
  by_cases h : 6 < d.length
  · have e : Gr.chk d = 9 := by unfold Gr.chk; rw [if_pos h]
    rw [e]
    refine Ev.congr (fun k => ?_) (Ev.now 9)
    rw [gradineref19_Check.f, if_pos (by omega)]
  · refine Ev.congr (fun k => ?_) (check_0 d (by omega) 0 (by omega) (by simp))
    rw [gradineref19_Check.f, if_neg (by omega)]; rfl
theorem prod_step {d : List Int} (hok : Gr.chk d = 0) (i : Nat) (hi : i < d.length) :
    1 ≤ Gr.prod (d.take i) ∧ Gr.prod (d.take i) * d[i] = Gr.prod (d.take (i + 1)) ∧ Gr.prod (d.take (i + 1)) ≤ 64 ∧ 1 ≤ Gr.prod (d.take (i + 1)) := by
  obtain ⟨h6, h1, h2⟩ := Gr.chk_ok hok
  have := Gr.prod_take_le d h1 (i + 1)
  exact ⟨Gr.prod_pos _ (fun x hx => h1 x (List.mem_of_mem_take hx)), (Gr.prod_take_succ d i hi).symm, by omega, Gr.prod_pos _ (fun x hx => h1 x (List.mem_of_mem_take hx))⟩
theorem count_l (d : List Int) (hok : Gr.chk d = 0) : ∀ i, i ≤ d.length →
    Ev (fun k => shape_Count.l0 k (Gr.prod (d.take i)) d (d.length : Int) (i : Int)) (Gr.prod d) := by
  obtain ⟨h6, h1, h2⟩ := Gr.chk_ok hok
  apply down
  · rw [List.take_length]
    refine Ev.step (fun k => ?_) (Ev.now _)
    rw [shape_Count.l0, if_neg (by omega)]
  · intro i hi ih
    obtain ⟨p1, p2, p3, p4⟩ := prod_step hok i hi
    refine Ev.step (fun k => ?_) ih
    rw [shape_Count.l0, if_pos (by omega), if_pos (by omega), if_pos (by omega), rdg d i hi, w64 (by omega) (by omega), nx i _ hi (by omega), p2]
theorem shape_count (d : List Int) : Ev (fun k => shape_Count.f k d) (Gr.cnt d) := by
  unfold Gr.cnt
  by_cases h : Gr.chk d = 0
  · rw [if_pos h]
    refine Ev.congr (fun k => ?_) (count_l d h 0 (by omega))
    rw [shape_Count.f, shape_check, Option.bind_some, if_pos h]; simp [Gr.prod]
  · rw [if_neg h]
    refine Ev.congr (fun k => ?_) (Ev.now 0)
    rw [shape_Count.f, shape_check, Option.bind_some, if_neg h]
theorem at0_rd (d : List Int) (a : Int) : Gr.at0 d a = rd d a := rfl
theorem set_map (d : List Int) (a : Nat) (s : Int) (i : Nat) (hi : i < d.length) : (d.set a s)[i]'(by simpa using hi) = if i = a then s else rd d (i : Int) := by
  rw [List.getElem_set, rdg d i hi]
  by_cases e : a = i
  · rw [if_pos e, if_pos e.symm]
  · rw [if_neg e, if_neg (fun h => e h.symm)]
theorem ref_with_l (d : List Int) (a : Nat) (s : Int) (hn : d.length ≤ 6) (ha : a < d.length) : ∀ i, i ≤ d.length →
    Ev (fun k => gradineref19_With.l0 k d (a : Int) s ((d.set a s).take i) (d.length : Int) (i : Int)) (if Gr.chk (d.set a s) = 0 then (d.set a s, 0) else ([], Gr.chk (d.set a s))) := by
  apply down
  · rw [List.take_of_length_le (by simp)]
    refine Ev.step (fun k => by rw [gradineref19_With.l0, if_neg (by omega)]) (Ev.bind (ref_check _) ?_)
    by_cases h : Gr.chk (d.set a s) = 0
    · simp only [if_pos h]; exact Ev.now _
    · simp only [if_neg h]; exact Ev.now _
  · intro i hi ih
    have e : (d.set a s).take (i + 1) = (d.set a s).take i ++ [if i = a then s else rd d (i : Int)] := by
      rw [List.take_succ_eq_append_getElem (by simpa using hi), set_map d a s i hi]
    rw [e] at ih
    have hl : ((d.set a s).take i).length < 17592186044416 := by rw [List.length_take, List.length_set]; omega
    by_cases h : i = a
    · rw [if_pos h] at ih
      refine Ev.step (fun k => ?_) ih
      rw [gradineref19_With.l0, if_pos (by omega), if_pos (by omega), if_pos hl, nx i _ hi (by omega)]
    · rw [if_neg h] at ih
      refine Ev.step (fun k => ?_) ih
      rw [gradineref19_With.l0, if_pos (by omega), if_neg (by omega), if_pos (by omega), if_pos (by omega), if_pos hl, nx i _ hi (by omega)]
theorem ref_with (d : List Int) (a s : Int) : Ev (fun k => gradineref19_With.f k d a s) (Gr.withd d a s) := by
  unfold Gr.withd
  refine Ev.congr (fun k => by rw [gradineref19_With.f]) (Ev.bind (ref_check d) ?_)
  by_cases h : Gr.chk d = 0
  · have h6 := (Gr.chk_ok h).1
    simp only [if_pos h]
    by_cases h0 : a < 0
    · rw [if_pos (.inl h0)]
      simp only [if_pos h0]
      refine Ev.step (fun k => ?_) (Ev.now _)
      rw [gradineref19_With.j0, if_pos rfl]
    · simp only [if_neg h0]
      by_cases h1 : (d.length : Int) ≤ a
      · rw [if_pos (.inr h1)]
        refine Ev.step (fun k => ?_) (Ev.now _)
        rw [gradineref19_With.j0, if_pos (decide_eq_true h1)]
      · rw [if_neg (by omega)]
        obtain ⟨n, rfl⟩ := Int.eq_ofNat_of_zero_le (show 0 ≤ a by omega)
        rw [Int.toNat_natCast]
        refine Ev.step (fun k => ?_) (ref_with_l d n s h6 (by omega) 0 (by omega))
        rw [gradineref19_With.j0, if_neg (by simp; omega)]; rfl
  · simp only [if_neg h]; exact Ev.now _
theorem withp (d : List Int) (a s : Int) : Ev (fun k => shape_With.f k d a s) (Gr.withd d a s) := by
  unfold Gr.withd
  by_cases h : Gr.chk d = 0
  · have h6 := (Gr.chk_ok h).1
    rw [if_pos h]
    by_cases h0 : a < 0
    · rw [if_pos (.inl h0)]
      refine Ev.congr (fun k => by rw [shape_With.f, shape_check, Option.bind_some, if_pos h, if_pos h0]) ?_
      refine Ev.step (fun k => ?_) (Ev.now _)
      rw [shape_With.j0, if_pos rfl]
    · refine Ev.congr (fun k => by rw [shape_With.f, shape_check, Option.bind_some, if_pos h, if_neg h0]) ?_
      by_cases h1 : (d.length : Int) ≤ a
      · rw [if_pos (.inr h1)]
        refine Ev.step (fun k => ?_) (Ev.now _)
        rw [shape_With.j0, if_pos (decide_eq_true h1)]
      · rw [if_neg (by omega)]
        refine Ev.step (fun k => ?_) (Ev.now _)
        rw [shape_With.j0, if_neg (by simp; omega), slices_Clone_int_int.f, if_pos (by omega), Option.bind_some, if_pos (by omega), if_pos (by omega), Option.bind_some, shape_check, Option.bind_some]
        split <;> rfl
  · rw [if_neg h]
    refine Ev.congr (fun k => ?_) (Ev.now _)
    rw [shape_With.f, shape_check, Option.bind_some, if_neg h]
theorem rdl (l : List (List Int)) (i : Nat) (h : i < l.length) : rd_L1 l (i : Int) = l[i] := by
  simp [rd_L1, List.getD_eq_getElem?_getD, List.getElem?_eq_getElem h]
theorem at_set (d x : List Int) (m : Int) (i : Nat) (hi : i < d.length) (hl : x.length = d.length) (hx : x.drop (i + 1) = Gr.dig (d.drop (i + 1)) m) :
    (x.set i (m / Gr.prod (d.drop (i + 1)) % rd d (i : Int))).drop i = Gr.dig (d.drop i) m := by
  rw [List.drop_eq_getElem_cons (by simp; omega), dropc d i hi]
  simp only [List.getElem_set_self, Gr.dig, List.cons.injEq, true_and]
  rw [List.drop_set_of_lt (by omega)]
  exact hx
theorem at_l (d : List Int) (hok : Gr.chk d = 0) (m : Int) (hm : 0 ≤ m) (hm2 : m ≤ 64) : ∀ i, i ≤ d.length → ∀ x : List Int, x.length = d.length → x.drop i = Gr.dig (d.drop i) m →
    Ev (fun k => walk_At.l0 k d (m / Gr.prod (d.drop i)) x ((i : Int) - 1)) (Gr.dig d m, true) := by
  obtain ⟨h6, h1, h2⟩ := Gr.chk_ok hok
  intro i
  induction i with
  | zero =>
    intro hi x hl hx
    simp at hx
    subst hx
    refine Ev.step (fun k => ?_) (Ev.now _)
    rw [walk_At.l0, if_neg (by omega)]
  | succ i ih =>
    intro hi x hl hx
    have hlt : i < d.length := by omega
    have hd : d.drop i = d[i] :: d.drop (i + 1) := List.drop_eq_getElem_cons hlt
    have hge : 1 ≤ d[i] := h1 _ (List.getElem_mem hlt)
    have hle : d[i] ≤ 64 := Gr.ok_le hok _ (List.getElem_mem hlt)
    have q3 := Gr.prod_pos (d.drop (i + 1)) (fun y hy => h1 y (List.mem_of_mem_drop hy))
    have hp : Gr.prod (d.drop i) = Gr.prod (d.drop (i + 1)) * d[i] := by rw [hd]; simp only [Gr.prod]; rw [Int.mul_comm]
    have h0 : 0 ≤ m / Gr.prod (d.drop (i + 1)) := Int.ediv_nonneg hm (by omega)
    have h64 : m / Gr.prod (d.drop (i + 1)) ≤ m := Int.ediv_le_self _ hm
    have e1 : Int.tdiv (m / Gr.prod (d.drop (i + 1))) d[i] = m / Gr.prod (d.drop i) := by
      rw [Int.tdiv_eq_ediv_of_nonneg h0, hp, Int.ediv_ediv, if_neg (by omega), Int.sub_zero]
    have e2 : Int.tmod (m / Gr.prod (d.drop (i + 1))) d[i] = m / Gr.prod (d.drop (i + 1)) % d[i] := Int.tmod_eq_emod_of_nonneg h0
    have b0 : 0 ≤ m / Gr.prod (d.drop i) := Int.ediv_nonneg hm (by have := Gr.prod_pos (d.drop i) (fun y hy => h1 y (List.mem_of_mem_drop hy)); omega)
    have b1 : m / Gr.prod (d.drop i) ≤ m := Int.ediv_le_self _ hm
    refine Ev.step (fun k => ?_) (ih (by omega) (x.set i (m / Gr.prod (d.drop (i + 1)) % rd d (i : Int))) (by simp [hl]) (at_set d x m i hlt hl hx))
    rw [walk_At.l0, show (((i + 1 : Nat) : Int) - 1) = (i : Int) by omega, if_pos (by omega), if_pos (by omega), if_pos (by omega), rdg d i hlt, if_neg (by omega), if_pos (by omega), e1, e2, w64 (by omega) (by omega), w64 (by omega) (by omega), Int.toNat_natCast]
theorem walk_at (d : List Int) (n : Int) : Ev (fun k => walk_At.f k d n) (Gr.att d n) := by
  unfold Gr.att
  by_cases h0 : n < 0
  · rw [if_neg (by omega)]
    refine Ev.congr (f := fun k => walk_At.j0 k d n true) (fun k => by rw [walk_At.f, if_pos h0]) ?_
    refine Ev.step (fun k => ?_) (Ev.now _)
    rw [walk_At.j0, if_pos rfl]
  · refine Ev.congr (f := fun k => (shape_Count.f k d).bind fun t => walk_At.j0 k d n (decide (n ≥ t))) (fun k => by rw [walk_At.f, if_neg h0]) ?_
    refine Ev.bind (shape_count d) ?_
    by_cases h1 : n < Gr.cnt d
    · rw [if_pos ⟨by omega, h1⟩]
      have hok : Gr.chk d = 0 := by
        apply Decidable.byContradiction
        intro hc; unfold Gr.cnt at h1; rw [if_neg hc] at h1; omega
      obtain ⟨c1, c2, c3⟩ := Gr.cnt_ok hok
      have h6 := (Gr.chk_ok hok).1
      have := at_l d hok n (by omega) (by omega) d.length (by omega) (List.replicate d.length 0) (by simp) (by simp [Gr.dig])
      rw [List.drop_length] at this
      simp only [Gr.prod, Int.ediv_one] at this
      refine Ev.step (fun k => ?_) this
      rw [walk_At.j0, if_neg (by simp; omega), if_pos (by omega), if_pos (by simp; omega), w64 (by omega) (by omega), Int.toNat_natCast]
    · rw [if_neg (by omega)]
      refine Ev.step (fun k => ?_) (Ev.now _)
      rw [walk_At.j0, if_pos (by simp; omega)]
theorem in_l (d r : List Int) (hl : r.length = d.length) (hn : d.length ≤ 6) : ∀ i, i ≤ r.length →
    Ev (fun k => walk_in.l0 k d r (r.length : Int) (i : Int)) (Gr.inb (d.drop i) (r.drop i)) := by
  apply down
  · rw [List.drop_length, hl, List.drop_length]
    refine Ev.step (fun k => ?_) (Ev.now _)
    rw [walk_in.l0, if_neg (by omega)]; rfl
  · intro i hi ih
    rw [dropc d i (by omega), dropc r i hi]
    simp only [Gr.inb]
    by_cases h1 : rd r (i : Int) < 0
    · rw [show decide (0 ≤ rd r (i : Int)) = false by simp; omega, Bool.false_and, Bool.false_and]
      refine Ev.step (fun k => ?_) (Ev.now _)
      rw [walk_in.l0, if_pos (by omega), if_pos (by omega), if_pos (by omega), if_pos h1]
    · rw [show decide (0 ≤ rd r (i : Int)) = true by simp; omega, Bool.true_and]
      by_cases h2 : rd d (i : Int) ≤ rd r (i : Int)
      · rw [show decide (rd r (i : Int) < rd d (i : Int)) = false by simp; omega, Bool.false_and]
        refine Ev.step (fun k => ?_) (Ev.now _)
        rw [walk_in.l0, if_pos (by omega), if_pos (by omega), if_pos (by omega), if_neg h1, if_pos (by omega), if_pos h2]
      · rw [show decide (rd r (i : Int) < rd d (i : Int)) = true by simp; omega, Bool.true_and]
        refine Ev.step (fun k => ?_) ih
        rw [walk_in.l0, if_pos (by omega), if_pos (by omega), if_pos (by omega), if_neg h1, if_pos (by omega), if_neg h2, nx i _ hi (by omega)]
theorem walk_ind (d r : List Int) : Ev (fun k => walk_in.f k d r) (Gr.ind d r) := by
  unfold Gr.ind
  refine Ev.congr (fun k => by rw [walk_in.f, shape_check, Option.bind_some]) ?_
  by_cases h : Gr.chk d = 0
  · have h6 := (Gr.chk_ok h).1
    simp only [if_pos h]
    rw [decide_eq_true h, Bool.true_and]
    by_cases hl : r.length = d.length
    · refine Ev.step (fun k => ?_) (in_l d r hl h6 0 (by omega))
      rw [walk_in.j0, if_neg (by simp; omega)]; rfl
    · rw [show Gr.inb d r = false by
        apply Decidable.byContradiction
        intro hc; exact hl (Gr.inb_length (by simpa using hc))]
      refine Ev.step (fun k => ?_) (Ev.now _)
      rw [walk_in.j0, if_pos (by simp; omega)]
  · simp only [if_neg h]
    rw [decide_eq_false h, Bool.false_and]
    refine Ev.step (fun k => ?_) (Ev.now _)
    rw [walk_in.j0, if_pos rfl]
theorem place_l (d r : List Int) (hok : Gr.chk d = 0) (hi2 : Gr.inb d r = true) : ∀ i, i ≤ r.length → ∀ n : Int, 0 ≤ n → n * Gr.prod (d.drop i) + Gr.num (d.drop i) (r.drop i) ≤ 64 → Gr.inb (d.drop i) (r.drop i) = true →
    Ev (fun k => walk_Place.l0 k d n r (r.length : Int) (i : Int)) (n * Gr.prod (d.drop i) + Gr.num (d.drop i) (r.drop i), true) := by
  obtain ⟨h6, h1, h2⟩ := Gr.chk_ok hok
  have hl := Gr.inb_length hi2
  apply down
  · intro n hn hb _
    rw [hl, List.drop_length, ← hl, List.drop_length]
    simp only [Gr.prod, Gr.num, Int.mul_one, Int.add_zero]
    refine Ev.step (fun k => ?_) (Ev.now _)
    rw [walk_Place.l0, if_neg (by omega)]
  · intro i hi ih n hn hb hin
    have hq := Gr.num_lt (d.drop (i + 1)) (r.drop (i + 1)) (fun x hx => h1 x (List.mem_of_mem_drop hx))
    have hp := Gr.prod_pos (d.drop (i + 1)) (fun x hx => h1 x (List.mem_of_mem_drop hx))
    have hx1 : 1 ≤ rd d (i : Int) := by rw [rdg d i (by omega)]; exact h1 _ (List.getElem_mem _)
    rw [dropc d i (by omega), dropc r i hi] at hin hb ⊢
    simp only [Gr.inb, Bool.and_eq_true, decide_eq_true_eq] at hin
    obtain ⟨q1, q2⟩ := hq hin.2
    simp only [Gr.prod, Gr.num] at hb ⊢
    have e : n * (rd d (i : Int) * Gr.prod (d.drop (i + 1))) + (rd r (i : Int) * Gr.prod (d.drop (i + 1)) + Gr.num (d.drop (i + 1)) (r.drop (i + 1))) = (n * rd d (i : Int) + rd r (i : Int)) * Gr.prod (d.drop (i + 1)) + Gr.num (d.drop (i + 1)) (r.drop (i + 1)) := by
      rw [Int.add_mul, ← Int.mul_assoc]; omega
    rw [e] at hb ⊢
    have b1 : 0 ≤ n * rd d (i : Int) := Int.mul_nonneg hn (by omega)
    have b2 : (n * rd d (i : Int) + rd r (i : Int)) * 1 ≤ (n * rd d (i : Int) + rd r (i : Int)) * Gr.prod (d.drop (i + 1)) := Int.mul_le_mul_of_nonneg_left hp (by omega)
    refine Ev.step (fun k => ?_) (ih _ (by omega) hb hin.2)
    rw [walk_Place.l0, if_pos (by omega), if_pos (by omega), if_pos (by omega), if_pos (by omega), show wrap64 (n * rd d (i : Int)) = n * rd d (i : Int) from w64 (by omega) (by omega), w64 (by omega) (by omega), nx i _ hi (by omega)]
theorem walk_place (d r : List Int) : Ev (fun k => walk_Place.f k d r) (Gr.plc d r) := by
  unfold Gr.plc
  refine Ev.congr (fun k => by rw [walk_Place.f]) (Ev.bind (walk_ind d r) ?_)
  by_cases h : Gr.ind d r = true
  · simp only [if_pos h]
    unfold Gr.ind at h
    simp only [Bool.and_eq_true, decide_eq_true_eq] at h
    obtain ⟨h6, h1, h2⟩ := Gr.chk_ok h.1
    have hb := (Gr.num_lt d r h1 h.2)
    have := place_l d r h.1 h.2 0 (by omega) 0 (by omega) (by simp; omega) (by simpa using h.2)
    rw [List.drop_zero, List.drop_zero, Int.zero_mul, Int.zero_add] at this
    exact this
  · simp only [if_neg h]
    exact Ev.now _
theorem all_2 (d : List Int) (L : List (List Int)) (i : Nat) (hi : i < d.length) (q : Nat) (hq : q < L.length) (hn : d.length ≤ 6) (hL : L.length ≤ 64) (hL6 : ∀ p ∈ L, p.length ≤ 6) (X : Nat) (hX : X ≤ 64) (hXd : rd d (i : Int) = (X : Int)) (r : List (List Int)) :
    ∀ v, v ≤ X → ∀ acc : List (List Int), acc.length ≤ 64 * q + v →
    Ev (fun k => gradineref20_All.l1 k d L (i : Int) (acc ++ ((List.range (X - v)).map fun u : Nat => L[q] ++ [((v + u : Nat) : Int)])) (d.length : Int) (i : Int) (L.length : Int) ((q + 1 : Nat) : Int)) r →
    Ev (fun k => gradineref20_All.l2 k d L (i : Int) acc (q : Int) (d.length : Int) (i : Int) (L.length : Int) (q : Int) (rd d (i : Int)) (v : Int)) r := by
  apply down
  · intro acc hacc h
    simp at h
    refine Ev.step (fun k => ?_) h
    rw [gradineref20_All.l2, if_neg (by omega), nx q _ hq (by omega)]; rfl
  · intro v hv ih acc hacc h
    have h6 := hL6 L[q] (List.getElem_mem hq)
    have e : acc ++ ((List.range (X - v)).map fun u : Nat => L[q] ++ [((v + u : Nat) : Int)]) = (acc ++ [L[q] ++ [(v : Int)]]) ++ ((List.range (X - (v + 1))).map fun u : Nat => L[q] ++ [((v + 1 + u : Nat) : Int)]) := by
      rw [show X - v = (X - (v + 1)) + 1 by omega, List.range_succ_eq_map, List.map_cons, List.map_map, List.append_assoc, List.singleton_append]
      congr 2
      apply List.map_congr_left
      intro u _
      simp only [Function.comp]
      rw [show v + u.succ = v + 1 + u by omega]
    rw [e] at h
    refine Ev.step (fun k => ?_) (ih (acc ++ [L[q] ++ [(v : Int)]]) (by simp; omega) h)
    rw [gradineref20_All.l2, if_pos (by omega), Option.bind_some, if_pos (by omega), if_pos (by omega), rdl L q hq, if_pos (by simp; omega), Option.bind_some, if_pos (by simp; omega), if_pos (by omega), nx v X hv (by omega), List.nil_append]
theorem all_1 (d : List Int) (L : List (List Int)) (i : Nat) (hi : i < d.length) (hn : d.length ≤ 6) (hL : L.length ≤ 64) (hL6 : ∀ p ∈ L, p.length ≤ 6) (X : Nat) (hX : X ≤ 64) (hXd : rd d (i : Int) = (X : Int)) (r : List (List Int)) :
    ∀ q, q ≤ L.length → ∀ acc : List (List Int), acc.length ≤ 64 * q →
    Ev (fun k => gradineref20_All.l0 k d (acc ++ (L.drop q).flatMap fun p => (List.range X).map fun v : Nat => p ++ [(v : Int)]) (d.length : Int) ((i + 1 : Nat) : Int)) r →
    Ev (fun k => gradineref20_All.l1 k d L (i : Int) acc (d.length : Int) (i : Int) (L.length : Int) (q : Int)) r := by
  apply down
  · intro acc hacc h
    rw [List.drop_length] at h
    simp only [List.flatMap_nil, List.append_nil] at h
    refine Ev.step (fun k => ?_) h
    rw [gradineref20_All.l1, if_neg (by omega), nx i _ hi (by omega)]
  · intro q hq ih acc hacc h
    rw [List.drop_eq_getElem_cons hq, List.flatMap_cons, ← List.append_assoc] at h
    have := ih _ (by simp; omega) h
    refine Ev.step (fun k => ?_) (all_2 d L i hi q hq hn hL hL6 X hX hXd r 0 (by omega) acc (by omega) (by simpa using this))
    rw [gradineref20_All.l1, if_pos (by omega), if_pos (by omega), if_pos (by omega)]; rfl
theorem all_0 (d : List Int) (hok : Gr.chk d = 0) : ∀ i, i ≤ d.length →
    Ev (fun k => gradineref20_All.l0 k d (Gr.pre (d.take i)) (d.length : Int) (i : Int)) (Gr.pre d) := by
  obtain ⟨h6, h1, h2⟩ := Gr.chk_ok hok
  apply down
  · rw [List.take_length]
    refine Ev.step (fun k => ?_) (Ev.now _)
    rw [gradineref20_All.l0, if_neg (by omega)]
  · intro i hi ih
    have hx := h1 _ (List.getElem_mem hi)
    have hx2 := Gr.ok_le hok _ (List.getElem_mem hi)
    have e : d.take (i + 1) = d.take i ++ [rd d (i : Int)] := by rw [List.take_succ_eq_append_getElem hi, rdg d i hi]
    rw [e, Gr.pre_snoc _ _ (fun y hy => h1 y (List.mem_of_mem_take hy)) (by rw [rdg d i hi]; exact hx)] at ih
    have hp := Gr.chk_ok (Gr.ok_take hok i)
    refine Ev.step (fun k => ?_) (all_1 d (Gr.pre (d.take i)) i hi h6 (by rw [Gr.pre_length]; omega) ?_ (rd d (i : Int)).toNat (by rw [rdg d i hi]; omega) (by rw [rdg d i hi]; omega) _ 0 (by omega) [] (by simp) (by simpa using ih))
    · rw [gradineref20_All.l0, if_pos (by omega)]; rfl
    · intro p hp
      simp only [Gr.pre, List.mem_map] at hp
      obtain ⟨n, _, rfl⟩ := hp
      rw [Gr.dig_length, List.length_take]; omega
theorem ref_all (d : List Int) : Ev (fun k => gradineref20_All.f k d) (Gr.alls d) := by
  refine Ev.congr (fun k => by rw [gradineref20_All.f]) (Ev.bind (ref_check d) ?_)
  by_cases h : Gr.chk d = 0
  · simp only [if_pos h]
    rw [Gr.alls_ok h]
    have := all_0 d h 0 (by omega)
    rw [List.take_zero, Gr.pre_nil] at this
    exact this
  · simp only [if_neg h]
    unfold Gr.alls
    rw [if_neg h]
    exact Ev.now _
theorem many29 (n a a2 a3 a4 a5 a6 a7 : Int) (a8 : Bool) (l d : List Int) : Ev (fun k => gradinelaw29_many.f k n a a2 a3 a4 a5 a6 a7 a8 l [d]) (decide (d.length > 20) || decide (l.length > 80)) := by
  have e0 : rd_L1 [d] 0 = d := rfl
  refine Ev.congr (fun k => by rw [gradinelaw29_many.f]) ?_
  by_cases h : d.length > 20
  · rw [decide_eq_true h, Bool.true_or]
    refine Ev.step (fun k => ?_) (Ev.now true)
    rw [gradinelaw29_many.l0, if_pos (by simp), if_pos (by omega), if_pos (by simp), e0, if_pos (by omega)]
  · rw [decide_eq_false h, Bool.false_or]
    refine Ev.step (fun k => by rw [gradinelaw29_many.l0, if_pos (by simp), if_pos (by omega), if_pos (by simp), e0, if_neg (by omega)]) ?_
    by_cases h2 : l.length > 80
    · rw [decide_eq_true h2]
      refine Ev.step (fun k => ?_) (Ev.now true)
      rw [gradinelaw29_many.l0, if_neg (by simp [wrap64]), if_pos (by omega)]
    · rw [decide_eq_false h2]
      refine Ev.step (fun k => ?_) (Ev.now false)
      rw [gradinelaw29_many.l0, if_neg (by simp [wrap64]), if_neg (by omega)]; rfl
theorem move_put_l (x : List Int) (n a a2 a3 a4 a5 a6 a7 : Int) (a8 : Bool) (l : List Int) (hn : l.length ≤ 1000000000) : ∀ i, i ≤ l.length →
    Ev (fun k => move_put.l0 k x l (l.length : Int) (i : Int) n a a2 a3 a4 a5 a6 a7 a8 l) (if Gr.inr (l.drop i) a = true then (x, 0) else ([], 11)) := by
  apply down
  · rw [List.drop_length]
    refine Ev.step (fun k => ?_) (Ev.now _)
    rw [move_put.l0, if_neg (by omega)]; rfl
  · intro i hi ih
    have e := Gr.inr_cons (rd l (i : Int)) (l.drop (i + 1)) a
    rw [dropc l i hi]
    by_cases h0 : rd l (i : Int) < 0
    · rw [if_neg (fun c => absurd (e.1 c).1.1 (by omega))]
      refine Ev.step (fun k => ?_) (Ev.now _)
      rw [move_put.l0, if_pos (by omega), if_pos (by omega), if_pos (by omega), if_pos h0]
    · by_cases h1 : a ≤ rd l (i : Int)
      · rw [if_neg (fun c => absurd (e.1 c).1.2 (by omega))]
        refine Ev.step (fun k => ?_) (Ev.now _)
        rw [move_put.l0, if_pos (by omega), if_pos (by omega), if_pos (by omega), if_neg h0, if_pos h1]
      · rw [show Gr.inr (rd l (i : Int) :: l.drop (i + 1)) a = Gr.inr (l.drop (i + 1)) a by rw [Bool.eq_iff_iff, e]; exact ⟨fun h => h.2, fun h => ⟨⟨by omega, by omega⟩, h⟩⟩]
        refine Ev.step (fun k => ?_) ih
        rw [move_put.l0, if_pos (by omega), if_pos (by omega), if_pos (by omega), if_neg h0, if_neg h1, nx i _ hi hn]
theorem mput (d : List Int) (n a a2 a3 a4 a5 a6 a7 : Int) (a8 : Bool) (l : List Int) (hn : l.length ≤ 1000000000) : Ev (fun k => move_put.f k d n a a2 a3 a4 a5 a6 a7 a8 l) (Gr.putd d n a l) := by
  refine Ev.congr (fun k => by rw [move_put.f]) (Ev.bind (withp d n a) ?_)
  unfold Gr.putd
  by_cases h : (Gr.withd d n a).2 = 0
  · obtain ⟨w1, w2, w3, w4, w5⟩ := Gr.withd_o29 h
    rw [if_pos h]
    simp only [if_pos h, if_pos w2, if_pos w3]
    by_cases h2 : (l.length : Int) = Gr.at0 d n
    · rw [if_pos h2]
      refine Ev.congr (fun k => by rw [← at0_rd, if_pos h2]) ?_
      have := move_put_l (Gr.withd d n a).1 n a a2 a3 a4 a5 a6 a7 a8 l hn 0 (by omega)
      rwa [List.drop_zero] at this
    · rw [if_neg h2]
      exact Ev.congr (fun k => by rw [← at0_rd, if_neg h2]) (Ev.now _)
  · rw [if_neg h]
    exact Ev.congr (fun k => by rw [if_neg h]) (Ev.now _)
def pdims (d : List Int) (n a : Int) (l : List Int) : List Int × Int := if Gr.chk d = 0 then Gr.putd d n a l else ([], Gr.chk d)
theorem dims39 (n a a2 a3 a4 a5 a6 a7 : Int) (a8 : Bool) (l d : List Int) (hn : l.length ≤ 1000000000) : Ev (fun k => move_Dims.f k 39 n a a2 a3 a4 a5 a6 a7 a8 l [d]) (pdims d n a l) := by
  have e0 : rd_L1 [d] 0 = d := rfl
  refine Ev.congr (fun k => by rw [move_Dims.f, move_Is.f, if_pos (by omega), Option.bind_some, if_pos (by decide), if_pos (by simp), if_neg (by omega)]) ?_
  refine Ev.step (fun k => by rw [move_Dims.j0, if_neg (by simp)]) ?_
  unfold pdims
  by_cases h : Gr.chk d = 0
  · rw [if_pos h]
    refine Ev.step (fun k => by rw [move_Dims.l0, if_pos (by simp), if_pos (by omega), if_pos (by simp), e0, shape_check, Option.bind_some, if_pos h]) ?_
    refine Ev.step (fun k => by rw [move_Dims.l0, if_neg (by simp [wrap64]), if_neg (by omega), if_pos rfl, if_pos (by simp), e0]) (Ev.bind (mput d n a a2 a3 a4 a5 a6 a7 a8 l hn) ?_)
    exact Ev.now _
  · rw [if_neg h]
    refine Ev.step (fun k => ?_) (Ev.now _)
    rw [move_Dims.l0, if_pos (by simp), if_pos (by omega), if_pos (by simp), e0, shape_check, Option.bind_some, if_neg h]
/-- Where the i-th element is put. -/
def mto (d : List Int) (n a : Int) (l : List Int) (i : Int) : Int × Bool :=
  if (pdims d n a l).2 = 0 ∧ (Gr.att d i).2 = true then Gr.plc (pdims d n a l).1 (Gr.mvp n l (Gr.att d i).1) else (0, false)
theorem att_ok {d : List Int} {i : Int} (h : (Gr.att d i).2 = true) : 0 ≤ i ∧ i < Gr.cnt d ∧ Gr.chk d = 0 ∧ Gr.att d i = (Gr.dig d i, true) ∧ Gr.inb d (Gr.dig d i) = true := by
  unfold Gr.att at h ⊢
  split at h
  · rename_i h1
    have hc : Gr.chk d = 0 := by
      by_cases c : Gr.chk d = 0
      · exact c
      · unfold Gr.cnt at h1; rw [if_neg c] at h1; omega
    exact ⟨h1.1, h1.2, hc, by rw [if_pos h1], Gr.inb_dig d (Gr.chk_ok hc).2.1 i⟩
  · simp at h
theorem move_to (n a a2 a3 a4 a5 a6 a7 : Int) (a8 : Bool) (l d : List Int) (i : Int) (hn : l.length ≤ 1000000000) : Ev (fun k => move_To.f k n a a2 a3 a4 a5 a6 a7 a8 l d i) (mto d n a l i) := by
  refine Ev.congr (fun k => by rw [move_To.f]) (Ev.bind (dims39 n a a2 a3 a4 a5 a6 a7 a8 l d hn) (Ev.bind (walk_at d i) ?_))
  unfold mto
  by_cases h : (pdims d n a l).2 = 0
  · by_cases h2 : (Gr.att d i).2 = true
    · rw [if_pos ⟨h, h2⟩]
      obtain ⟨b0, b1, hc, e, hp⟩ := att_ok h2
      have h3 : (Gr.putd d n a l).2 = 0 := by unfold pdims at h; rwa [if_pos hc] at h
      obtain ⟨w1, w2, w3, w4, w5, w6, w7⟩ := Gr.putd_ok h3
      have hl := Gr.inb_length hp
      obtain ⟨h4, h5⟩ := Gr.put_in h3 hp
      have h6 := (Gr.chk_ok hc).1
      rw [e]
      dsimp only
      refine Ev.congr (fun k => by rw [if_pos h]) (Ev.step (fun k => by rw [move_To.j0, if_neg (by simp), slices_Clone_int_int.f, if_pos (by omega), Option.bind_some, if_pos w2, if_pos (by omega), ← at0_rd, if_pos h4.1, if_pos h4.2, if_pos (by omega), ← at0_rd]; rfl) (Ev.bind (walk_place _ _) (Ev.now _)))
    · rw [if_neg (fun c => h2 c.2)]
      refine Ev.congr (fun k => by rw [if_pos h]) (Ev.step (fun k => ?_) (Ev.now _))
      rw [move_To.j0, if_pos (by simpa using h2)]
  · rw [if_neg (fun c => h c.1)]
    refine Ev.congr (fun k => by rw [if_neg h]) (Ev.step (fun k => ?_) (Ev.now _))
    rw [move_To.j0, if_pos rfl]
theorem rsame_l (a b : List Int) (hl : a.length = b.length) (hn : a.length ≤ 1000000000) : ∀ i, i ≤ a.length →
    Ev (fun k => gradineref19_Same.l0 k a b (a.length : Int) (i : Int)) (decide (a.drop i = b.drop i)) := by
  apply down
  · refine Ev.step (f := fun _ => some true) (fun k => ?_) ?_
    · rw [gradineref19_Same.l0, if_neg (by omega)]
    · rw [List.drop_length, hl, List.drop_length]; exact Ev.now true
  · intro i hi ih
    rw [dropc a i hi, dropc b i (by omega)]
    by_cases e : rd a (i : Int) = rd b (i : Int)
    · rw [show decide (rd a (i : Int) :: a.drop (i + 1) = rd b (i : Int) :: b.drop (i + 1)) = decide (a.drop (i + 1) = b.drop (i + 1)) by simp [e]]
      refine Ev.step (fun k => ?_) ih
      rw [gradineref19_Same.l0, if_pos (by omega), if_pos (by omega), if_pos (by omega), if_pos (by omega), if_pos e, nx i _ hi hn]
    · rw [show decide (rd a (i : Int) :: a.drop (i + 1) = rd b (i : Int) :: b.drop (i + 1)) = false by simp [e]]
      refine Ev.step (fun k => ?_) (Ev.now false)
      rw [gradineref19_Same.l0, if_pos (by omega), if_pos (by omega), if_pos (by omega), if_pos (by omega), if_neg e]
theorem rsame (a b : List Int) (hn : a.length ≤ 1000000000) : Ev (fun k => gradineref19_Same.f k a b) (decide (a = b)) := by
  by_cases hl : a.length = b.length
  · refine Ev.congr (fun k => ?_) (by have := rsame_l a b hl hn 0 (by omega); simpa using this)
    rw [gradineref19_Same.f, if_pos (by omega)]
  · rw [show decide (a = b) = false from decide_eq_false (fun e => hl (by rw [e]))]
    refine Ev.congr (fun k => ?_) (Ev.now false)
    rw [gradineref19_Same.f, if_neg (by omega)]
theorem rplace20_l (d r : List Int) (hok : Gr.chk d = 0) : ∀ i, i ≤ (Gr.alls d).length → (Gr.ind d r = true → (i : Int) ≤ Gr.num d r) →
    Ev (fun k => gradineref20_Place.l0 k r (Gr.alls d) ((Gr.alls d).length : Int) (i : Int)) (Gr.plr d r) := by
  obtain ⟨h6, h1, h2⟩ := Gr.chk_ok hok
  have hlen := Gr.alls_length d
  rw [(Gr.cnt_ok hok).1] at hlen
  apply down
  · intro hi
    have : ¬ Gr.ind d r = true := fun hh => by
      have := hi hh
      unfold Gr.ind at hh
      simp only [Bool.and_eq_true] at hh
      have := (Gr.num_lt d r h1 hh.2).2
      omega
    unfold Gr.plr
    rw [if_neg this]
    refine Ev.step (fun k => ?_) (Ev.now _)
    rw [gradineref20_Place.l0, if_neg (by omega)]
  · intro i hi ih hle
    have hs := rsame (Gr.dig d (i : Int)) r (by rw [Gr.dig_length]; omega)
    refine Ev.step (f := fun k => (gradineref19_Same.f k (Gr.dig d (i : Int)) r).bind fun t => if t = true then some (i : Int) else gradineref20_Place.l0 k r (Gr.alls d) ((Gr.alls d).length : Int) ((i + 1 : Nat) : Int)) (fun k => ?_) (Ev.bind hs ?_)
    · rw [gradineref20_Place.l0, if_pos (by omega), if_pos (by omega), if_pos (by omega), rdl _ i hi, Gr.alls_get, nx i _ hi (by omega)]
    · by_cases e : Gr.dig d (i : Int) = r
      · rw [decide_eq_true e]
        simp only [if_true]
        have hp : Gr.plr d r = (i : Int) := by
          unfold Gr.plr Gr.ind
          rw [← e, decide_eq_true hok, Gr.inb_dig d h1, Bool.and_self, if_pos rfl]
          exact Gr.num_dig_lt d h1 _ (by omega) (by omega)
        rw [hp]; exact Ev.now _
      · rw [decide_eq_false e]
        simp only [Bool.false_eq_true, if_false]
        refine ih (fun hh => ?_)
        have := hle hh
        rcases Int.lt_or_le (i : Int) (Gr.num d r) with hlt | hge
        · omega
        · exfalso
          unfold Gr.ind at hh
          simp only [Bool.and_eq_true] at hh
          have := Gr.dig_num d r h1 hh.2
          rw [show Gr.num d r = (i : Int) by omega] at this
          exact e this
theorem ref_place20 (d r : List Int) : Ev (fun k => gradineref20_Place.f k d r) (Gr.plr d r) := by
  refine Ev.congr (fun k => by rw [gradineref20_Place.f]) (Ev.bind (ref_all d) ?_)
  by_cases h : Gr.chk d = 0
  · refine rplace20_l d r h 0 (by omega) (fun hh => ?_)
    unfold Gr.ind at hh
    simp only [Bool.and_eq_true] at hh
    have := (Gr.num_lt d r (Gr.chk_ok h).2.1 hh.2).1
    omega
  · unfold Gr.plr Gr.ind Gr.alls
    rw [if_neg h, decide_eq_false h]
    refine Ev.step (fun k => ?_) (Ev.now _)
    rw [gradineref20_Place.l0, if_neg (by simp)]; simp
theorem rput_1 (d out : List Int) (n a a2 a3 a4 a5 a6 a7 : Int) (a8 : Bool) (l : List Int) (hd : Gr.chk d = 0) (h0 : 0 ≤ n) (h1 : n < (d.length : Int)) (hl : (l.length : Int) = Gr.at0 d n) : ∀ q, q ≤ (Gr.alls d).length → ∀ ac : List Int, ac.length ≤ q →
    Ev (fun k => gradineref29_put.l1 k d (Gr.alls d) ((Gr.alls d).length : Int) (q : Int) n a a2 a3 a4 a5 a6 a7 a8 l out ac) (out, [], ac ++ ((Gr.alls d).drop q).map (fun p => Gr.plr out (Gr.mvp n l p)), 0) := by
  have hlen := Gr.alls_length d
  have h64 := (Gr.cnt_ok hd).2.2
  have h6 := (Gr.chk_ok hd).1
  obtain ⟨i0, rfl⟩ := Int.eq_ofNat_of_zero_le h0
  apply down
  · intro ac _
    rw [List.drop_length]
    simp only [List.map_nil, List.append_nil]
    refine Ev.step (fun k => ?_) (Ev.now _)
    rw [gradineref29_put.l1, if_neg (by omega)]
  · intro q hq ih ac hac
    have hp := (Gr.mem_alls hd).1 (List.getElem_mem hq)
    have hpl := Gr.inb_length hp
    have hpi := Gr.inb_a29 hp i0 (by omega)
    have hr := ih (ac ++ [Gr.plr out (Gr.mvp (i0 : Int) l (Gr.alls d)[q])]) (by simp; omega)
    rw [List.append_assoc] at hr
    rw [List.drop_eq_getElem_cons hq, List.map_cons]
    refine Ev.step (f := fun k => (gradineref20_Place.f k out (Gr.mvp (i0 : Int) l (Gr.alls d)[q])).bind fun t => (if ac.length < 17592186044416 then (gradineref29_put.l1 k d (Gr.alls d) ((Gr.alls d).length : Int) ((q + 1 : Nat) : Int) (i0 : Int) a a2 a3 a4 a5 a6 a7 a8 l out (ac ++ [t])) else (none))) (fun k => ?_) (Ev.bind (ref_place20 out _) ?_)
    · rw [gradineref29_put.l1, if_pos (by omega), Option.bind_some, if_pos (by omega), if_pos (by omega), rdl _ q hq, if_pos (by simp; omega), Option.bind_some, List.nil_append, if_pos (by omega), if_pos (by omega), ← at0_rd, if_pos hpi.1, if_pos (by omega), nx q _ hq (by omega), ← at0_rd]
      rfl
    · exact Ev.congr (fun k => by rw [if_pos (by omega)]) hr
theorem rput_0 (d out : List Int) (n a a2 a3 a4 a5 a6 a7 : Int) (a8 : Bool) (l : List Int) (hn : l.length ≤ 1000000000) (R : List Int × List Int × List Int × Int) (hR : Ev (fun k => (gradineref20_All.f k d).bind fun L => gradineref29_put.l1 k d L (L.length : Int) 0 n a a2 a3 a4 a5 a6 a7 a8 l out []) R) : ∀ i, i ≤ l.length →
    Ev (fun k => gradineref29_put.l0 k d out (l.length : Int) (i : Int) n a a2 a3 a4 a5 a6 a7 a8 l) (if Gr.inr (l.drop i) a = true then R else ([], [], [], 11)) := by
  apply down
  · rw [List.drop_length, if_pos (show Gr.inr [] a = true from rfl)]
    refine Ev.step (fun k => ?_) hR
    rw [gradineref29_put.l0, if_neg (by omega)]
  · intro i hi ih
    have e := Gr.inr_cons (rd l (i : Int)) (l.drop (i + 1)) a
    rw [dropc l i hi]
    by_cases h0 : rd l (i : Int) < 0
    · rw [if_neg (fun c => absurd (e.1 c).1.1 (by omega))]
      refine Ev.step (fun k => ?_) (Ev.now _)
      rw [gradineref29_put.l0, if_pos (by omega), if_pos (by omega), if_pos (by omega), if_pos h0]
    · by_cases h1 : a ≤ rd l (i : Int)
      · rw [if_neg (fun c => absurd (e.1 c).1.2 (by omega))]
        refine Ev.step (fun k => ?_) (Ev.now _)
        rw [gradineref29_put.l0, if_pos (by omega), if_pos (by omega), if_pos (by omega), if_neg h0, if_pos h1]
      · rw [show Gr.inr (rd l (i : Int) :: l.drop (i + 1)) a = Gr.inr (l.drop (i + 1)) a by rw [Bool.eq_iff_iff, e]; exact ⟨fun h => h.2, fun h => ⟨⟨by omega, by omega⟩, h⟩⟩]
        refine Ev.step (fun k => ?_) ih
        rw [gradineref29_put.l0, if_pos (by omega), if_pos (by omega), if_pos (by omega), if_neg h0, if_neg h1, nx i _ hi hn]
theorem rput (d : List Int) (n a a2 a3 a4 a5 a6 a7 : Int) (a8 : Bool) (l : List Int) (hd : Gr.chk d = 0) (hn : l.length ≤ 1000000000) : Ev (fun k => gradineref29_put.f k d n a a2 a3 a4 a5 a6 a7 a8 l) (Gr.putv d n a l) := by
  refine Ev.congr (fun k => by rw [gradineref29_put.f]) (Ev.bind (ref_with d n a) ?_)
  unfold Gr.putv Gr.putd
  by_cases h : (Gr.withd d n a).2 = 0
  · obtain ⟨w1, w2, w3, w4, w5⟩ := Gr.withd_o29 h
    rw [if_pos h]
    refine Ev.congr (fun k => by rw [if_pos h, if_pos w2, if_pos w3]) ?_
    by_cases h2 : (l.length : Int) = Gr.at0 d n
    · rw [if_pos h2]
      refine Ev.congr (fun k => by rw [← at0_rd, if_pos h2]) ?_
      have h1 := rput_1 d (Gr.withd d n a).1 n a a2 a3 a4 a5 a6 a7 a8 l hd w2 w3 h2 0 (by omega) [] (by simp)
      rw [List.drop_zero, List.nil_append] at h1
      have h0 := rput_0 d (Gr.withd d n a).1 n a a2 a3 a4 a5 a6 a7 a8 l hn _ (Ev.bind (ref_all d) h1) 0 (by omega)
      rw [List.drop_zero] at h0
      by_cases h3 : Gr.inr l a = true
      · rw [if_pos h3] at h0
        rw [if_pos h3, if_pos rfl]
        exact h0
      · rw [if_neg h3] at h0
        rw [if_neg h3, if_neg (by decide)]
        exact h0
    · rw [if_neg h2, if_neg (by decide)]
      exact Ev.congr (fun k => by rw [← at0_rd, if_neg h2]) (Ev.now _)
  · rw [if_neg h, if_neg h]
    exact Ev.congr (fun k => by rw [if_neg h]) (Ev.now _)
end Go.Proofs.Yticcamciaohepaa.S
namespace Go.Proofs.Yticcamciaohepaa.Q
open Go.RowKit Go.Proofs.YticcamciaohepaaW.PrintWords Go.Proofs.YticcamciaohepaaW.PrintLast Go.Proofs.YticcamciaohepaaW.PrintMore
attribute [local go_sem] max2_int min2_int max_two min_two max_three min_three max_four min_four
set_option linter.unusedVariables false
set_option linter.unusedSimpArgs false

section
variable {P : Program} {ops : Array Oper} {o : Oper} {rest : List Oper} {a : Act} {Q : Exit → Act → World → Prop}
theorem mp.lit {W : World} (hgd : o.guard = none) {N : Tmp} (_hd : o.dst = some N) {u : Value} {t : TypeId} (hrun : (execOp a.eval o).run P W = .ok (.value (.slice (some ⟨W.heap.size, 0, none⟩) 1 1)) (W.alloc (.cells #[u] t (0, 0))))
    (h : ∀ g, g = W.heap.size → ∀ w1, w1.heap[g]? = some (.cells #[u] t (0, 0)) → Below W.heap.size W w1 → wpList P ops Q rest (a.put o.dst (.slice (some ⟨g, 0, none⟩) 1 1)) w1) : wpList P ops Q (o :: rest) a W :=
  Kd.event_run hgd hrun (h _ rfl _ (blk_new W _) (below_alloc (Below.refl _ _) _))
end
theorem mp.one {w : World} {g t c : Nat} {A : Option Addr} {x : List Int} (h : w.heap[g]? = some (.cells #[.slice A x.length c] t (0, 0))) (hc : x.length ≤ c) (hC : Kd.C (Kd.int .i64) w A x.length x) : Kd.C (Kd.slice 3 (Kd.int .i64)) w (some ⟨g, 0, none⟩) 1 [x] := by
  refine ⟨rfl, by omega, fun _ => ⟨_, rfl, fun j p hj => ?_⟩⟩
  cases j with
  | zero =>
    simp only [List.getElem?_cons_zero, Option.some.injEq] at hj
    subst hj
    refine ⟨[.slice A x.length c], rfl, ⟨A, c, rfl, hc, hC⟩, fun i u hu => ?_⟩
    cases i with
    | zero =>
      simp only [List.getElem?_cons_zero, Option.some.injEq] at hu
      subst hu
      exact (blk_cell h 0).trans rfl
    | succ i => simp at hu
  | succ j => simp at hj
theorem mp.many (k : Nat) (a0 a1 a2 a3 a4 a5 a6 a7 : Int) (a8 : Bool) (A : Option Addr) (c : Nat) (l : List Int) (A1 : Option Addr) (c1 : Nat) (d : List Int) (r : Bool) (w : World) (g : Nat) (hr : Kd.C (Kd.int .i64) w A l.length l) (hc : l.length ≤ c) (hg : w.heap[g]? = some (.cells #[.slice A1 d.length c1] 22 (0, 0))) (hr1 : Kd.C (Kd.int .i64) w A1 d.length d) (hc1 : d.length ≤ c1) (h : gradinelaw29_many.f k a0 a1 a2 a3 a4 a5 a6 a7 a8 l [d] = some r) :
  Calls Try.prog 5 #[.agg #[.int .i64 a0, .int .i64 a1, .int .i64 a2, .int .i64 a3, .int .i64 a4, .int .i64 a5, .int .i64 a6, .int .i64 a7, .bool a8, .slice A l.length c], .slice (some ⟨g, 0, none⟩) 1 1] w fun e w' => e = .returned (.bool r) ∧ Below w.heap.size w w' := gradinelaw29_many.calls k a0 a1 a2 a3 a4 a5 a6 a7 a8 A c l (some ⟨g, 0, none⟩) 1 [d] r w hr hc (mp.one hg hc1 hr1) (Nat.le_refl _) h
theorem mp.of (k : Nat) (a0 a1 a2 a3 a4 a5 a6 a7 : Int) (a8 : Bool) (A : Option Addr) (c : Nat) (l : List Int) (A1 : Option Addr) (c1 : Nat) (d : List Int) (r1 r2 r3 : List Int) (r4 : Int) (w : World) (g : Nat) (hr : Kd.C (Kd.int .i64) w A l.length l) (hc : l.length ≤ c) (hg : w.heap[g]? = some (.cells #[.slice A1 d.length c1] 22 (0, 0))) (hr1 : Kd.C (Kd.int .i64) w A1 d.length d) (hc1 : d.length ≤ c1) (h : gradineref29_Of.f k 39 a0 a1 a2 a3 a4 a5 a6 a7 a8 l [d] = some (r1, r2, r3, r4)) :
  Calls Try.prog 7 #[.int .i64 39, .agg #[.int .i64 a0, .int .i64 a1, .int .i64 a2, .int .i64 a3, .int .i64 a4, .int .i64 a5, .int .i64 a6, .int .i64 a7, .bool a8, .slice A l.length c], .slice (some ⟨g, 0, none⟩) 1 1] w fun e w' => ∃ v0_ v1_ v2_ : Value, e = .returned (.tuple #[.agg #[v0_, v1_, v2_], .int .i64 r4]) ∧ Kd.R (Kd.int .i64) 3 w' w.heap.size (fun k_ => some k_ ≠ (v1_ : Value).ownBlock ∧ some k_ ≠ (v2_ : Value).ownBlock) v0_ r1 ∧ Kd.R (Kd.int .i64) 3 w' w.heap.size (fun k_ => some k_ ≠ (v0_ : Value).ownBlock ∧ some k_ ≠ (v2_ : Value).ownBlock) v1_ r2 ∧ Kd.R (Kd.int .i64) 3 w' w.heap.size (fun k_ => some k_ ≠ (v0_ : Value).ownBlock ∧ some k_ ≠ (v1_ : Value).ownBlock) v2_ r3 ∧ Below w.heap.size w w' := gradineref29_Of.calls k 39 a0 a1 a2 a3 a4 a5 a6 a7 a8 A c l (some ⟨g, 0, none⟩) 1 [d] r1 r2 r3 r4 w hr hc (mp.one hg hc1 hr1) (Nat.le_refl _) h
def mp.f (k : Nat) (a0 a1 a2 a3 a4 a5 a6 a7 : Int) (a8 : Bool) (l d : List Int) (n : Int) : Option Bool :=
  (gradinelaw29_many.f k a0 a1 a2 a3 a4 a5 a6 a7 a8 l [d]).bind fun m => if m = true then some true else
  (gradineref29_Of.f k 39 a0 a1 a2 a3 a4 a5 a6 a7 a8 l [d]).bind fun r => (move_To.f k a0 a1 a2 a3 a4 a5 a6 a7 a8 l d n).bind fun t =>
  if t.2 = true ∧ 0 ≤ n ∧ n < (r.2.2.1.length : Int) ∧ t.1 = rd r.2.2.1 n then some true else
  if t.2 = false ∧ t.1 = 0 ∧ n < 0 then some true else if t.2 = false ∧ t.1 = 0 ∧ 0 ≤ n ∧ (r.2.2.1.length : Int) ≤ n then some true else none
set_option maxHeartbeats 8000000 in
set_option maxRecDepth 100000 in
theorem mp.calls (k : Nat) (a0 a1 a2 a3 a4 a5 a6 a7 : Int) (a8 : Bool) (A : Option Addr) (c : Nat) (l : List Int) (A1 : Option Addr) (c1 : Nat) (l1 : List Int) (nn : Int) (w : World) (hr : Kd.C (Kd.int .i64) w A l.length l) (hc : l.length ≤ c) (hr1 : Kd.C (Kd.int .i64) w A1 l1.length l1) (hc1 : l1.length ≤ c1) (h : mp.f k a0 a1 a2 a3 a4 a5 a6 a7 a8 l l1 nn = some true) :
  Calls Try.prog 3 #[.agg #[.int .i64 a0, .int .i64 a1, .int .i64 a2, .int .i64 a3, .int .i64 a4, .int .i64 a5, .int .i64 a6, .int .i64 a7, .bool a8, .slice A l.length c], .slice A1 l1.length c1, .int .i64 nn] w fun e w' => e = .returned (.bool true) ∧ Below w.heap.size w w' := by
 have hu24 := Try.underlying24
 have hu29 := Try.underlying29
 have HR := aM hr
 have HC := aM hc
 have HR1 := aM hr1
 have HC1 := aM hc1
 clear hr hc hr1 hc1
 have HB := aM (Below.refl w.heap.size w)
 replace h := Option.bind_eq_some_iff.mp h
 obtain ⟨m, Em, H⟩ := h
 have Am := aM Em
 clear Em
 cases m with
 | true =>
  clear H
  go_enter Try.func3, Try.ntmps3
  go_wp2_with (first | ((with_reducible refine gate_dst (N := 3) rfl ?_); refine box_event ?hg (N := 3) ?hd (cs := #[.int .i64 a0, .int .i64 a1, .int .i64 a2, .int .i64 a3, .int .i64 a4, .int .i64 a5, .int .i64 a6, .int .i64 a7, .bool a8, .slice A l.length c]) (t := 24) ?hr ?_; (case hd => rfl); (case hg => rfl); (case hr => first | (go_simp; done) | (go_simp; rfl)); intro g hg w101 hbox hb; have BK := aM hbox; have GE := gE (w := w) hg (qB HB); replace HB := bS (qB HB) hb; clear hb hbox hg; obtain ⟨hcz2_0, hcz2_1, hcz2_2, hcz2_3, hcz2_4, hcz2_5, hcz2_6, hcz2_7, hcz2_8, hcz2_9, hfz2_0, hfz2_1, hfz2_2, hfz2_3, hfz2_4, hfz2_5, hfz2_6, hfz2_7, hfz2_8, hfz2_9⟩ := blk10 BK.out) | ((with_reducible refine gate_dst (N := 13) rfl ?_); refine mp.lit ?hg (N := 13) ?hd (u := .slice A1 l1.length c1) (t := 22) ?hr ?_; (case hd => rfl); (case hg => rfl); (case hr => first | (go_simp; done) | (go_simp; rfl)); intro gm hg w103 hbox hb; have Lgm := aM hbox; clear hg; replace BK := bK BK hb; replace HB := bS (qB1 HB GE) hb; clear hb hbox; obtain ⟨hcz4_0, hcz4_1, hcz4_2, hcz4_3, hcz4_4, hcz4_5, hcz4_6, hcz4_7, hcz4_8, hcz4_9, hfz4_0, hfz4_1, hfz4_2, hfz4_3, hfz4_4, hfz4_5, hfz4_6, hfz4_7, hfz4_8, hfz4_9⟩ := blk10 BK.out) | ((with_reducible refine gate_callee (f := 5) rfl ?_); refine goesL_ (some 14) rfl rfl Try.func5 (by kernel_rfl) rfl #[.agg #[.int .i64 a0, .int .i64 a1, .int .i64 a2, .int .i64 a3, .int .i64 a4, .int .i64 a5, .int .i64 a6, .int .i64 a7, .bool a8, .slice A l.length c], .slice (some ⟨gm, 0, none⟩) 1 1] rfl pA ?_; (with_reducible refine (mp.many k a0 a1 a2 a3 a4 a5 a6 a7 a8 A c l A1 c1 l1 true _ gm ?s1 ?s2 ?s3 ?s4 ?s5 Am.out).mono ?_); (case s1 => exact sC HR HB); (case s2 => exact HC.out); (case s3 => exact Lgm.out); (case s4 => exact sC HR1 HB); (case s5 => exact HC1.out); rintro e w105 ⟨rfl, hb⟩; refine ⟨_, rfl, ?_⟩; replace BK := bK BK hb; replace HB := bS (qB1 HB GE) hb; clear hb; obtain ⟨hcz6_0, hcz6_1, hcz6_2, hcz6_3, hcz6_4, hcz6_5, hcz6_6, hcz6_7, hcz6_8, hcz6_9, hfz6_0, hfz6_1, hfz6_2, hfz6_3, hfz6_4, hfz6_5, hfz6_6, hfz6_7, hfz6_8, hfz6_9⟩ := blk10 BK.out) | ((with_reducible refine gate_callee (f := 6) rfl ?_); refine goesL_ (some 15) rfl rfl Try.func6 (by kernel_rfl) rfl #[] rfl pA ?_; (with_reducible refine (gradinelaw29_same.calls true _ rfl).mono ?_); skip; rintro e w107 ⟨rfl, hb⟩; refine ⟨_, rfl, ?_⟩; replace BK := bK BK hb; replace HB := bS (qB1 HB GE) hb; clear hb))
  go_ret
  exact ⟨pE, HB.out⟩
 | false =>
  rw [if_neg (by simp)] at H
  replace H := Option.bind_eq_some_iff.mp H
  obtain ⟨⟨r1, r2, x, r4⟩, Eo, H⟩ := H
  have Ao := aM Eo
  clear Eo
  replace H := Option.bind_eq_some_iff.mp H
  obtain ⟨⟨t, t2⟩, Et, H⟩ := H
  have At := aM Et
  clear Et
  dsimp only at H
  by_cases h1 : t2 = true ∧ 0 ≤ nn ∧ nn < (x.length : Int) ∧ t = rd x nn
  · clear H
    obtain ⟨rfl, n0, n1, rfl⟩ := h1
    have d0 : decide (nn ≥ 0) = true := decide_eq_true n0
    have d0' : decide (0 ≤ nn) = true := decide_eq_true n0
    have d1 : decide (nn < (x.length : Int)) = true := decide_eq_true n1
    have p8 : (0 ≤ nn) = True := eq_true n0
    have q8 : (nn < (x.length : Int)) = True := eq_true n1
    have d5 : (rd x nn != rd x nn) = false := bne_self_eq_false _
    go_enter Try.func3, Try.ntmps3
    go_wp2_with (first | ((with_reducible refine gate_dst (N := 3) rfl ?_); refine box_event ?hg (N := 3) ?hd (cs := #[.int .i64 a0, .int .i64 a1, .int .i64 a2, .int .i64 a3, .int .i64 a4, .int .i64 a5, .int .i64 a6, .int .i64 a7, .bool a8, .slice A l.length c]) (t := 24) ?hr ?_; (case hd => rfl); (case hg => rfl); (case hr => first | (go_simp; done) | (go_simp; rfl)); intro g hg w101 hbox hb; have BK := aM hbox; have GE := gE (w := w) hg (qB HB); replace HB := bS (qB HB) hb; clear hb hbox hg; obtain ⟨hcz2_0, hcz2_1, hcz2_2, hcz2_3, hcz2_4, hcz2_5, hcz2_6, hcz2_7, hcz2_8, hcz2_9, hfz2_0, hfz2_1, hfz2_2, hfz2_3, hfz2_4, hfz2_5, hfz2_6, hfz2_7, hfz2_8, hfz2_9⟩ := blk10 BK.out) | ((with_reducible refine gate_dst (N := 13) rfl ?_); refine mp.lit ?hg (N := 13) ?hd (u := .slice A1 l1.length c1) (t := 22) ?hr ?_; (case hd => rfl); (case hg => rfl); (case hr => first | (go_simp; done) | (go_simp; rfl)); intro gm hg w103 hbox hb; have Lgm := aM hbox; clear hg; replace BK := bK BK hb; replace HB := bS (qB1 HB GE) hb; clear hb hbox; obtain ⟨hcz4_0, hcz4_1, hcz4_2, hcz4_3, hcz4_4, hcz4_5, hcz4_6, hcz4_7, hcz4_8, hcz4_9, hfz4_0, hfz4_1, hfz4_2, hfz4_3, hfz4_4, hfz4_5, hfz4_6, hfz4_7, hfz4_8, hfz4_9⟩ := blk10 BK.out) | ((with_reducible refine gate_callee (f := 5) rfl ?_); refine goesL_ (some 14) rfl rfl Try.func5 (by kernel_rfl) rfl #[.agg #[.int .i64 a0, .int .i64 a1, .int .i64 a2, .int .i64 a3, .int .i64 a4, .int .i64 a5, .int .i64 a6, .int .i64 a7, .bool a8, .slice A l.length c], .slice (some ⟨gm, 0, none⟩) 1 1] rfl pA ?_; (with_reducible refine (mp.many k a0 a1 a2 a3 a4 a5 a6 a7 a8 A c l A1 c1 l1 false _ gm ?s1 ?s2 ?s3 ?s4 ?s5 Am.out).mono ?_); (case s1 => exact sC HR HB); (case s2 => exact HC.out); (case s3 => exact Lgm.out); (case s4 => exact sC HR1 HB); (case s5 => exact HC1.out); rintro e w108 ⟨rfl, hb⟩; refine ⟨_, rfl, ?_⟩; replace BK := bK BK hb; replace HB := bS (qB1 HB GE) hb; clear hb; obtain ⟨hcz9_0, hcz9_1, hcz9_2, hcz9_3, hcz9_4, hcz9_5, hcz9_6, hcz9_7, hcz9_8, hcz9_9, hfz9_0, hfz9_1, hfz9_2, hfz9_3, hfz9_4, hfz9_5, hfz9_6, hfz9_7, hfz9_8, hfz9_9⟩ := blk10 BK.out) | ((with_reducible refine gate_dst (N := 19) rfl ?_); refine mp.lit ?hg (N := 19) ?hd (u := .slice A1 l1.length c1) (t := 22) ?hr ?_; (case hd => rfl); (case hg => rfl); (case hr => first | (go_simp; done) | (go_simp; rfl)); intro gd hg w110 hbox hb; have Lgd := aM hbox; clear hg; replace BK := bK BK hb; replace HB := bS (qB1 HB GE) hb; clear hb hbox; obtain ⟨hcz11_0, hcz11_1, hcz11_2, hcz11_3, hcz11_4, hcz11_5, hcz11_6, hcz11_7, hcz11_8, hcz11_9, hfz11_0, hfz11_1, hfz11_2, hfz11_3, hfz11_4, hfz11_5, hfz11_6, hfz11_7, hfz11_8, hfz11_9⟩ := blk10 BK.out) | ((with_reducible refine gate_callee (f := 7) rfl ?_); refine goesL_ (some 20) rfl rfl Try.func7 (by kernel_rfl) rfl #[.int .i64 39, .agg #[.int .i64 a0, .int .i64 a1, .int .i64 a2, .int .i64 a3, .int .i64 a4, .int .i64 a5, .int .i64 a6, .int .i64 a7, .bool a8, .slice A l.length c], .slice (some ⟨gd, 0, none⟩) 1 1] rfl pA ?_; (with_reducible refine (mp.of k a0 a1 a2 a3 a4 a5 a6 a7 a8 A c l A1 c1 l1 _ _ _ _ _ gd ?s1 ?s2 ?s3 ?s4 ?s5 Ao.out).mono ?_); (case s1 => exact sC HR HB); (case s2 => exact HC.out); (case s3 => exact Lgd.out); (case s4 => exact sC HR1 HB); (case s5 => exact HC1.out); rintro e_ w112 ⟨v0, v1, v2, rfl, ho0, ho1, ho2, hb⟩; refine ⟨_, rfl, ?_⟩; obtain ⟨Ao0, co0, eo0⟩ := Kd.R_slice ho0; subst eo0; obtain ⟨Ao1, co1, eo1⟩ := Kd.R_slice ho1; subst eo1; have HF := aM (Kd.R_lower ho2 (below_size (qB1 HB GE))); replace BK := bK BK hb; replace HB := bS (qB1 HB GE) hb; clear hb ho0 ho1 ho2; obtain ⟨Ao, co, eo⟩ := Kd.R_slice HF.out; subst eo; obtain ⟨hcz13_0, hcz13_1, hcz13_2, hcz13_3, hcz13_4, hcz13_5, hcz13_6, hcz13_7, hcz13_8, hcz13_9, hfz13_0, hfz13_1, hfz13_2, hfz13_3, hfz13_4, hfz13_5, hfz13_6, hfz13_7, hfz13_8, hfz13_9⟩ := blk10 BK.out) | ((with_reducible refine gate_dst (N := 7) rfl ?_); refine box_event ?hg (N := 7) ?hd (cs := #[.slice none 0 0, .slice none 0 0, .slice none 0 0]) (t := 29) ?hr ?_; (case hd => rfl); (case hg => rfl); (case hr => first | (go_simp; done) | (go_simp; rfl)); intro g2 hg w114 hbox hb; have BM := aM hbox; have GE2 := gE (w := w) hg (qB1 HB GE); replace HB := bS (qB1 HB GE) hb; have NL := nL hg BK; have NG := nG hg BK; replace BK := bK BK hb; replace HF := bR HF hb; clear hb hbox hg; have hnb2 := NG.out; have hnc2 := NL.out; obtain ⟨hcz15_0, hcz15_1, hcz15_2, hcz15_3, hcz15_4, hcz15_5, hcz15_6, hcz15_7, hcz15_8, hcz15_9, hfz15_0, hfz15_1, hfz15_2, hfz15_3, hfz15_4, hfz15_5, hfz15_6, hfz15_7, hfz15_8, hfz15_9⟩ := blk10 BK.out; obtain ⟨hcz16_0, hcz16_1, hcz16_2, hfz16_0, hfz16_1, hfz16_2⟩ := blk3 BM.out) | ((with_reducible refine gate_callee (f := 8) rfl ?_); refine goesL_ (some 27) rfl rfl Try.func8 (by kernel_rfl) rfl #[.agg #[.int .i64 a0, .int .i64 a1, .int .i64 a2, .int .i64 a3, .int .i64 a4, .int .i64 a5, .int .i64 a6, .int .i64 a7, .bool a8, .slice A l.length c], .slice A1 l1.length c1, .int .i64 nn] rfl pA ?_; (with_reducible refine (move_To.calls k a0 a1 a2 a3 a4 a5 a6 a7 a8 _ _ l (fun k_ => k_ < w.heap.size) _ _ l1 nn _ true _ ?s1 ?s2 ?s3 At.out).mono ?_); (case s1 => exact Kd.C_below HR.out (qB2 HB GE GE2)); (case s2 => exact HC.out); (case s3 => exact Kd.V_mk HC1.out (Kd.F_below (Kd.C_F (Kd.heap_int .i64) HR1.out) (qB2 HB GE GE2))); rintro e_ w117 ⟨rfl, hb⟩; refine ⟨_, rfl, ?_⟩; replace HF := aM (Kd.R_below (F3 (ok' := fun _ => True) HF BM (fun _ _ => trivial)) hb); replace BK := aM (blk_below (B3 NL BK.out) hb); replace BM := aM (blk_below (P3 BM) hb); replace HB := bS (qB2 HB GE GE2) hb; clear hb; obtain ⟨hcz18_0, hcz18_1, hcz18_2, hcz18_3, hcz18_4, hcz18_5, hcz18_6, hcz18_7, hcz18_8, hcz18_9, hfz18_0, hfz18_1, hfz18_2, hfz18_3, hfz18_4, hfz18_5, hfz18_6, hfz18_7, hfz18_8, hfz18_9⟩ := blk10 BK.out; obtain ⟨hcz19_0, hcz19_1, hcz19_2, hfz19_0, hfz19_1, hfz19_2⟩ := blk3 BM.out; obtain ⟨ad, ead, hx⟩ := Kd.at_int (sR HF) nn n0 n1; cases ead) | ((with_reducible refine gate_callee (f := 6) rfl ?_); refine goesL_ (some 61) rfl rfl Try.func6 (by kernel_rfl) rfl #[] rfl pA ?_; (with_reducible refine (gradinelaw29_same.calls true _ rfl).mono ?_); skip; rintro e w123 ⟨rfl, hb⟩; refine ⟨_, rfl, ?_⟩; replace BK := bK BK hb; replace HB := bS (qB1 HB GE) hb; clear hb))
    go_ret
    exact ⟨pE, HB.out⟩
  · rw [if_neg h1] at H
    by_cases h2 : t2 = false ∧ t = 0 ∧ nn < 0
    · clear H
      obtain ⟨rfl, rfl, n0⟩ := h2
      have d0 : decide (nn ≥ 0) = false := decide_eq_false (by omega)
      have d0' : decide (0 ≤ nn) = false := decide_eq_false (by omega)
      go_enter Try.func3, Try.ntmps3
      go_wp2_with (first | ((with_reducible refine gate_dst (N := 3) rfl ?_); refine box_event ?hg (N := 3) ?hd (cs := #[.int .i64 a0, .int .i64 a1, .int .i64 a2, .int .i64 a3, .int .i64 a4, .int .i64 a5, .int .i64 a6, .int .i64 a7, .bool a8, .slice A l.length c]) (t := 24) ?hr ?_; (case hd => rfl); (case hg => rfl); (case hr => first | (go_simp; done) | (go_simp; rfl)); intro g hg w101 hbox hb; have BK := aM hbox; have GE := gE (w := w) hg (qB HB); replace HB := bS (qB HB) hb; clear hb hbox hg; obtain ⟨hcz2_0, hcz2_1, hcz2_2, hcz2_3, hcz2_4, hcz2_5, hcz2_6, hcz2_7, hcz2_8, hcz2_9, hfz2_0, hfz2_1, hfz2_2, hfz2_3, hfz2_4, hfz2_5, hfz2_6, hfz2_7, hfz2_8, hfz2_9⟩ := blk10 BK.out) | ((with_reducible refine gate_dst (N := 13) rfl ?_); refine mp.lit ?hg (N := 13) ?hd (u := .slice A1 l1.length c1) (t := 22) ?hr ?_; (case hd => rfl); (case hg => rfl); (case hr => first | (go_simp; done) | (go_simp; rfl)); intro gm hg w103 hbox hb; have Lgm := aM hbox; clear hg; replace BK := bK BK hb; replace HB := bS (qB1 HB GE) hb; clear hb hbox; obtain ⟨hcz4_0, hcz4_1, hcz4_2, hcz4_3, hcz4_4, hcz4_5, hcz4_6, hcz4_7, hcz4_8, hcz4_9, hfz4_0, hfz4_1, hfz4_2, hfz4_3, hfz4_4, hfz4_5, hfz4_6, hfz4_7, hfz4_8, hfz4_9⟩ := blk10 BK.out) | ((with_reducible refine gate_callee (f := 5) rfl ?_); refine goesL_ (some 14) rfl rfl Try.func5 (by kernel_rfl) rfl #[.agg #[.int .i64 a0, .int .i64 a1, .int .i64 a2, .int .i64 a3, .int .i64 a4, .int .i64 a5, .int .i64 a6, .int .i64 a7, .bool a8, .slice A l.length c], .slice (some ⟨gm, 0, none⟩) 1 1] rfl pA ?_; (with_reducible refine (mp.many k a0 a1 a2 a3 a4 a5 a6 a7 a8 A c l A1 c1 l1 false _ gm ?s1 ?s2 ?s3 ?s4 ?s5 Am.out).mono ?_); (case s1 => exact sC HR HB); (case s2 => exact HC.out); (case s3 => exact Lgm.out); (case s4 => exact sC HR1 HB); (case s5 => exact HC1.out); rintro e w108 ⟨rfl, hb⟩; refine ⟨_, rfl, ?_⟩; replace BK := bK BK hb; replace HB := bS (qB1 HB GE) hb; clear hb; obtain ⟨hcz9_0, hcz9_1, hcz9_2, hcz9_3, hcz9_4, hcz9_5, hcz9_6, hcz9_7, hcz9_8, hcz9_9, hfz9_0, hfz9_1, hfz9_2, hfz9_3, hfz9_4, hfz9_5, hfz9_6, hfz9_7, hfz9_8, hfz9_9⟩ := blk10 BK.out) | ((with_reducible refine gate_dst (N := 19) rfl ?_); refine mp.lit ?hg (N := 19) ?hd (u := .slice A1 l1.length c1) (t := 22) ?hr ?_; (case hd => rfl); (case hg => rfl); (case hr => first | (go_simp; done) | (go_simp; rfl)); intro gd hg w110 hbox hb; have Lgd := aM hbox; clear hg; replace BK := bK BK hb; replace HB := bS (qB1 HB GE) hb; clear hb hbox; obtain ⟨hcz11_0, hcz11_1, hcz11_2, hcz11_3, hcz11_4, hcz11_5, hcz11_6, hcz11_7, hcz11_8, hcz11_9, hfz11_0, hfz11_1, hfz11_2, hfz11_3, hfz11_4, hfz11_5, hfz11_6, hfz11_7, hfz11_8, hfz11_9⟩ := blk10 BK.out) | ((with_reducible refine gate_callee (f := 7) rfl ?_); refine goesL_ (some 20) rfl rfl Try.func7 (by kernel_rfl) rfl #[.int .i64 39, .agg #[.int .i64 a0, .int .i64 a1, .int .i64 a2, .int .i64 a3, .int .i64 a4, .int .i64 a5, .int .i64 a6, .int .i64 a7, .bool a8, .slice A l.length c], .slice (some ⟨gd, 0, none⟩) 1 1] rfl pA ?_; (with_reducible refine (mp.of k a0 a1 a2 a3 a4 a5 a6 a7 a8 A c l A1 c1 l1 _ _ _ _ _ gd ?s1 ?s2 ?s3 ?s4 ?s5 Ao.out).mono ?_); (case s1 => exact sC HR HB); (case s2 => exact HC.out); (case s3 => exact Lgd.out); (case s4 => exact sC HR1 HB); (case s5 => exact HC1.out); rintro e_ w112 ⟨v0, v1, v2, rfl, ho0, ho1, ho2, hb⟩; refine ⟨_, rfl, ?_⟩; obtain ⟨Ao0, co0, eo0⟩ := Kd.R_slice ho0; subst eo0; obtain ⟨Ao1, co1, eo1⟩ := Kd.R_slice ho1; subst eo1; have HF := aM (Kd.R_lower ho2 (below_size (qB1 HB GE))); replace BK := bK BK hb; replace HB := bS (qB1 HB GE) hb; clear hb ho0 ho1 ho2; obtain ⟨Ao, co, eo⟩ := Kd.R_slice HF.out; subst eo; obtain ⟨hcz13_0, hcz13_1, hcz13_2, hcz13_3, hcz13_4, hcz13_5, hcz13_6, hcz13_7, hcz13_8, hcz13_9, hfz13_0, hfz13_1, hfz13_2, hfz13_3, hfz13_4, hfz13_5, hfz13_6, hfz13_7, hfz13_8, hfz13_9⟩ := blk10 BK.out) | ((with_reducible refine gate_dst (N := 7) rfl ?_); refine box_event ?hg (N := 7) ?hd (cs := #[.slice none 0 0, .slice none 0 0, .slice none 0 0]) (t := 29) ?hr ?_; (case hd => rfl); (case hg => rfl); (case hr => first | (go_simp; done) | (go_simp; rfl)); intro g2 hg w114 hbox hb; have BM := aM hbox; have GE2 := gE (w := w) hg (qB1 HB GE); replace HB := bS (qB1 HB GE) hb; have NL := nL hg BK; have NG := nG hg BK; replace BK := bK BK hb; replace HF := bR HF hb; clear hb hbox hg; have hnb2 := NG.out; have hnc2 := NL.out; obtain ⟨hcz15_0, hcz15_1, hcz15_2, hcz15_3, hcz15_4, hcz15_5, hcz15_6, hcz15_7, hcz15_8, hcz15_9, hfz15_0, hfz15_1, hfz15_2, hfz15_3, hfz15_4, hfz15_5, hfz15_6, hfz15_7, hfz15_8, hfz15_9⟩ := blk10 BK.out; obtain ⟨hcz16_0, hcz16_1, hcz16_2, hfz16_0, hfz16_1, hfz16_2⟩ := blk3 BM.out) | ((with_reducible refine gate_callee (f := 8) rfl ?_); refine goesL_ (some 27) rfl rfl Try.func8 (by kernel_rfl) rfl #[.agg #[.int .i64 a0, .int .i64 a1, .int .i64 a2, .int .i64 a3, .int .i64 a4, .int .i64 a5, .int .i64 a6, .int .i64 a7, .bool a8, .slice A l.length c], .slice A1 l1.length c1, .int .i64 nn] rfl pA ?_; (with_reducible refine (move_To.calls k a0 a1 a2 a3 a4 a5 a6 a7 a8 _ _ l (fun k_ => k_ < w.heap.size) _ _ l1 nn _ false _ ?s1 ?s2 ?s3 At.out).mono ?_); (case s1 => exact Kd.C_below HR.out (qB2 HB GE GE2)); (case s2 => exact HC.out); (case s3 => exact Kd.V_mk HC1.out (Kd.F_below (Kd.C_F (Kd.heap_int .i64) HR1.out) (qB2 HB GE GE2))); rintro e_ w120 ⟨rfl, hb⟩; refine ⟨_, rfl, ?_⟩; replace HF := aM (Kd.R_below (F3 (ok' := fun _ => True) HF BM (fun _ _ => trivial)) hb); replace BK := aM (blk_below (B3 NL BK.out) hb); replace BM := aM (blk_below (P3 BM) hb); replace HB := bS (qB2 HB GE GE2) hb; clear hb; obtain ⟨hcz21_0, hcz21_1, hcz21_2, hcz21_3, hcz21_4, hcz21_5, hcz21_6, hcz21_7, hcz21_8, hcz21_9, hfz21_0, hfz21_1, hfz21_2, hfz21_3, hfz21_4, hfz21_5, hfz21_6, hfz21_7, hfz21_8, hfz21_9⟩ := blk10 BK.out; obtain ⟨hcz22_0, hcz22_1, hcz22_2, hfz22_0, hfz22_1, hfz22_2⟩ := blk3 BM.out) | ((with_reducible refine gate_callee (f := 6) rfl ?_); refine goesL_ (some 61) rfl rfl Try.func6 (by kernel_rfl) rfl #[] rfl pA ?_; (with_reducible refine (gradinelaw29_same.calls true _ rfl).mono ?_); skip; rintro e w123 ⟨rfl, hb⟩; refine ⟨_, rfl, ?_⟩; replace BK := bK BK hb; replace HB := bS (qB1 HB GE) hb; clear hb))
      go_ret
      exact ⟨pE, HB.out⟩
    · rw [if_neg h2] at H
      split at H
      rotate_left
      · cases H
      rename_i h3
      clear H h1 h2
      obtain ⟨rfl, rfl, n0, n1⟩ := h3
      have d0 : decide (nn ≥ 0) = true := decide_eq_true n0
      have d0' : decide (0 ≤ nn) = true := decide_eq_true n0
      have d1 : decide (nn < (x.length : Int)) = false := decide_eq_false (by omega)
      go_enter Try.func3, Try.ntmps3
      go_wp2_with (first | ((with_reducible refine gate_dst (N := 3) rfl ?_); refine box_event ?hg (N := 3) ?hd (cs := #[.int .i64 a0, .int .i64 a1, .int .i64 a2, .int .i64 a3, .int .i64 a4, .int .i64 a5, .int .i64 a6, .int .i64 a7, .bool a8, .slice A l.length c]) (t := 24) ?hr ?_; (case hd => rfl); (case hg => rfl); (case hr => first | (go_simp; done) | (go_simp; rfl)); intro g hg w101 hbox hb; have BK := aM hbox; have GE := gE (w := w) hg (qB HB); replace HB := bS (qB HB) hb; clear hb hbox hg; obtain ⟨hcz2_0, hcz2_1, hcz2_2, hcz2_3, hcz2_4, hcz2_5, hcz2_6, hcz2_7, hcz2_8, hcz2_9, hfz2_0, hfz2_1, hfz2_2, hfz2_3, hfz2_4, hfz2_5, hfz2_6, hfz2_7, hfz2_8, hfz2_9⟩ := blk10 BK.out) | ((with_reducible refine gate_dst (N := 13) rfl ?_); refine mp.lit ?hg (N := 13) ?hd (u := .slice A1 l1.length c1) (t := 22) ?hr ?_; (case hd => rfl); (case hg => rfl); (case hr => first | (go_simp; done) | (go_simp; rfl)); intro gm hg w103 hbox hb; have Lgm := aM hbox; clear hg; replace BK := bK BK hb; replace HB := bS (qB1 HB GE) hb; clear hb hbox; obtain ⟨hcz4_0, hcz4_1, hcz4_2, hcz4_3, hcz4_4, hcz4_5, hcz4_6, hcz4_7, hcz4_8, hcz4_9, hfz4_0, hfz4_1, hfz4_2, hfz4_3, hfz4_4, hfz4_5, hfz4_6, hfz4_7, hfz4_8, hfz4_9⟩ := blk10 BK.out) | ((with_reducible refine gate_callee (f := 5) rfl ?_); refine goesL_ (some 14) rfl rfl Try.func5 (by kernel_rfl) rfl #[.agg #[.int .i64 a0, .int .i64 a1, .int .i64 a2, .int .i64 a3, .int .i64 a4, .int .i64 a5, .int .i64 a6, .int .i64 a7, .bool a8, .slice A l.length c], .slice (some ⟨gm, 0, none⟩) 1 1] rfl pA ?_; (with_reducible refine (mp.many k a0 a1 a2 a3 a4 a5 a6 a7 a8 A c l A1 c1 l1 false _ gm ?s1 ?s2 ?s3 ?s4 ?s5 Am.out).mono ?_); (case s1 => exact sC HR HB); (case s2 => exact HC.out); (case s3 => exact Lgm.out); (case s4 => exact sC HR1 HB); (case s5 => exact HC1.out); rintro e w108 ⟨rfl, hb⟩; refine ⟨_, rfl, ?_⟩; replace BK := bK BK hb; replace HB := bS (qB1 HB GE) hb; clear hb; obtain ⟨hcz9_0, hcz9_1, hcz9_2, hcz9_3, hcz9_4, hcz9_5, hcz9_6, hcz9_7, hcz9_8, hcz9_9, hfz9_0, hfz9_1, hfz9_2, hfz9_3, hfz9_4, hfz9_5, hfz9_6, hfz9_7, hfz9_8, hfz9_9⟩ := blk10 BK.out) | ((with_reducible refine gate_dst (N := 19) rfl ?_); refine mp.lit ?hg (N := 19) ?hd (u := .slice A1 l1.length c1) (t := 22) ?hr ?_; (case hd => rfl); (case hg => rfl); (case hr => first | (go_simp; done) | (go_simp; rfl)); intro gd hg w110 hbox hb; have Lgd := aM hbox; clear hg; replace BK := bK BK hb; replace HB := bS (qB1 HB GE) hb; clear hb hbox; obtain ⟨hcz11_0, hcz11_1, hcz11_2, hcz11_3, hcz11_4, hcz11_5, hcz11_6, hcz11_7, hcz11_8, hcz11_9, hfz11_0, hfz11_1, hfz11_2, hfz11_3, hfz11_4, hfz11_5, hfz11_6, hfz11_7, hfz11_8, hfz11_9⟩ := blk10 BK.out) | ((with_reducible refine gate_callee (f := 7) rfl ?_); refine goesL_ (some 20) rfl rfl Try.func7 (by kernel_rfl) rfl #[.int .i64 39, .agg #[.int .i64 a0, .int .i64 a1, .int .i64 a2, .int .i64 a3, .int .i64 a4, .int .i64 a5, .int .i64 a6, .int .i64 a7, .bool a8, .slice A l.length c], .slice (some ⟨gd, 0, none⟩) 1 1] rfl pA ?_; (with_reducible refine (mp.of k a0 a1 a2 a3 a4 a5 a6 a7 a8 A c l A1 c1 l1 _ _ _ _ _ gd ?s1 ?s2 ?s3 ?s4 ?s5 Ao.out).mono ?_); (case s1 => exact sC HR HB); (case s2 => exact HC.out); (case s3 => exact Lgd.out); (case s4 => exact sC HR1 HB); (case s5 => exact HC1.out); rintro e_ w112 ⟨v0, v1, v2, rfl, ho0, ho1, ho2, hb⟩; refine ⟨_, rfl, ?_⟩; obtain ⟨Ao0, co0, eo0⟩ := Kd.R_slice ho0; subst eo0; obtain ⟨Ao1, co1, eo1⟩ := Kd.R_slice ho1; subst eo1; have HF := aM (Kd.R_lower ho2 (below_size (qB1 HB GE))); replace BK := bK BK hb; replace HB := bS (qB1 HB GE) hb; clear hb ho0 ho1 ho2; obtain ⟨Ao, co, eo⟩ := Kd.R_slice HF.out; subst eo; obtain ⟨hcz13_0, hcz13_1, hcz13_2, hcz13_3, hcz13_4, hcz13_5, hcz13_6, hcz13_7, hcz13_8, hcz13_9, hfz13_0, hfz13_1, hfz13_2, hfz13_3, hfz13_4, hfz13_5, hfz13_6, hfz13_7, hfz13_8, hfz13_9⟩ := blk10 BK.out) | ((with_reducible refine gate_dst (N := 7) rfl ?_); refine box_event ?hg (N := 7) ?hd (cs := #[.slice none 0 0, .slice none 0 0, .slice none 0 0]) (t := 29) ?hr ?_; (case hd => rfl); (case hg => rfl); (case hr => first | (go_simp; done) | (go_simp; rfl)); intro g2 hg w114 hbox hb; have BM := aM hbox; have GE2 := gE (w := w) hg (qB1 HB GE); replace HB := bS (qB1 HB GE) hb; have NL := nL hg BK; have NG := nG hg BK; replace BK := bK BK hb; replace HF := bR HF hb; clear hb hbox hg; have hnb2 := NG.out; have hnc2 := NL.out; obtain ⟨hcz15_0, hcz15_1, hcz15_2, hcz15_3, hcz15_4, hcz15_5, hcz15_6, hcz15_7, hcz15_8, hcz15_9, hfz15_0, hfz15_1, hfz15_2, hfz15_3, hfz15_4, hfz15_5, hfz15_6, hfz15_7, hfz15_8, hfz15_9⟩ := blk10 BK.out; obtain ⟨hcz16_0, hcz16_1, hcz16_2, hfz16_0, hfz16_1, hfz16_2⟩ := blk3 BM.out) | ((with_reducible refine gate_callee (f := 8) rfl ?_); refine goesL_ (some 27) rfl rfl Try.func8 (by kernel_rfl) rfl #[.agg #[.int .i64 a0, .int .i64 a1, .int .i64 a2, .int .i64 a3, .int .i64 a4, .int .i64 a5, .int .i64 a6, .int .i64 a7, .bool a8, .slice A l.length c], .slice A1 l1.length c1, .int .i64 nn] rfl pA ?_; (with_reducible refine (move_To.calls k a0 a1 a2 a3 a4 a5 a6 a7 a8 _ _ l (fun k_ => k_ < w.heap.size) _ _ l1 nn _ false _ ?s1 ?s2 ?s3 At.out).mono ?_); (case s1 => exact Kd.C_below HR.out (qB2 HB GE GE2)); (case s2 => exact HC.out); (case s3 => exact Kd.V_mk HC1.out (Kd.F_below (Kd.C_F (Kd.heap_int .i64) HR1.out) (qB2 HB GE GE2))); rintro e_ w120 ⟨rfl, hb⟩; refine ⟨_, rfl, ?_⟩; replace HF := aM (Kd.R_below (F3 (ok' := fun _ => True) HF BM (fun _ _ => trivial)) hb); replace BK := aM (blk_below (B3 NL BK.out) hb); replace BM := aM (blk_below (P3 BM) hb); replace HB := bS (qB2 HB GE GE2) hb; clear hb; obtain ⟨hcz21_0, hcz21_1, hcz21_2, hcz21_3, hcz21_4, hcz21_5, hcz21_6, hcz21_7, hcz21_8, hcz21_9, hfz21_0, hfz21_1, hfz21_2, hfz21_3, hfz21_4, hfz21_5, hfz21_6, hfz21_7, hfz21_8, hfz21_9⟩ := blk10 BK.out; obtain ⟨hcz22_0, hcz22_1, hcz22_2, hfz22_0, hfz22_1, hfz22_2⟩ := blk3 BM.out) | ((with_reducible refine gate_callee (f := 6) rfl ?_); refine goesL_ (some 61) rfl rfl Try.func6 (by kernel_rfl) rfl #[] rfl pA ?_; (with_reducible refine (gradinelaw29_same.calls true _ rfl).mono ?_); skip; rintro e w123 ⟨rfl, hb⟩; refine ⟨_, rfl, ?_⟩; replace BK := bK BK hb; replace HB := bS (qB1 HB GE) hb; clear hb))
      go_ret
      exact ⟨pE, HB.out⟩
end Go.Proofs.Yticcamciaohepaa.Q
namespace Go.Proofs.Yticcamciaohepaa.Pure
open Go.RowKit Go.Proofs.Yticcamciaohepaa.Q Go.Proofs.Yticcamciaohepaa.S Go.Proofs.YticcamciaohepaaW.PrintWords Go.Proofs.YticcamciaohepaaW.PrintLast
set_option linter.unusedVariables false
set_option linter.unusedSimpArgs false

def ofp (d : List Int) (n a : Int) (l : List Int) : List Int × List Int × List Int × Int := if Gr.chk d = 0 then Gr.putv d n a l else ([], [], [], Gr.chk d)
theorem of39 (n a a2 a3 a4 a5 a6 a7 : Int) (a8 : Bool) (l d : List Int) (hn : l.length ≤ 1000000000) : Ev (fun k => gradineref29_Of.f k 39 n a a2 a3 a4 a5 a6 a7 a8 l [d]) (ofp d n a l) := by
  have e0 : rd_L1 [d] 0 = d := rfl
  refine Ev.congr (f := fun k => gradineref29_Of.j0 k 39 [d] false n a a2 a3 a4 a5 a6 a7 a8 l) (fun k => by rw [gradineref29_Of.f, if_neg (by omega)]; rfl) ?_
  refine Ev.step (f := fun k => gradineref29_Of.j1 k 39 [d] false n a a2 a3 a4 a5 a6 a7 a8 l) (fun k => by rw [gradineref29_Of.j0, if_neg (by simp), if_neg (by omega)]; rfl) ?_
  refine Ev.step (f := fun k => gradineref29_Of.l0 k 39 [d] (1 : Int) (0 : Int) n a a2 a3 a4 a5 a6 a7 a8 l) (fun k => by rw [gradineref29_Of.j1, if_neg (by simp)]; rfl) ?_
  unfold ofp
  by_cases h : Gr.chk d = 0
  · rw [if_pos h]
    refine Ev.step (fun k => by rw [gradineref29_Of.l0, if_pos (by omega), if_pos (by omega), if_pos (by simp), e0]) (Ev.bind (ref_check d) ?_)
    refine Ev.congr (f := fun k => gradineref29_Of.l0 k 39 [d] (1 : Int) (1 : Int) n a a2 a3 a4 a5 a6 a7 a8 l) (fun k => by rw [if_pos h, show wrap64 (0 + 1) = 1 by simp [wrap64]]) ?_
    refine Ev.step (fun k => by rw [gradineref29_Of.l0, if_neg (by omega), if_pos rfl, if_pos (by simp), e0]) (Ev.bind (rput d n a a2 a3 a4 a5 a6 a7 a8 l h hn) (Ev.now _))
  · rw [if_neg h]
    refine Ev.step (fun k => by rw [gradineref29_Of.l0, if_pos (by omega), if_pos (by omega), if_pos (by simp), e0]) (Ev.bind (ref_check d) ?_)
    exact Ev.congr (fun k => by rw [if_neg h]) (Ev.now _)
theorem puts_one (n a : Int) (l d : List Int) (i : Int) :
    ((mto d n a l i).2 = true ∧ 0 ≤ i ∧ i < ((ofp d n a l).2.2.1.length : Int) ∧ (mto d n a l i).1 = rd (ofp d n a l).2.2.1 i) ∨ ((mto d n a l i).2 = false ∧ (mto d n a l i).1 = 0 ∧ (i < 0 ∨ ((ofp d n a l).2.2.1.length : Int) ≤ i)) := by
  by_cases h : (pdims d n a l).2 = 0
  · have hc : Gr.chk d = 0 := by
      by_cases c : Gr.chk d = 0
      · exact c
      · unfold pdims at h; rw [if_neg c] at h; exact h
    have e3 : pdims d n a l = Gr.putd d n a l := by unfold pdims; rw [if_pos hc]
    have h3 : (Gr.putd d n a l).2 = 0 := by rwa [e3] at h
    have eo : (ofp d n a l).2.2.1 = (Gr.alls d).map (fun p => Gr.plr (Gr.putd d n a l).1 (Gr.mvp n l p)) := by unfold ofp Gr.putv; rw [if_pos hc, if_pos h3]
    have el : (((ofp d n a l).2.2.1.length : Nat) : Int) = Gr.cnt d := by rw [eo, List.length_map, Gr.alls_length]
    by_cases h2 : (Gr.att d i).2 = true
    · obtain ⟨b0, b1, _, e, hp⟩ := att_ok h2
      obtain ⟨w1, w2, w3, w4, w5, w6, w7⟩ := Gr.putd_ok h3
      have h5 := (Gr.put_in h3 hp).2
      have hind : Gr.ind (Gr.putd d n a l).1 (Gr.mvp n l (Gr.dig d i)) = true := by rw [w7]; unfold Gr.ind; rw [decide_eq_true w4, h5]; rfl
      have em : mto d n a l i = (Gr.num (Gr.putd d n a l).1 (Gr.mvp n l (Gr.dig d i)), true) := by
        unfold mto; rw [if_pos ⟨h, h2⟩, e3, e]; unfold Gr.plc; rw [if_pos hind]
      refine .inl ⟨by rw [em], b0, by rw [el]; exact b1, ?_⟩
      rw [em]
      obtain ⟨j, rfl⟩ := Int.eq_ofNat_of_zero_le b0
      have hj : j < (Gr.alls d).length := by have := Gr.alls_length d; omega
      have hj2 : j < (ofp d n a l).2.2.1.length := by omega
      rw [← at0_rd, Gr.at0_g29 _ j hj2]
      simp only [eo, List.getElem_map, Gr.alls_get]
      unfold Gr.plr
      rw [if_pos hind]
    · refine .inr ?_
      have em : mto d n a l i = (0, false) := by unfold mto; rw [if_neg (fun c => h2 c.2)]
      refine ⟨by rw [em], by rw [em], ?_⟩
      rw [el]
      unfold Gr.att at h2
      by_cases h0 : 0 ≤ i ∧ i < Gr.cnt d
      · rw [if_pos h0] at h2; exact absurd rfl h2
      · omega
  · refine .inr ?_
    have em : mto d n a l i = (0, false) := by unfold mto; rw [if_neg (fun c => h c.1)]
    have eo : (ofp d n a l).2.2.1 = [] := by
      unfold pdims at h; unfold ofp Gr.putv
      by_cases c : Gr.chk d = 0
      · rw [if_pos c] at h ⊢; rw [if_neg h]
      · rw [if_neg c]
    refine ⟨by rw [em], by rw [em], ?_⟩
    rw [eo]
    simp
    omega
theorem MovePuts (n a a2 a3 a4 a5 a6 a7 : Int) (a8 : Bool) (l d : List Int) (i : Int) : Ev (fun k => mp.f k n a a2 a3 a4 a5 a6 a7 a8 l d i) true := by
  refine Ev.congr (fun k => by rw [mp.f]) (Ev.bind (many29 n a a2 a3 a4 a5 a6 a7 a8 l d) ?_)
  by_cases hm : (decide (d.length > 20) || decide (l.length > 80)) = true
  · exact Ev.congr (fun k => by rw [if_pos hm]) (Ev.now _)
  · have hl : l.length ≤ 80 := by simp at hm; omega
    refine Ev.congr (fun k => by rw [if_neg hm]) (Ev.bind (of39 n a a2 a3 a4 a5 a6 a7 a8 l d (by omega)) (Ev.bind (move_to n a a2 a3 a4 a5 a6 a7 a8 l d i (by omega)) ?_))
    rcases puts_one n a l d i with h | ⟨h1, h2, h3⟩
    · exact Ev.congr (fun k => by rw [if_pos h]) (Ev.now _)
    · refine Ev.congr (fun k => ?_) (Ev.now _)
      rw [if_neg (by rw [h1]; simp)]
      by_cases h0 : i < 0
      · rw [if_pos ⟨h1, h2, h0⟩]
      · rw [if_neg (fun c => h0 c.2.2), if_pos ⟨h1, h2, by omega, by omega⟩]
theorem MovePuts_walk (w : World) (a0 : Int) (_ : (Lit.int .i64 a0).wf = true) (a1 : Int) (_ : (Lit.int .i64 a1).wf = true) (a2 : Int) (_ : (Lit.int .i64 a2).wf = true) (a3 : Int) (_ : (Lit.int .i64 a3).wf = true) (a4 : Int) (_ : (Lit.int .i64 a4).wf = true) (a5 : Int) (_ : (Lit.int .i64 a5).wf = true) (a6 : Int) (_ : (Lit.int .i64 a6).wf = true) (a7 : Int) (_ : (Lit.int .i64 a7).wf = true) (a8 : Bool)
    (A : Option Addr) (c : Nat) (l : List Int) (hr : Kd.C (Kd.int .i64) w A l.length l) (hc : l.length ≤ c) (_ : ∀ x ∈ l, (Lit.int .i64 x).wf = true)
    (A1 : Option Addr) (c1 : Nat) (d : List Int) (hr1 : Kd.C (Kd.int .i64) w A1 d.length d) (hc1 : d.length ≤ c1) (_ : ∀ x ∈ d, (Lit.int .i64 x).wf = true) (n : Int) (_ : (Lit.int .i64 n).wf = true) :
    Calls Try.prog 3 #[.agg #[.int .i64 a0, .int .i64 a1, .int .i64 a2, .int .i64 a3, .int .i64 a4, .int .i64 a5, .int .i64 a6, .int .i64 a7, .bool a8, .slice A l.length c], .slice A1 d.length c1, .int .i64 n] w fun e w' => e = .returned (.bool true) ∧ Below w.heap.size w w' := by
  obtain ⟨k, h⟩ := (MovePuts a0 a1 a2 a3 a4 a5 a6 a7 a8 l d n).rounds
  exact mp.calls k a0 a1 a2 a3 a4 a5 a6 a7 a8 A c l A1 c1 d n w hr hc hr1 hc1 h
end Go.Proofs.Yticcamciaohepaa.Pure
