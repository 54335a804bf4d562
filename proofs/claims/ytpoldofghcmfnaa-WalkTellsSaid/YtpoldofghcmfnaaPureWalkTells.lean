/- The law WalkTells, on lists and numbers: At, Place, Next and All return the places that the reference lists. -/
import Derived.Test.YtpoldofghcmfnaaQx0
import Derived.Test.YtpoldofghcmfnaaQxfLaw19Many
import Derived.Test.YtpoldofghcmfnaaQxfLaw20Same
import Derived.Test.YtpoldofghcmfnaaQxfLaw20WalkTells
import Derived.Test.YtpoldofghcmfnaaQxfPlainInts
import Derived.Test.YtpoldofghcmfnaaQxfRef19Check
import Derived.Test.YtpoldofghcmfnaaQxfRef19Same
import Derived.Test.YtpoldofghcmfnaaQxfRef20All
import Derived.Test.YtpoldofghcmfnaaQxfRef20Place
import Derived.Test.YtpoldofghcmfnaaQxfShapeAxes
import Derived.Test.YtpoldofghcmfnaaQxfShapeCheck
import Derived.Test.YtpoldofghcmfnaaQxfShapeCount
import Derived.Test.YtpoldofghcmfnaaQxfShapeDrop
import Derived.Test.YtpoldofghcmfnaaQxfWalkAll
import Derived.Test.YtpoldofghcmfnaaQxfWalkAt
import Derived.Test.YtpoldofghcmfnaaQxfWalkIn
import Derived.Test.YtpoldofghcmfnaaQxfWalkNext
import Derived.Test.YtpoldofghcmfnaaQxfWalkPlace
import Derived.Test.YtpoldofghcmfnaaMath
namespace Gr
/-- How many elements dims have; 0, if they may not be. -/
def cnt (d : List Int) : Int := if chk d = 0 then prod d else 0
/-- Are axes such as may be, those of 'seen' being taken? -/
def axv (rank : Int) : List Int → List Int → Bool
  | _, [] => true
  | seen, a :: l => decide (0 ≤ a) && decide (a < rank) && !(seen.contains a) && axv rank (seen ++ [a]) l
def marks (rank : Nat) (l : List Int) : List Bool := (List.range rank).map fun i : Nat => l.contains (i : Int)
def mks (rank : Nat) (l : List Int) : List Bool := (List.range rank).map fun i : Nat => l.isEmpty || l.contains (i : Int)
def axs (rank : Int) (l : List Int) : List Bool × Int :=
  if rank < 0 ∨ 6 < rank then ([], 9) else if axv rank [] l = true then (mks rank.toNat l, 0) else ([], 10)
def drp (keep : Bool) : List Bool → List Int → List Int
  | m :: ms, x :: xs => if m = true then (if keep = true then 1 :: drp keep ms xs else drp keep ms xs) else x :: drp keep ms xs
  | _, _ => []
def drop (d axes : List Int) (keep : Bool) : List Int × Int :=
  if chk d = 0 then (if (axs d.length axes).2 = 0 then (drp keep (axs d.length axes).1 d, 0) else ([], (axs d.length axes).2)) else ([], chk d)
theorem chk_ok {d : List Int} (h : chk d = 0) : d.length ≤ 6 ∧ (∀ x ∈ d, 1 ≤ x) ∧ prod d ≤ 64 := by
  unfold chk at h
  split at h
  · omega
  · rename_i h6
    split at h
    · omega
    · rename_i h1
      split at h
      · omega
      · rename_i h2
        refine ⟨by omega, fun x hx => ?_, by omega⟩
        rw [Bool.not_eq_true, List.any_eq_false] at h1
        have := h1 x hx
        simp at this
        omega
theorem ok_chk {d : List Int} (h6 : d.length ≤ 6) (h1 : ∀ x ∈ d, 1 ≤ x) (h2 : prod d ≤ 64) : chk d = 0 := by
  unfold chk
  rw [if_neg (by omega), if_neg, if_neg (by omega)]
  rw [Bool.not_eq_true, List.any_eq_false]
  intro x hx
  have := h1 x hx
  simp
  omega
theorem ok_le {d : List Int} (h : chk d = 0) : ∀ x ∈ d, x ≤ 64 := by
  obtain ⟨_, h1, h2⟩ := chk_ok h
  intro x hx
  obtain ⟨a, b, rfl⟩ := List.append_of_mem hx
  rw [prod_append] at h2
  simp only [prod] at h2
  have ha := prod_pos a (fun y hy => h1 y (by simp [hy]))
  have hb := prod_pos b (fun y hy => h1 y (by simp [hy]))
  have hx1 := h1 x (by simp)
  have h3 : 1 * (x * prod b) ≤ prod a * (x * prod b) := Int.mul_le_mul_of_nonneg_right ha (Int.mul_nonneg (by omega) (by omega))
  have h4 : x * 1 ≤ x * prod b := Int.mul_le_mul_of_nonneg_left hb (by omega)
  omega
theorem ok_take {d : List Int} (h : chk d = 0) (i : Nat) : chk (d.take i) = 0 := by
  obtain ⟨h6, h1, h2⟩ := chk_ok h
  have := prod_take_le d h1 i
  exact ok_chk (by simp; omega) (fun x hx => h1 x (List.mem_of_mem_take hx)) (by omega)
theorem cnt_ok {d : List Int} (h : chk d = 0) : cnt d = prod d ∧ 1 ≤ cnt d ∧ cnt d ≤ 64 := by
  obtain ⟨h6, h1, h2⟩ := chk_ok h
  have := prod_pos d h1
  unfold cnt
  rw [if_pos h]
  exact ⟨rfl, this, h2⟩
/-- The place of the n-th element. -/
def dig : List Int → Int → List Int
  | [], _ => []
  | x :: l, n => n / prod l % x :: dig l n
/-- The number of a place. -/
def num : List Int → List Int → Int
  | _ :: d, a :: r => a * prod d + num d r
  | _, _ => 0
/-- Is it a place of these dims? -/
def inb : List Int → List Int → Bool
  | [], [] => true
  | x :: d, a :: r => decide (0 ≤ a) && decide (a < x) && inb d r
  | _, _ => false
def ind (d at_ : List Int) : Bool := decide (chk d = 0) && inb d at_
def att (d : List Int) (n : Int) : List Int × Bool := if 0 ≤ n ∧ n < cnt d then (dig d n, true) else ([], false)
def plc (d at_ : List Int) : Int × Bool := if ind d at_ = true then (num d at_, true) else (0, false)
def alls (d : List Int) : List (List Int) := if chk d = 0 then (List.range (prod d).toNat).map fun n : Nat => dig d (n : Int) else []
theorem dig_length (d : List Int) (n : Int) : (dig d n).length = d.length := by
  induction d with
  | nil => rfl
  | cons x d ih => simp [dig, ih]
theorem num_dig (d : List Int) (h : ∀ x ∈ d, 1 ≤ x) (n : Int) : num d (dig d n) = n % prod d := by
  induction d with
  | nil => simp [num, prod, Int.emod_one]
  | cons x d ih =>
    have hx := h x (by simp)
    have hp := prod_pos d (fun y hy => h y (by simp [hy]))
    simp only [num, dig, prod]
    rw [ih (fun y hy => h y (by simp [hy]))]
    have e1 : x * prod d = prod d * x := Int.mul_comm ..
    have h1 := Int.emod_add_mul_ediv n (prod d)
    have h2 := Int.emod_add_mul_ediv (n / prod d) x
    have h3 : n = (n / prod d % x * prod d + n % prod d) + (x * prod d) * (n / prod d / x) := by
      have : prod d * (n / prod d) = prod d * (n / prod d % x) + prod d * (x * (n / prod d / x)) := by rw [← Int.mul_add, h2]
      rw [show (x * prod d) * (n / prod d / x) = prod d * (x * (n / prod d / x)) by rw [e1, Int.mul_assoc], Int.mul_comm (n / prod d % x)]
      omega
    have b1 := Int.emod_nonneg (n / prod d) (show x ≠ 0 by omega)
    have b2 := Int.emod_lt_of_pos (n / prod d) (show 0 < x by omega)
    have b3 := Int.emod_nonneg n (show prod d ≠ 0 by omega)
    have b4 := Int.emod_lt_of_pos n (show 0 < prod d by omega)
    have b5 : 0 ≤ n / prod d % x * prod d := Int.mul_nonneg b1 (by omega)
    have b6 : (n / prod d % x + 1) * prod d ≤ x * prod d := Int.mul_le_mul_of_nonneg_right (by omega) (by omega)
    rw [Int.add_mul] at b6
    have h4 := Int.add_mul_emod_self_left (n / prod d % x * prod d + n % prod d) (x * prod d) (n / prod d / x)
    rw [← h3] at h4
    rw [h4]
    exact (Int.emod_eq_of_lt (by omega) (by omega)).symm
theorem num_dig_lt (d : List Int) (h : ∀ x ∈ d, 1 ≤ x) (n : Int) (h0 : 0 ≤ n) (h1 : n < prod d) : num d (dig d n) = n := by
  rw [num_dig d h n, Int.emod_eq_of_lt h0 h1]
theorem inb_dig (d : List Int) (h : ∀ x ∈ d, 1 ≤ x) (n : Int) : inb d (dig d n) = true := by
  induction d with
  | nil => rfl
  | cons x d ih =>
    have hx := h x (by simp)
    simp only [inb, dig]
    rw [ih (fun y hy => h y (by simp [hy]))]
    have b1 := Int.emod_nonneg (n / prod d) (show x ≠ 0 by omega)
    have b2 := Int.emod_lt_of_pos (n / prod d) (show 0 < x by omega)
    simp [b1, b2]
theorem inb_length {d r : List Int} (h : inb d r = true) : r.length = d.length := by
  induction d generalizing r with
  | nil => cases r <;> simp_all [inb]
  | cons x d ih =>
    cases r with
    | nil => simp [inb] at h
    | cons a r =>
      simp only [inb, Bool.and_eq_true] at h
      simp [ih h.2]
theorem num_lt (d r : List Int) (h : ∀ x ∈ d, 1 ≤ x) (hi : inb d r = true) : 0 ≤ num d r ∧ num d r < prod d := by
  induction d generalizing r with
  | nil => cases r <;> simp [num, prod]
  | cons x d ih =>
    cases r with
    | nil => simp [inb] at hi
    | cons a r =>
      simp only [inb, Bool.and_eq_true, decide_eq_true_eq] at hi
      obtain ⟨i1, i2⟩ := ih r (fun y hy => h y (by simp [hy])) hi.2
      have hp := prod_pos d (fun y hy => h y (by simp [hy]))
      simp only [num, prod]
      have b5 : 0 ≤ a * prod d := Int.mul_nonneg hi.1.1 (by omega)
      have b6 : (a + 1) * prod d ≤ x * prod d := Int.mul_le_mul_of_nonneg_right (by omega) (by omega)
      rw [Int.add_mul] at b6
      omega
theorem dig_add (d : List Int) (h : ∀ x ∈ d, 1 ≤ x) (a m : Int) : dig d (a * prod d + m) = dig d m := by
  induction d generalizing a with
  | nil => rfl
  | cons y d ih =>
    have hy := h y (by simp)
    have hp := prod_pos d (fun z hz => h z (by simp [hz]))
    simp only [dig, prod]
    rw [show a * (y * prod d) = (a * y) * prod d by rw [Int.mul_assoc]]
    rw [ih (fun z hz => h z (by simp [hz])) (a * y)]
    rw [Int.add_comm ((a * y) * prod d) m, Int.add_mul_ediv_right _ _ (by omega), Int.mul_comm a y, Int.add_mul_emod_self_left]
theorem dig_num (d r : List Int) (h : ∀ x ∈ d, 1 ≤ x) (hi : inb d r = true) : dig d (num d r) = r := by
  induction d generalizing r with
  | nil => cases r <;> simp_all [inb, dig]
  | cons x d ih =>
    cases r with
    | nil => simp [inb] at hi
    | cons a r =>
      simp only [inb, Bool.and_eq_true, decide_eq_true_eq] at hi
      have hd : ∀ y ∈ d, 1 ≤ y := fun y hy => h y (by simp [hy])
      obtain ⟨i1, i2⟩ := num_lt d r hd hi.2
      have hp := prod_pos d hd
      simp only [num, dig]
      rw [dig_add d hd, ih r hd hi.2]
      rw [Int.add_comm, Int.add_mul_ediv_right _ _ (by omega), Int.ediv_eq_zero_of_lt i1 i2, Int.zero_add, Int.emod_eq_of_lt hi.1.1 hi.1.2]
theorem dig_snoc (p : List Int) (x : Int) (h : ∀ y ∈ p, 1 ≤ y) (hx : 1 ≤ x) (m : Int) : dig (p ++ [x]) m = dig p (m / x) ++ [m % x] := by
  induction p with
  | nil => simp [dig, prod]
  | cons y p ih =>
    simp only [List.cons_append, dig]
    rw [ih (fun z hz => h z (by simp [hz])), prod_append]
    simp only [prod, Int.mul_one]
    rw [Int.mul_comm (prod p) x, Int.ediv_ediv, if_neg (by omega), Int.sub_zero]
theorem range_mul {α : Type} (f : Nat → α) (P X : Nat) : (List.range (P * X)).map f = (List.range P).flatMap fun n => (List.range X).map fun v => f (n * X + v) := by
  induction P with
  | zero => simp
  | succ P ih =>
    rw [List.range_succ, List.flatMap_append, ← ih, Nat.succ_mul, List.range_add, List.map_append, List.map_map]
    simp only [List.flatMap_cons, List.flatMap_nil, List.append_nil]
    rfl
/-- All places of a prefix. -/
def pre (p : List Int) : List (List Int) := (List.range (prod p).toNat).map fun n : Nat => dig p (n : Int)
theorem pre_nil : pre [] = [[]] := by decide
theorem pre_snoc (p : List Int) (x : Int) (h : ∀ y ∈ p, 1 ≤ y) (hx : 1 ≤ x) : pre (p ++ [x]) = (pre p).flatMap fun q => (List.range x.toNat).map fun v : Nat => q ++ [(v : Int)] := by
  have hp := prod_pos p h
  unfold pre
  rw [prod_append]
  simp only [prod, Int.mul_one]
  rw [Int.toNat_mul (by omega) (by omega), range_mul, List.flatMap_map]
  congr 1
  funext n
  apply List.map_congr_left
  intro v hv
  rw [List.mem_range] at hv
  rw [dig_snoc p x h hx]
  have e : ((n * x.toNat + v : Nat) : Int) = (v : Int) + (n : Int) * x := by
    rw [Int.natCast_add, Int.natCast_mul, Int.toNat_of_nonneg (by omega)]; omega
  rw [e, Int.add_mul_ediv_right _ _ (by omega), Int.ediv_eq_zero_of_lt (by omega) (by omega), Int.zero_add, Int.add_mul_emod_self_right, Int.emod_eq_of_lt (by omega) (by omega)]
theorem pre_length (p : List Int) : (pre p).length = (prod p).toNat := by simp [pre]
theorem alls_ok {d : List Int} (h : chk d = 0) : alls d = pre d := by unfold alls; rw [if_pos h]; rfl
theorem alls_length (d : List Int) : ((alls d).length : Int) = cnt d := by
  unfold alls cnt
  split
  · rename_i h
    have := prod_pos d (chk_ok h).2.1
    simp; omega
  · rfl
theorem pre_get (d : List Int) (n : Nat) (h : n < (pre d).length) : (pre d)[n] = dig d (n : Int) := by simp [pre]
theorem alls_get (d : List Int) (n : Nat) (h : n < (alls d).length) : (alls d)[n] = dig d (n : Int) := by
  unfold alls at h ⊢
  split
  · simp
  · rename_i hc; rw [if_neg hc] at h; simp at h
def nxt (d r : List Int) : List Int × Bool := if ind d r = true ∧ num d r + 1 < cnt d then (dig d (num d r + 1), true) else ([], false)
def plr (d r : List Int) : Int := if ind d r = true then num d r else -1
theorem num_split (d r y : List Int) (hr : r.length = d.length) (hy : y.length = d.length) (i : Nat) (h : y.take i = r.take i) : num d y - num (d.drop i) (y.drop i) = num d r - num (d.drop i) (r.drop i) := by
  induction i generalizing d r y with
  | zero => simp
  | succ i ih =>
    cases d with
    | nil => simp [num]
    | cons x d =>
      cases r with
      | nil => simp at hr
      | cons a r =>
        cases y with
        | nil => simp at hy
        | cons b y =>
          simp only [List.take_succ_cons, List.cons.injEq] at h
          have := ih d r y (by simpa using hr) (by simpa using hy) h.2
          simp only [List.drop_succ_cons, num, h.1]
          omega
theorem inb_split (d r y : List Int) (hr : inb d r = true) (hy : y.length = d.length) (i : Nat) (h : y.take i = r.take i) (hd : inb (d.drop i) (y.drop i) = true) : inb d y = true := by
  induction i generalizing d r y with
  | zero => simpa using hd
  | succ i ih =>
    cases d with
    | nil => cases y <;> simp_all [inb]
    | cons x d =>
      cases r with
      | nil => simp [inb] at hr
      | cons a r =>
        cases y with
        | nil => simp at hy
        | cons b y =>
          simp only [List.take_succ_cons, List.cons.injEq] at h
          simp only [inb, Bool.and_eq_true, decide_eq_true_eq] at hr
          have := ih d r y hr.2 (by simpa using hy) h.2 (by simpa using hd)
          simp [inb, this, h.1, hr.1]
theorem inb_drop (d r : List Int) (h : inb d r = true) (i : Nat) : inb (d.drop i) (r.drop i) = true := by
  induction i generalizing d r with
  | zero => simpa using h
  | succ i ih =>
    cases d with
    | nil => cases r <;> simp_all [inb]
    | cons x d =>
      cases r with
      | nil => simp [inb] at h
      | cons a r =>
        simp only [inb, Bool.and_eq_true] at h
        simpa using ih d r h.2
end Gr
namespace Go.Proofs.Ytpoldofghcmfnaa.S
open Go.RowKit Go.Proofs.Ytpoldofghcmfnaa.Q Go.Proofs.YtpoldofghcmfnaaW.PrintWords Go.Proofs.YtpoldofghcmfnaaW.PrintLast Go.Proofs.YtpoldofghcmfnaaW.PrintMore
set_option linter.unusedVariables false
set_option linter.unusedSimpArgs false
theorem w64 {x : Int} (h0 : -9223372036854775808 ≤ x) (h1 : x ≤ 9223372036854775807) : wrap64 x = x := by
  unfold wrap64; omega
theorem down (P : Nat → Prop) (n : Nat) (h0 : P n) (hs : ∀ i, i < n → P (i + 1) → P i) : ∀ i, i ≤ n → P i := by
  intro i hi
  obtain ⟨d, rfl⟩ : ∃ d, n = i + d := ⟨n - i, by omega⟩
  clear hi
  induction d generalizing i with
  | zero => exact h0
  | succ d ih =>
    apply hs i (by omega)
    exact ih (i + 1) (by rw [show i + 1 + d = i + (d + 1) by omega]; exact h0) (fun j hj hp => hs j (by omega) hp)
theorem rdg (l : List Int) (i : Nat) (h : i < l.length) : rd l (i : Int) = l[i] := by
  simp [rd, List.getD_eq_getElem?_getD, List.getElem?_eq_getElem h]
theorem rdb (l : List Bool) (i : Nat) (h : i < l.length) : rdOf false l (i : Int) = l[i] := by
  simp [rdOf, List.getD_eq_getElem?_getD, List.getElem?_eq_getElem h]
theorem dropc (l : List Int) (i : Nat) (h : i < l.length) : l.drop i = rd l (i : Int) :: l.drop (i + 1) := by
  rw [rdg l i h]; exact (List.drop_eq_getElem_cons h)
theorem nx (i n : Nat) (h : i < n) (hn : n ≤ 1000000000) : wrap64 ((i : Int) + 1) = ((i + 1 : Nat) : Int) := by
  rw [w64 (by omega) (by omega)]; omega
theorem ints_l (a b : List Int) (hl : a.length = b.length) (hn : a.length ≤ 1000000000) : ∀ i, i ≤ a.length →
    Ev (fun k => gradineplain_Ints.l0 k a b (a.length : Int) (i : Int)) (decide (a.drop i = b.drop i)) := by
  apply down
  · refine Ev.step (f := fun _ => some true) (fun k => ?_) ?_
    · rw [gradineplain_Ints.l0, if_neg (by omega)]
    · rw [List.drop_length, hl, List.drop_length]; exact Ev.now true
  · intro i hi ih
    rw [dropc a i hi, dropc b i (by omega)]
    by_cases e : rd a (i : Int) = rd b (i : Int)
    · rw [show decide (rd a (i : Int) :: a.drop (i + 1) = rd b (i : Int) :: b.drop (i + 1)) = decide (a.drop (i + 1) = b.drop (i + 1)) by simp [e]]
      refine Ev.step (fun k => ?_) ih
      rw [gradineplain_Ints.l0, if_pos (by omega), if_pos (by omega), if_pos (by omega), if_pos (by omega), if_pos e, nx i _ hi hn]
    · rw [show decide (rd a (i : Int) :: a.drop (i + 1) = rd b (i : Int) :: b.drop (i + 1)) = false by simp [e]]
      refine Ev.step (fun k => ?_) (Ev.now false)
      rw [gradineplain_Ints.l0, if_pos (by omega), if_pos (by omega), if_pos (by omega), if_pos (by omega), if_neg e]
theorem ints (a b : List Int) (hn : a.length ≤ 1000000000) : Ev (fun k => gradineplain_Ints.f k a b) (decide (a = b)) := by
  by_cases hl : a.length = b.length
  · refine Ev.congr (fun k => ?_) (by have := ints_l a b hl hn 0 (by omega); simpa using this)
    rw [gradineplain_Ints.f, if_pos (by omega)]
  · rw [show decide (a = b) = false from decide_eq_false (fun e => hl (by rw [e]))]
    refine Ev.congr (fun k => ?_) (Ev.now false)
    rw [gradineplain_Ints.f, if_neg (by omega)]
theorem ints_eq {a b : List Int} (h : a = b) (hn : a.length ≤ 1000000000) : Ev (fun k => gradineplain_Ints.f k a b) true := by
  have := ints a b hn
  rwa [show decide (a = b) = true by simp [h]] at this
theorem shape_check (d : List Int) : shape_Check.f d = some (Gr.chk d) := rfl
theorem check_1 (d : List Int) (hok : ∀ x ∈ d, 1 ≤ x) (hn : d.length ≤ 6) : ∀ i, i ≤ d.length → Gr.prod (d.take i) ≤ 64 →
    Ev (fun k => gradineref19_Check.l1 k d (Gr.prod (d.take i)) (d.length : Int) (i : Int)) (if 64 < Gr.prod d then 12 else 0) := by
  apply down
  · intro h
    rw [List.take_length] at h ⊢
    rw [if_neg (by omega)]
    refine Ev.step (fun k => ?_) (Ev.now 0)
    rw [gradineref19_Check.l1, if_neg (by omega)]
  · intro i hi ih h
    have hp := Gr.prod_pos (d.take i) (fun x hx => hok x (List.mem_of_mem_take hx))
    have hs := Gr.prod_take_succ d i hi
    have h1 : 1 ≤ d[i] := hok _ (List.getElem_mem hi)
    have hle := Gr.prod_take_le d hok (i + 1)
    have hge : d[i] ≤ Gr.prod (d.take i) * d[i] := by
      have : 1 * d[i] ≤ Gr.prod (d.take i) * d[i] := Int.mul_le_mul_of_nonneg_right hp (by omega)
      omega
    by_cases e : 64 < d[i]
    · rw [if_pos (by omega)]
      refine Ev.step (fun k => ?_) (Ev.now 12)
      rw [gradineref19_Check.l1, if_pos (by omega), if_pos (by omega), if_pos (by omega), rdg d i hi, if_pos (by omega)]
    · have hb : Gr.prod (d.take i) * d[i] ≤ 64 * 64 := Int.mul_le_mul h (by omega) (by omega) (by omega)
      by_cases e2 : 64 < Gr.prod (d.take i) * d[i]
      · rw [if_pos (by omega)]
        refine Ev.step (fun k => ?_) (Ev.now 12)
        rw [gradineref19_Check.l1, if_pos (by omega), if_pos (by omega), if_pos (by omega), rdg d i hi, if_neg (by omega), w64 (by omega) (by omega), if_pos (by omega)]
      · refine Ev.step (fun k => ?_) (ih (by omega))
        rw [gradineref19_Check.l1, if_pos (by omega), if_pos (by omega), if_pos (by omega), rdg d i hi, if_neg (by omega), w64 (by omega) (by omega), if_neg (by omega), nx i _ hi (by omega), ← hs]
theorem check_0 (d : List Int) (hn : d.length ≤ 6) : ∀ i, i ≤ d.length → (∀ x ∈ d.take i, 1 ≤ x) →
    Ev (fun k => gradineref19_Check.l0 k d (d.length : Int) (i : Int)) (Gr.chk d) := by
  apply down
  · intro h
    rw [List.take_length] at h
    have e : Gr.chk d = if 64 < Gr.prod d then 12 else 0 := by
      unfold Gr.chk
      rw [if_neg (by omega), if_neg]
      rw [Bool.not_eq_true, List.any_eq_false]
      intro x hx
      have := h x hx
      simp; omega
    rw [e]
    refine Ev.step (fun k => ?_) (check_1 d h hn 0 (by omega) (by simp [Gr.prod]))
    rw [gradineref19_Check.l0, if_neg (by omega)]; simp [Gr.prod]
  · intro i hi ih h
    by_cases e : d[i] < 1
    · have e8 : Gr.chk d = 8 := by
        unfold Gr.chk
        rw [if_neg (by omega), if_pos]
        rw [List.any_eq_true]
        exact ⟨d[i], List.getElem_mem hi, by simpa using e⟩
      rw [e8]
      refine Ev.step (fun k => ?_) (Ev.now 8)
      rw [gradineref19_Check.l0, if_pos (by omega), if_pos (by omega), if_pos (by omega), rdg d i hi, if_pos (by omega)]
    · refine Ev.step (fun k => ?_) (ih ?_)
      · rw [gradineref19_Check.l0, if_pos (by omega), if_pos (by omega), if_pos (by omega), rdg d i hi, if_neg (by omega), nx i _ hi (by omega)]
      · intro x hx
        rw [List.take_succ_eq_append_getElem hi, List.mem_append] at hx
        rcases hx with hx | hx
        · exact h x hx
        · simp at hx; omega
theorem ref_check (d : List Int) : Ev (fun k => gradineref19_Check.f k d) (Gr.chk d) := by
  by_cases h : 6 < d.length
  · have e : Gr.chk d = 9 := by unfold Gr.chk; rw [if_pos h]
    rw [e]
    refine Ev.congr (fun k => ?_) (Ev.now 9)
    rw [gradineref19_Check.f, if_pos (by omega)]
  · refine Ev.congr (fun k => ?_) (check_0 d (by omega) 0 (by omega) (by simp))
    rw [gradineref19_Check.f, if_neg (by omega)]; rfl
theorem prod_step {d : List Int} (hok : Gr.chk d = 0) (i : Nat) (hi : i < d.length) :
    1 ≤ Gr.prod (d.take i) ∧ Gr.prod (d.take i) * d[i] = Gr.prod (d.take (i + 1)) ∧ Gr.prod (d.take (i + 1)) ≤ 64 ∧ 1 ≤ Gr.prod (d.take (i + 1)) := by
  obtain ⟨h6, h1, h2⟩ := Gr.chk_ok hok
  have := Gr.prod_take_le d h1 (i + 1)
  exact ⟨Gr.prod_pos _ (fun x hx => h1 x (List.mem_of_mem_take hx)), (Gr.prod_take_succ d i hi).symm, by omega, Gr.prod_pos _ (fun x hx => h1 x (List.mem_of_mem_take hx))⟩
theorem count_l (d : List Int) (hok : Gr.chk d = 0) : ∀ i, i ≤ d.length →
    Ev (fun k => shape_Count.l0 k (Gr.prod (d.take i)) d (d.length : Int) (i : Int)) (Gr.prod d) := by
  obtain ⟨h6, h1, h2⟩ := Gr.chk_ok hok
  apply down
  · rw [List.take_length]
    refine Ev.step (fun k => ?_) (Ev.now _)
    rw [shape_Count.l0, if_neg (by omega)]
  · intro i hi ih
    obtain ⟨p1, p2, p3, p4⟩ := prod_step hok i hi
    refine Ev.step (fun k => ?_) ih
    rw [shape_Count.l0, if_pos (by omega), if_pos (by omega), if_pos (by omega), rdg d i hi, w64 (by omega) (by omega), nx i _ hi (by omega), p2]
theorem count (d : List Int) : Ev (fun k => shape_Count.f k d) (Gr.cnt d) := by
  unfold Gr.cnt
  by_cases h : Gr.chk d = 0
  · rw [if_pos h]
    refine Ev.congr (fun k => ?_) (count_l d h 0 (by omega))
    rw [shape_Count.f, shape_check, Option.bind_some, if_pos h]; simp [Gr.prod]
  · rw [if_neg h]
    refine Ev.congr (fun k => ?_) (Ev.now 0)
    rw [shape_Count.f, shape_check, Option.bind_some, if_neg h]
theorem contains_snoc (s : List Int) (a x : Int) : (s ++ [a]).contains x = (s.contains x || x == a) := by
  simp [List.contains_eq_mem, List.mem_append, Bool.decide_or]
  rfl
theorem marks_set (r : Nat) (s : List Int) (a : Int) (h0 : 0 ≤ a) (h1 : a < r) : (Gr.marks r s).set a.toNat true = Gr.marks r (s ++ [a]) := by
  apply List.ext_getElem (by simp [Gr.marks])
  intro j hj hj2
  simp only [Gr.marks, List.getElem_set, List.getElem_map, List.getElem_range, contains_snoc]
  by_cases e : a.toNat = j
  · rw [if_pos e, show ((j : Int) == a) = true by simp; omega, Bool.or_true]
  · rw [if_neg e, show ((j : Int) == a) = false by simp; omega, Bool.or_false]
theorem marks_at (r : Nat) (s : List Int) (a : Int) (h0 : 0 ≤ a) (h1 : a < r) : rdOf false (Gr.marks r s) a = s.contains a := by
  obtain ⟨n, rfl⟩ := Int.eq_ofNat_of_zero_le h0
  rw [rdb _ n (by simp [Gr.marks]; omega)]
  simp [Gr.marks]
theorem marks_length (r : Nat) (s : List Int) : (Gr.marks r s).length = r := by simp [Gr.marks]
theorem mks_length (r : Nat) (s : List Int) : (Gr.mks r s).length = r := by simp [Gr.mks]
theorem mks_of_ne (r : Nat) (l : List Int) (h : l ≠ []) : Gr.mks r l = Gr.marks r l := by
  unfold Gr.mks Gr.marks
  rw [show l.isEmpty = false by cases l <;> simp_all]
  simp
theorem axes_1 (r : Nat) (hr : r ≤ 6) (x : List Bool) (hx : x.length = r) : ∀ i, i ≤ r → (x.take i = List.replicate i true) →
    Ev (fun k => shape_Axes.l1 k x (r : Int) (i : Int)) (List.replicate r true, 0) := by
  intro i hi
  obtain ⟨d, hd⟩ : ∃ d, r = i + d := ⟨r - i, by omega⟩
  induction d generalizing i x with
  | zero =>
    intro h
    have : i = x.length := by omega
    subst this
    rw [List.take_length] at h
    refine Ev.step (fun k => ?_) (Ev.now _)
    rw [shape_Axes.l1, if_neg (by omega), h, hx]
  | succ d ih =>
    intro h
    refine Ev.step (fun k => ?_) (ih (x.set i true) (by simp [hx]) (i + 1) (by omega) (by omega) ?_)
    · rw [shape_Axes.l1, if_pos (by omega), if_pos (by omega), if_pos (by omega), Int.toNat_natCast, nx i r (by omega) (by omega)]
    · rw [List.take_succ_eq_append_getElem (by simp; omega), List.take_set_of_le (by omega), h, List.getElem_set_self, List.replicate_succ']
theorem axes_0 (r : Nat) (hr : r ≤ 6) (l : List Int) (hn : l.length ≤ 1000000000) : ∀ i, i ≤ l.length →
    Ev (fun k => shape_Axes.l0 k (r : Int) l (Gr.marks r (l.take i)) l (l.length : Int) (i : Int)) (if Gr.axv r (l.take i) (l.drop i) = true then (Gr.mks r l, 0) else ([], 10)) := by
  apply down
  · rw [List.take_length, List.drop_length]
    rw [if_pos (by rfl)]
    by_cases e : l = []
    · subst e
      have := axes_1 r hr (Gr.marks r []) (marks_length _ _) 0 (by omega) (by simp)
      rw [show Gr.mks r [] = List.replicate r true by
        unfold Gr.mks
        apply List.ext_getElem (by simp)
        intro j _ _; simp]
      refine Ev.step (fun k => ?_) this
      rw [shape_Axes.l0, if_neg (by simp), if_pos (by simp), marks_length]; rfl
    · rw [mks_of_ne r l e]
      have h0 : ¬ ((l.length : Int) = 0) := by
        intro h; apply e; apply List.eq_nil_of_length_eq_zero; omega
      refine Ev.step (fun k => ?_) (Ev.now _)
      rw [shape_Axes.l0, if_neg (by omega), if_neg h0]
  · intro i hi ih
    rw [dropc l i hi, Gr.axv]
    by_cases h1 : rd l (i : Int) < 0
    · rw [if_neg (by simp; omega)]
      refine Ev.step (fun k => ?_) (Ev.now _)
      rw [shape_Axes.l0, if_pos (by omega), if_pos (by omega), if_pos (by omega), if_pos h1]
    · by_cases h2 : (r : Int) ≤ rd l (i : Int)
      · rw [if_neg (by simp; omega)]
        refine Ev.step (fun k => ?_) (Ev.now _)
        rw [shape_Axes.l0, if_pos (by omega), if_pos (by omega), if_pos (by omega), if_neg h1, if_pos h2]
      · have ha := marks_at r (l.take i) (rd l (i : Int)) (by omega) (by omega)
        by_cases h3 : (l.take i).contains (rd l (i : Int)) = true
        · rw [h3, if_neg (by simp)]
          refine Ev.step (fun k => ?_) (Ev.now _)
          rw [shape_Axes.l0, if_pos (by omega), if_pos (by omega), if_pos (by omega), if_neg h1, if_neg h2, if_pos (by omega), if_pos (by rw [marks_length]; omega), ha, if_pos h3]
        · have e : l.take (i + 1) = l.take i ++ [rd l (i : Int)] := by rw [List.take_succ_eq_append_getElem hi, rdg l i hi]
          rw [e] at ih
          rw [show (decide (0 ≤ rd l (i : Int)) && decide (rd l (i : Int) < (r : Int)) && !((l.take i).contains (rd l (i : Int)))) = true by simp [h3]; simp at h3; exact ⟨by omega, h3⟩, Bool.true_and]
          refine Ev.step (fun k => ?_) ih
          rw [shape_Axes.l0, if_pos (by omega), if_pos (by omega), if_pos (by omega), if_neg h1, if_neg h2, if_pos (by omega), if_pos (by rw [marks_length]; omega), ha, if_neg h3, marks_set r _ _ (by omega) (by omega), nx i _ hi hn]
theorem axes (r : Int) (l : List Int) (hn : l.length ≤ 1000000000) : Ev (fun k => shape_Axes.f k r l) (Gr.axs r l) := by
  unfold Gr.axs
  by_cases h0 : r < 0
  · rw [if_pos (.inl h0)]
    refine Ev.congr (f := fun k => shape_Axes.j0 k r l true) (fun k => by rw [shape_Axes.f, if_pos h0]) ?_
    refine Ev.step (fun k => ?_) (Ev.now _)
    rw [shape_Axes.j0, if_pos rfl]
  · refine Ev.congr (f := fun k => shape_Axes.j0 k r l (decide (r > 6))) (fun k => by rw [shape_Axes.f, if_neg h0]) ?_
    by_cases h6 : 6 < r
    · rw [if_pos (.inr h6)]
      refine Ev.step (fun k => ?_) (Ev.now _)
      rw [shape_Axes.j0, if_pos (by simpa using h6)]
    · rw [if_neg (by omega)]
      obtain ⟨n, rfl⟩ := Int.eq_ofNat_of_zero_le (show 0 ≤ r by omega)
      have := axes_0 n (by omega) l hn 0 (by omega)
      rw [List.take_zero, List.drop_zero] at this
      refine Ev.step (fun k => ?_) this
      rw [shape_Axes.j0, if_neg (by simp; omega), if_pos (by omega), if_pos (by simp; omega), Int.toNat_natCast]
      rw [show Gr.marks n [] = List.replicate n false by
        unfold Gr.marks
        apply List.ext_getElem (by simp)
        intro j _ _; simp]
      rfl
theorem axs_length (d l : List Int) (h : (Gr.axs d.length l).2 = 0) : (Gr.axs d.length l).1.length = d.length := by
  unfold Gr.axs at h ⊢
  split at h
  · simp at h
  · rename_i h1
    split at h
    · rename_i h2
      rw [if_neg h1, if_pos h2]
      simp [mks_length]
    · simp at h
theorem drop_l (keep : Bool) (m : List Bool) (d : List Int) (hm : m.length = d.length) (hn : d.length ≤ 6) : ∀ i, i ≤ d.length → ∀ o : List Int, o.length ≤ i →
    Ev (fun k => shape_Drop.l0 k keep m o d (d.length : Int) (i : Int)) (o ++ Gr.drp keep (m.drop i) (d.drop i), 0) := by
  apply down
  · intro o ho
    rw [List.drop_length, ← hm, List.drop_length]
    simp only [Gr.drp, List.append_nil]
    refine Ev.step (fun k => ?_) (Ev.now _)
    rw [shape_Drop.l0, if_neg (by omega)]
  · intro i hi ih o ho
    rw [dropc d i hi, List.drop_eq_getElem_cons (show i < m.length by omega)]
    simp only [Gr.drp]
    have hb := rdb m i (by omega)
    by_cases h1 : m[i] = true
    · rw [if_pos h1]
      by_cases h2 : keep = true
      · rw [if_pos h2]
        have := ih (o ++ [1]) (by simp; omega)
        rw [List.append_assoc, List.singleton_append] at this
        refine Ev.step (fun k => ?_) this
        rw [shape_Drop.l0, if_pos (by omega), if_pos (by omega), if_pos (by omega), if_pos (by omega), hb, if_pos h1, if_pos h2, if_pos (by omega), nx i _ hi (by omega)]
      · rw [if_neg h2]
        refine Ev.step (fun k => ?_) (ih o (by omega))
        rw [shape_Drop.l0, if_pos (by omega), if_pos (by omega), if_pos (by omega), if_pos (by omega), hb, if_pos h1, if_neg h2, nx i _ hi (by omega)]
    · rw [if_neg h1]
      have := ih (o ++ [rd d (i : Int)]) (by simp; omega)
      rw [List.append_assoc, List.singleton_append] at this
      refine Ev.step (fun k => ?_) this
      rw [shape_Drop.l0, if_pos (by omega), if_pos (by omega), if_pos (by omega), if_pos (by omega), hb, if_neg h1, if_pos (by omega), nx i _ hi (by omega)]
theorem drop (d l : List Int) (keep : Bool) (hn : l.length ≤ 1000000000) : Ev (fun k => shape_Drop.f k d l keep) (Gr.drop d l keep) := by
  unfold Gr.drop
  by_cases h : Gr.chk d = 0
  · rw [if_pos h]
    refine Ev.congr (f := fun k => (shape_Axes.f k (d.length : Int) l).bind fun bt149 => if bt149.2 = 0 then shape_Drop.l0 k keep bt149.1 ([] : List Int) d (d.length : Int) 0 else some (([] : List Int), bt149.2)) (fun k => by rw [shape_Drop.f, shape_check, Option.bind_some, if_pos h]) ?_
    refine Ev.bind (axes d.length l hn) ?_
    by_cases h2 : (Gr.axs d.length l).2 = 0
    · simp only [if_pos h2]
      have := drop_l keep (Gr.axs d.length l).1 d (axs_length d l h2) (Gr.chk_ok h).1 0 (by omega) [] (by simp)
      rw [List.drop_zero, List.drop_zero, List.nil_append] at this
      exact this
    · simp only [if_neg h2]
      exact Ev.now _
  · rw [if_neg h]
    refine Ev.congr (fun k => ?_) (Ev.now _)
    rw [shape_Drop.f, shape_check, Option.bind_some, if_neg h]
theorem rdl (l : List (List Int)) (i : Nat) (h : i < l.length) : rd_L1 l (i : Int) = l[i] := by
  simp [rd_L1, List.getD_eq_getElem?_getD, List.getElem?_eq_getElem h]
theorem at_set (d x : List Int) (m : Int) (i : Nat) (hi : i < d.length) (hl : x.length = d.length) (hx : x.drop (i + 1) = Gr.dig (d.drop (i + 1)) m) :
    (x.set i (m / Gr.prod (d.drop (i + 1)) % rd d (i : Int))).drop i = Gr.dig (d.drop i) m := by
  rw [List.drop_eq_getElem_cons (by simp; omega), dropc d i hi]
  simp only [List.getElem_set_self, Gr.dig, List.cons.injEq, true_and]
  rw [List.drop_set_of_lt (by omega)]
  exact hx
theorem at_l (d : List Int) (hok : Gr.chk d = 0) (m : Int) (hm : 0 ≤ m) (hm2 : m ≤ 64) : ∀ i, i ≤ d.length → ∀ x : List Int, x.length = d.length → x.drop i = Gr.dig (d.drop i) m →
    Ev (fun k => walk_At.l0 k d (m / Gr.prod (d.drop i)) x ((i : Int) - 1)) (Gr.dig d m, true) := by
  obtain ⟨h6, h1, h2⟩ := Gr.chk_ok hok
  intro i
  induction i with
  | zero =>
    intro hi x hl hx
    simp at hx
    subst hx
    refine Ev.step (fun k => ?_) (Ev.now _)
    rw [walk_At.l0, if_neg (by omega)]
  | succ i ih =>
    intro hi x hl hx
    have hlt : i < d.length := by omega
    have hd : d.drop i = d[i] :: d.drop (i + 1) := List.drop_eq_getElem_cons hlt
    have hge : 1 ≤ d[i] := h1 _ (List.getElem_mem hlt)
    have hle : d[i] ≤ 64 := Gr.ok_le hok _ (List.getElem_mem hlt)
    have q3 := Gr.prod_pos (d.drop (i + 1)) (fun y hy => h1 y (List.mem_of_mem_drop hy))
    have hp : Gr.prod (d.drop i) = Gr.prod (d.drop (i + 1)) * d[i] := by rw [hd]; simp only [Gr.prod]; rw [Int.mul_comm]
    have h0 : 0 ≤ m / Gr.prod (d.drop (i + 1)) := Int.ediv_nonneg hm (by omega)
    have h64 : m / Gr.prod (d.drop (i + 1)) ≤ m := Int.ediv_le_self _ hm
    have e1 : Int.tdiv (m / Gr.prod (d.drop (i + 1))) d[i] = m / Gr.prod (d.drop i) := by
      rw [Int.tdiv_eq_ediv_of_nonneg h0, hp, Int.ediv_ediv, if_neg (by omega), Int.sub_zero]
    have e2 : Int.tmod (m / Gr.prod (d.drop (i + 1))) d[i] = m / Gr.prod (d.drop (i + 1)) % d[i] := Int.tmod_eq_emod_of_nonneg h0
    have b0 : 0 ≤ m / Gr.prod (d.drop i) := Int.ediv_nonneg hm (by have := Gr.prod_pos (d.drop i) (fun y hy => h1 y (List.mem_of_mem_drop hy)); omega)
    have b1 : m / Gr.prod (d.drop i) ≤ m := Int.ediv_le_self _ hm
    refine Ev.step (fun k => ?_) (ih (by omega) (x.set i (m / Gr.prod (d.drop (i + 1)) % rd d (i : Int))) (by simp [hl]) (at_set d x m i hlt hl hx))
    rw [walk_At.l0, show (((i + 1 : Nat) : Int) - 1) = (i : Int) by omega, if_pos (by omega), if_pos (by omega), if_pos (by omega), rdg d i hlt, if_neg (by omega), if_pos (by omega), e1, e2, w64 (by omega) (by omega), w64 (by omega) (by omega), Int.toNat_natCast]
theorem walk_at (d : List Int) (n : Int) : Ev (fun k => walk_At.f k d n) (Gr.att d n) := by
  unfold Gr.att
  by_cases h0 : n < 0
  · rw [if_neg (by omega)]
    refine Ev.congr (f := fun k => walk_At.j0 k d n true) (fun k => by rw [walk_At.f, if_pos h0]) ?_
    refine Ev.step (fun k => ?_) (Ev.now _)
    rw [walk_At.j0, if_pos rfl]
  · refine Ev.congr (f := fun k => (shape_Count.f k d).bind fun t => walk_At.j0 k d n (decide (n ≥ t))) (fun k => by rw [walk_At.f, if_neg h0]) ?_
    refine Ev.bind (count d) ?_
    by_cases h1 : n < Gr.cnt d
    · rw [if_pos ⟨by omega, h1⟩]
      have hok : Gr.chk d = 0 := by
        apply Decidable.byContradiction
        intro hc; unfold Gr.cnt at h1; rw [if_neg hc] at h1; omega
      obtain ⟨c1, c2, c3⟩ := Gr.cnt_ok hok
      have h6 := (Gr.chk_ok hok).1
      have := at_l d hok n (by omega) (by omega) d.length (by omega) (List.replicate d.length 0) (by simp) (by simp [Gr.dig])
      rw [List.drop_length] at this
      simp only [Gr.prod, Int.ediv_one] at this
      refine Ev.step (fun k => ?_) this
      rw [walk_At.j0, if_neg (by simp; omega), if_pos (by omega), if_pos (by simp; omega), w64 (by omega) (by omega), Int.toNat_natCast]
    · rw [if_neg (by omega)]
      refine Ev.step (fun k => ?_) (Ev.now _)
      rw [walk_At.j0, if_pos (by simp; omega)]
theorem in_l (d r : List Int) (hl : r.length = d.length) (hn : d.length ≤ 6) : ∀ i, i ≤ r.length →
    Ev (fun k => walk_in.l0 k d r (r.length : Int) (i : Int)) (Gr.inb (d.drop i) (r.drop i)) := by
  apply down
  · rw [List.drop_length, hl, List.drop_length]
    refine Ev.step (fun k => ?_) (Ev.now _)
    rw [walk_in.l0, if_neg (by omega)]; rfl
  · intro i hi ih
    rw [dropc d i (by omega), dropc r i hi]
    simp only [Gr.inb]
    by_cases h1 : rd r (i : Int) < 0
    · rw [show decide (0 ≤ rd r (i : Int)) = false by simp; omega, Bool.false_and, Bool.false_and]
      refine Ev.step (fun k => ?_) (Ev.now _)
      rw [walk_in.l0, if_pos (by omega), if_pos (by omega), if_pos (by omega), if_pos h1]
    · rw [show decide (0 ≤ rd r (i : Int)) = true by simp; omega, Bool.true_and]
      by_cases h2 : rd d (i : Int) ≤ rd r (i : Int)
      · rw [show decide (rd r (i : Int) < rd d (i : Int)) = false by simp; omega, Bool.false_and]
        refine Ev.step (fun k => ?_) (Ev.now _)
        rw [walk_in.l0, if_pos (by omega), if_pos (by omega), if_pos (by omega), if_neg h1, if_pos (by omega), if_pos h2]
      · rw [show decide (rd r (i : Int) < rd d (i : Int)) = true by simp; omega, Bool.true_and]
        refine Ev.step (fun k => ?_) ih
        rw [walk_in.l0, if_pos (by omega), if_pos (by omega), if_pos (by omega), if_neg h1, if_pos (by omega), if_neg h2, nx i _ hi (by omega)]
theorem walk_ind (d r : List Int) : Ev (fun k => walk_in.f k d r) (Gr.ind d r) := by
  unfold Gr.ind
  refine Ev.congr (fun k => by rw [walk_in.f, shape_check, Option.bind_some]) ?_
  by_cases h : Gr.chk d = 0
  · have h6 := (Gr.chk_ok h).1
    simp only [if_pos h]
    rw [decide_eq_true h, Bool.true_and]
    by_cases hl : r.length = d.length
    · refine Ev.step (fun k => ?_) (in_l d r hl h6 0 (by omega))
      rw [walk_in.j0, if_neg (by simp; omega)]; rfl
    · rw [show Gr.inb d r = false by
        apply Decidable.byContradiction
        intro hc; exact hl (Gr.inb_length (by simpa using hc))]
      refine Ev.step (fun k => ?_) (Ev.now _)
      rw [walk_in.j0, if_pos (by simp; omega)]
  · simp only [if_neg h]
    rw [decide_eq_false h, Bool.false_and]
    refine Ev.step (fun k => ?_) (Ev.now _)
    rw [walk_in.j0, if_pos rfl]
theorem place_l (d r : List Int) (hok : Gr.chk d = 0) (hi2 : Gr.inb d r = true) : ∀ i, i ≤ r.length → ∀ n : Int, 0 ≤ n → n * Gr.prod (d.drop i) + Gr.num (d.drop i) (r.drop i) ≤ 64 → Gr.inb (d.drop i) (r.drop i) = true →
    Ev (fun k => walk_Place.l0 k d n r (r.length : Int) (i : Int)) (n * Gr.prod (d.drop i) + Gr.num (d.drop i) (r.drop i), true) := by
  obtain ⟨h6, h1, h2⟩ := Gr.chk_ok hok
  have hl := Gr.inb_length hi2
  apply down
  · intro n hn hb _
    rw [hl, List.drop_length, ← hl, List.drop_length]
    simp only [Gr.prod, Gr.num, Int.mul_one, Int.add_zero]
    refine Ev.step (fun k => ?_) (Ev.now _)
    rw [walk_Place.l0, if_neg (by omega)]
  · intro i hi ih n hn hb hin
    have hq := Gr.num_lt (d.drop (i + 1)) (r.drop (i + 1)) (fun x hx => h1 x (List.mem_of_mem_drop hx))
    have hp := Gr.prod_pos (d.drop (i + 1)) (fun x hx => h1 x (List.mem_of_mem_drop hx))
    have hx1 : 1 ≤ rd d (i : Int) := by rw [rdg d i (by omega)]; exact h1 _ (List.getElem_mem _)
    rw [dropc d i (by omega), dropc r i hi] at hin hb ⊢
    simp only [Gr.inb, Bool.and_eq_true, decide_eq_true_eq] at hin
    obtain ⟨q1, q2⟩ := hq hin.2
    simp only [Gr.prod, Gr.num] at hb ⊢
    have e : n * (rd d (i : Int) * Gr.prod (d.drop (i + 1))) + (rd r (i : Int) * Gr.prod (d.drop (i + 1)) + Gr.num (d.drop (i + 1)) (r.drop (i + 1))) = (n * rd d (i : Int) + rd r (i : Int)) * Gr.prod (d.drop (i + 1)) + Gr.num (d.drop (i + 1)) (r.drop (i + 1)) := by
      rw [Int.add_mul, ← Int.mul_assoc]; omega
    rw [e] at hb ⊢
    have b1 : 0 ≤ n * rd d (i : Int) := Int.mul_nonneg hn (by omega)
    have b2 : (n * rd d (i : Int) + rd r (i : Int)) * 1 ≤ (n * rd d (i : Int) + rd r (i : Int)) * Gr.prod (d.drop (i + 1)) := Int.mul_le_mul_of_nonneg_left hp (by omega)
    refine Ev.step (fun k => ?_) (ih _ (by omega) hb hin.2)
    rw [walk_Place.l0, if_pos (by omega), if_pos (by omega), if_pos (by omega), if_pos (by omega), show wrap64 (n * rd d (i : Int)) = n * rd d (i : Int) from w64 (by omega) (by omega), w64 (by omega) (by omega), nx i _ hi (by omega)]
theorem walk_place (d r : List Int) : Ev (fun k => walk_Place.f k d r) (Gr.plc d r) := by
  unfold Gr.plc
  refine Ev.congr (fun k => by rw [walk_Place.f]) (Ev.bind (walk_ind d r) ?_)
  by_cases h : Gr.ind d r = true
  · simp only [if_pos h]
    unfold Gr.ind at h
    simp only [Bool.and_eq_true, decide_eq_true_eq] at h
    obtain ⟨h6, h1, h2⟩ := Gr.chk_ok h.1
    have hb := (Gr.num_lt d r h1 h.2)
    have := place_l d r h.1 h.2 0 (by omega) 0 (by omega) (by simp; omega) (by simpa using h.2)
    rw [List.drop_zero, List.drop_zero, Int.zero_mul, Int.zero_add] at this
    exact this
  · simp only [if_neg h]
    exact Ev.now _
theorem all_2 (d : List Int) (L : List (List Int)) (i : Nat) (hi : i < d.length) (q : Nat) (hq : q < L.length) (hn : d.length ≤ 6) (hL : L.length ≤ 64) (hL6 : ∀ p ∈ L, p.length ≤ 6) (X : Nat) (hX : X ≤ 64) (hXd : rd d (i : Int) = (X : Int)) (r : List (List Int)) :
    ∀ v, v ≤ X → ∀ acc : List (List Int), acc.length ≤ 64 * q + v →
    Ev (fun k => gradineref20_All.l1 k d L (i : Int) (acc ++ ((List.range (X - v)).map fun u : Nat => L[q] ++ [((v + u : Nat) : Int)])) (d.length : Int) (i : Int) (L.length : Int) ((q + 1 : Nat) : Int)) r →
    Ev (fun k => gradineref20_All.l2 k d L (i : Int) acc (q : Int) (d.length : Int) (i : Int) (L.length : Int) (q : Int) (rd d (i : Int)) (v : Int)) r := by
  apply down
  · intro acc hacc h
    simp at h
    refine Ev.step (fun k => ?_) h
    rw [gradineref20_All.l2, if_neg (by omega), nx q _ hq (by omega)]; rfl
  · intro v hv ih acc hacc h
    have h6 := hL6 L[q] (List.getElem_mem hq)
    have e : acc ++ ((List.range (X - v)).map fun u : Nat => L[q] ++ [((v + u : Nat) : Int)]) = (acc ++ [L[q] ++ [(v : Int)]]) ++ ((List.range (X - (v + 1))).map fun u : Nat => L[q] ++ [((v + 1 + u : Nat) : Int)]) := by
      rw [show X - v = (X - (v + 1)) + 1 by omega, List.range_succ_eq_map, List.map_cons, List.map_map, List.append_assoc, List.singleton_append]
      congr 2
      apply List.map_congr_left
      intro u _
      simp only [Function.comp]
      rw [show v + u.succ = v + 1 + u by omega]
    rw [e] at h
    refine Ev.step (fun k => ?_) (ih (acc ++ [L[q] ++ [(v : Int)]]) (by simp; omega) h)
    rw [gradineref20_All.l2, if_pos (by omega), Option.bind_some, if_pos (by omega), if_pos (by omega), rdl L q hq, if_pos (by simp; omega), Option.bind_some, if_pos (by simp; omega), if_pos (by omega), nx v X hv (by omega), List.nil_append]
theorem all_1 (d : List Int) (L : List (List Int)) (i : Nat) (hi : i < d.length) (hn : d.length ≤ 6) (hL : L.length ≤ 64) (hL6 : ∀ p ∈ L, p.length ≤ 6) (X : Nat) (hX : X ≤ 64) (hXd : rd d (i : Int) = (X : Int)) (r : List (List Int)) :
    ∀ q, q ≤ L.length → ∀ acc : List (List Int), acc.length ≤ 64 * q →
    Ev (fun k => gradineref20_All.l0 k d (acc ++ (L.drop q).flatMap fun p => (List.range X).map fun v : Nat => p ++ [(v : Int)]) (d.length : Int) ((i + 1 : Nat) : Int)) r →
    Ev (fun k => gradineref20_All.l1 k d L (i : Int) acc (d.length : Int) (i : Int) (L.length : Int) (q : Int)) r := by
  apply down
  · intro acc hacc h
    rw [List.drop_length] at h
    simp only [List.flatMap_nil, List.append_nil] at h
    refine Ev.step (fun k => ?_) h
    rw [gradineref20_All.l1, if_neg (by omega), nx i _ hi (by omega)]
  · intro q hq ih acc hacc h
    rw [List.drop_eq_getElem_cons hq, List.flatMap_cons, ← List.append_assoc] at h
    have := ih _ (by simp; omega) h
    refine Ev.step (fun k => ?_) (all_2 d L i hi q hq hn hL hL6 X hX hXd r 0 (by omega) acc (by omega) (by simpa using this))
    rw [gradineref20_All.l1, if_pos (by omega), if_pos (by omega), if_pos (by omega)]; rfl
theorem all_0 (d : List Int) (hok : Gr.chk d = 0) : ∀ i, i ≤ d.length →
    Ev (fun k => gradineref20_All.l0 k d (Gr.pre (d.take i)) (d.length : Int) (i : Int)) (Gr.pre d) := by
  obtain ⟨h6, h1, h2⟩ := Gr.chk_ok hok
  apply down
  · rw [List.take_length]
    refine Ev.step (fun k => ?_) (Ev.now _)
    rw [gradineref20_All.l0, if_neg (by omega)]
  · intro i hi ih
    have hx := h1 _ (List.getElem_mem hi)
    have hx2 := Gr.ok_le hok _ (List.getElem_mem hi)
    have e : d.take (i + 1) = d.take i ++ [rd d (i : Int)] := by rw [List.take_succ_eq_append_getElem hi, rdg d i hi]
    rw [e, Gr.pre_snoc _ _ (fun y hy => h1 y (List.mem_of_mem_take hy)) (by rw [rdg d i hi]; exact hx)] at ih
    have hp := Gr.chk_ok (Gr.ok_take hok i)
    refine Ev.step (fun k => ?_) (all_1 d (Gr.pre (d.take i)) i hi h6 (by rw [Gr.pre_length]; omega) ?_ (rd d (i : Int)).toNat (by rw [rdg d i hi]; omega) (by rw [rdg d i hi]; omega) _ 0 (by omega) [] (by simp) (by simpa using ih))
    · rw [gradineref20_All.l0, if_pos (by omega)]; rfl
    · intro p hp
      simp only [Gr.pre, List.mem_map] at hp
      obtain ⟨n, _, rfl⟩ := hp
      rw [Gr.dig_length, List.length_take]; omega
theorem ref_all (d : List Int) : Ev (fun k => gradineref20_All.f k d) (Gr.alls d) := by
  refine Ev.congr (fun k => by rw [gradineref20_All.f]) (Ev.bind (ref_check d) ?_)
  by_cases h : Gr.chk d = 0
  · simp only [if_pos h]
    rw [Gr.alls_ok h]
    have := all_0 d h 0 (by omega)
    rw [List.take_zero, Gr.pre_nil] at this
    exact this
  · simp only [if_neg h]
    unfold Gr.alls
    rw [if_neg h]
    exact Ev.now _
theorem rsame_l (a b : List Int) (hl : a.length = b.length) (hn : a.length ≤ 1000000000) : ∀ i, i ≤ a.length →
    Ev (fun k => gradineref19_Same.l0 k a b (a.length : Int) (i : Int)) (decide (a.drop i = b.drop i)) := by
  apply down
  · refine Ev.step (f := fun _ => some true) (fun k => ?_) ?_
    · rw [gradineref19_Same.l0, if_neg (by omega)]
    · rw [List.drop_length, hl, List.drop_length]; exact Ev.now true
  · intro i hi ih
    rw [dropc a i hi, dropc b i (by omega)]
    by_cases e : rd a (i : Int) = rd b (i : Int)
    · rw [show decide (rd a (i : Int) :: a.drop (i + 1) = rd b (i : Int) :: b.drop (i + 1)) = decide (a.drop (i + 1) = b.drop (i + 1)) by simp [e]]
      refine Ev.step (fun k => ?_) ih
      rw [gradineref19_Same.l0, if_pos (by omega), if_pos (by omega), if_pos (by omega), if_pos (by omega), if_pos e, nx i _ hi hn]
    · rw [show decide (rd a (i : Int) :: a.drop (i + 1) = rd b (i : Int) :: b.drop (i + 1)) = false by simp [e]]
      refine Ev.step (fun k => ?_) (Ev.now false)
      rw [gradineref19_Same.l0, if_pos (by omega), if_pos (by omega), if_pos (by omega), if_pos (by omega), if_neg e]
theorem rsame (a b : List Int) (hn : a.length ≤ 1000000000) : Ev (fun k => gradineref19_Same.f k a b) (decide (a = b)) := by
  by_cases hl : a.length = b.length
  · refine Ev.congr (fun k => ?_) (by have := rsame_l a b hl hn 0 (by omega); simpa using this)
    rw [gradineref19_Same.f, if_pos (by omega)]
  · rw [show decide (a = b) = false from decide_eq_false (fun e => hl (by rw [e]))]
    refine Ev.congr (fun k => ?_) (Ev.now false)
    rw [gradineref19_Same.f, if_neg (by omega)]
theorem set_take (x r : List Int) (i : Nat) (a : Int) (h : x.take i = r.take i) : (x.set i a).take i = r.take i := by
  rw [List.take_set_of_le (by omega)]; exact h
theorem set_drop (x : List Int) (i : Nat) (a : Int) (hi : i < x.length) : (x.set i a).drop i = a :: x.drop (i + 1) := by
  rw [List.drop_eq_getElem_cons (by simp; omega), List.getElem_set_self, List.drop_set_of_lt (by omega)]
theorem next_l (d r : List Int) (hok : Gr.chk d = 0) (hi2 : Gr.inb d r = true) : ∀ i, i ≤ d.length → ∀ x : List Int, x.length = d.length → x.take i = r.take i → x.drop i = Gr.dig (d.drop i) 0 → Gr.num (d.drop i) (r.drop i) + 1 = Gr.prod (d.drop i) →
    Ev (fun k => walk_Next.l0 k d x ((i : Int) - 1)) (if Gr.num d r + 1 < Gr.prod d then (Gr.dig d (Gr.num d r + 1), true) else ([], false)) := by
  obtain ⟨h6, h1, h2⟩ := Gr.chk_ok hok
  have hl := Gr.inb_length hi2
  intro i
  induction i with
  | zero =>
    intro hi x hx ht hdr hn
    rw [List.drop_zero, List.drop_zero] at hn
    rw [if_neg (by omega)]
    refine Ev.step (fun k => ?_) (Ev.now _)
    rw [walk_Next.l0, if_neg (by omega)]
  | succ i ih =>
    intro hi x hx ht hdr hn
    have hlt : i < d.length := by omega
    have hti : x.take i = r.take i := by
      have := congrArg (List.take i) ht
      rwa [List.take_take, List.take_take, Nat.min_eq_left (by omega)] at this
    have hxr : rd x (i : Int) = rd r (i : Int) := by
      have := congrArg (fun l => rd l (i : Int)) ht
      simpa [rd, List.getElem?_take] using this
    have hd : d.drop i = rd d (i : Int) :: d.drop (i + 1) := dropc d i hlt
    have hr : r.drop i = rd r (i : Int) :: r.drop (i + 1) := dropc r i (by omega)
    have hib := Gr.inb_drop d r hi2 i
    rw [hd, hr] at hib
    simp only [Gr.inb, Bool.and_eq_true, decide_eq_true_eq] at hib
    have hge : 1 ≤ rd d (i : Int) := by rw [rdg d i hlt]; exact h1 _ (List.getElem_mem hlt)
    have hle : rd d (i : Int) ≤ 64 := by rw [rdg d i hlt]; exact Gr.ok_le hok _ (List.getElem_mem hlt)
    have hdp : ∀ y ∈ d.drop (i + 1), 1 ≤ y := fun y hy => h1 y (List.mem_of_mem_drop hy)
    have hp := Gr.prod_pos (d.drop (i + 1)) hdp
    have hz : Gr.num (d.drop (i + 1)) (Gr.dig (d.drop (i + 1)) 0) = 0 := Gr.num_dig_lt _ hdp 0 (by omega) (by omega)
    have hn2 : Gr.num (d.drop i) (r.drop i) = rd r (i : Int) * Gr.prod (d.drop (i + 1)) + Gr.num (d.drop (i + 1)) (r.drop (i + 1)) := by rw [hd, hr]; rfl
    have hp2 : Gr.prod (d.drop i) = rd d (i : Int) * Gr.prod (d.drop (i + 1)) := by rw [hd]; rfl
    have hw : wrap64 (rd x (i : Int) + 1) = rd r (i : Int) + 1 := by rw [hxr, w64 (by omega) (by omega)]
    have hrd : rd (x.set i (rd r (i : Int) + 1)) (i : Int) = rd r (i : Int) + 1 := by
      rw [rdg _ i (by simp; omega), List.getElem_set_self]
    by_cases hc : rd r (i : Int) + 1 < rd d (i : Int)
    · have hyd := set_drop x i (rd r (i : Int) + 1) (by omega)
      have hyt := set_take x r i (rd r (i : Int) + 1) hti
      have hyl : (x.set i (rd r (i : Int) + 1)).length = d.length := by simp [hx]
      rw [hdr] at hyd
      have hyi : Gr.inb d (x.set i (rd r (i : Int) + 1)) = true := by
        refine Gr.inb_split d r _ hi2 hyl i hyt ?_
        rw [hyd, hd]
        simp only [Gr.inb, Bool.and_eq_true, decide_eq_true_eq]
        exact ⟨⟨by omega, hc⟩, Gr.inb_dig _ hdp 0⟩
      have hs := Gr.num_split d r _ hl hyl i hyt
      rw [hyd, hn2, hd] at hs
      simp only [Gr.num, hz, Int.add_mul] at hs
      have hyn : Gr.num d (x.set i (rd r (i : Int) + 1)) = Gr.num d r + 1 := by omega
      have hlt2 := (Gr.num_lt d _ h1 hyi).2
      have hdn := Gr.dig_num d _ h1 hyi
      rw [hyn] at hdn hlt2
      rw [if_pos hlt2, hdn]
      refine Ev.step (fun k => ?_) (Ev.now _)
      rw [walk_Next.l0, show (((i + 1 : Nat) : Int) - 1) = (i : Int) by omega, if_pos (by omega), if_pos (by omega), if_pos (by omega), hw, Int.toNat_natCast]
      simp only [Option.bind_some]
      rw [if_pos (by omega), hrd, if_pos hc]
    · have he : rd r (i : Int) + 1 = rd d (i : Int) := by omega
      have hyd := set_drop x i 0 (by omega)
      rw [hdr] at hyd
      have := ih (by omega) (x.set i 0) (by simp [hx]) (set_take x r i 0 hti) (by rw [hyd, hd]; simp [Gr.dig]) (by
        rw [hn2, hp2, ← he, Int.add_mul, Int.one_mul]; omega)
      refine Ev.step (fun k => ?_) this
      rw [walk_Next.l0, show (((i + 1 : Nat) : Int) - 1) = (i : Int) by omega, if_pos (by omega), if_pos (by omega), if_pos (by omega), hw, Int.toNat_natCast]
      simp only [Option.bind_some]
      rw [if_pos (by omega), hrd, if_neg hc, List.set_set, w64 (by omega) (by omega)]
theorem walk_next (d r : List Int) : Ev (fun k => walk_Next.f k d r) (Gr.nxt d r) := by
  unfold Gr.nxt
  refine Ev.congr (fun k => by rw [walk_Next.f]) (Ev.bind (walk_ind d r) ?_)
  by_cases h : Gr.ind d r = true
  · simp only [h, if_true, true_and, Option.bind_some, List.nil_append]
    unfold Gr.ind at h
    simp only [Bool.and_eq_true, decide_eq_true_eq] at h
    have h6 := (Gr.chk_ok h.1).1
    have hl := Gr.inb_length h.2
    rw [(Gr.cnt_ok h.1).1]
    have := next_l d r h.1 h.2 d.length (by omega) r hl rfl (by rw [List.drop_length, ← hl, List.drop_length]; rfl) (by rw [List.drop_length]; simp [Gr.num, Gr.prod])
    refine Ev.congr (fun k => ?_) this
    rw [if_pos (by simp; omega), w64 (by omega) (by omega)]
  · simp only [h, if_false, false_and, Bool.false_eq_true]
    exact Ev.now _
theorem walk_all (d : List Int) : Ev (fun k => walk_All.f k d) (Gr.alls d) := by
  refine Ev.congr (fun k => by rw [walk_All.f]) (Ev.bind (walk_at d 0) ?_)
  by_cases h : Gr.chk d = 0
  · obtain ⟨c1, c2, c3⟩ := Gr.cnt_ok h
    obtain ⟨h6, h1, h2⟩ := Gr.chk_ok h
    have hp := Gr.prod_pos d h1
    rw [Gr.alls_ok h]
    have key : ∀ n, n ≤ (Gr.prod d).toNat → Ev (fun k => walk_All.l0 k d (if n < (Gr.prod d).toNat then Gr.dig d (n : Int) else []) (decide (n < (Gr.prod d).toNat)) ((Gr.pre d).take n)) (Gr.pre d) := by
      apply down
      · refine Ev.step (fun k => ?_) (Ev.now _)
        rw [walk_All.l0, if_neg (by simp), ← Gr.pre_length, List.take_length]
      · intro n hn ih
        have hind : Gr.ind d (Gr.dig d (n : Int)) = true := by unfold Gr.ind; rw [decide_eq_true h, Gr.inb_dig d h1]; rfl
        have hnum := Gr.num_dig_lt d h1 (n : Int) (by omega) (by omega)
        have hnx := walk_next d (Gr.dig d (n : Int))
        have e : Gr.nxt d (Gr.dig d (n : Int)) = (if n + 1 < (Gr.prod d).toNat then Gr.dig d ((n + 1 : Nat) : Int) else [], decide (n + 1 < (Gr.prod d).toNat)) := by
          unfold Gr.nxt
          rw [hnum, c1]
          by_cases hc : n + 1 < (Gr.prod d).toNat
          · rw [if_pos ⟨hind, by omega⟩, if_pos hc, decide_eq_true hc]; rfl
          · rw [if_neg (fun hh => hc (by omega)), if_neg hc, decide_eq_false hc]
        rw [e] at hnx
        have et : (Gr.pre d).take (n + 1) = (Gr.pre d).take n ++ [Gr.dig d (n : Int)] := by
          rw [List.take_succ_eq_append_getElem (by rw [Gr.pre_length]; omega), Gr.pre_get]
        rw [et] at ih
        have := Ev.bind (f := fun k (t : List Int × Bool) => walk_All.l0 k d t.1 t.2 ((Gr.pre d).take n ++ [Gr.dig d (n : Int)])) hnx ih
        refine Ev.step (fun k => ?_) this
        rw [if_pos hn, decide_eq_true hn, walk_All.l0, if_pos rfl, if_pos (by rw [List.length_take, Gr.pre_length]; omega)]
    have := key 0 (by omega)
    unfold Gr.att
    rw [if_pos (by omega)]
    simp only
    rwa [if_pos (by omega), decide_eq_true (by omega), List.take_zero] at this
  · unfold Gr.att Gr.cnt Gr.alls
    rw [if_neg h, if_neg h, if_neg (by omega)]
    refine Ev.step (fun k => ?_) (Ev.now _)
    rw [walk_All.l0, if_neg (by simp)]
theorem rplace20_l (d r : List Int) (hok : Gr.chk d = 0) : ∀ i, i ≤ (Gr.alls d).length → (Gr.ind d r = true → (i : Int) ≤ Gr.num d r) →
    Ev (fun k => gradineref20_Place.l0 k r (Gr.alls d) ((Gr.alls d).length : Int) (i : Int)) (Gr.plr d r) := by
  obtain ⟨h6, h1, h2⟩ := Gr.chk_ok hok
  have hlen := Gr.alls_length d
  rw [(Gr.cnt_ok hok).1] at hlen
  apply down
  · intro hi
    have : ¬ Gr.ind d r = true := fun hh => by
      have := hi hh
      unfold Gr.ind at hh
      simp only [Bool.and_eq_true] at hh
      have := (Gr.num_lt d r h1 hh.2).2
      omega
    unfold Gr.plr
    rw [if_neg this]
    refine Ev.step (fun k => ?_) (Ev.now _)
    rw [gradineref20_Place.l0, if_neg (by omega)]
  · intro i hi ih hle
    have hs := rsame (Gr.dig d (i : Int)) r (by rw [Gr.dig_length]; omega)
    refine Ev.step (f := fun k => (gradineref19_Same.f k (Gr.dig d (i : Int)) r).bind fun t => if t = true then some (i : Int) else gradineref20_Place.l0 k r (Gr.alls d) ((Gr.alls d).length : Int) ((i + 1 : Nat) : Int)) (fun k => ?_) (Ev.bind hs ?_)
    · rw [gradineref20_Place.l0, if_pos (by omega), if_pos (by omega), if_pos (by omega), rdl _ i hi, Gr.alls_get, nx i _ hi (by omega)]
    · by_cases e : Gr.dig d (i : Int) = r
      · rw [decide_eq_true e]
        simp only [if_true]
        have hp : Gr.plr d r = (i : Int) := by
          unfold Gr.plr Gr.ind
          rw [← e, decide_eq_true hok, Gr.inb_dig d h1, Bool.and_self, if_pos rfl]
          exact Gr.num_dig_lt d h1 _ (by omega) (by omega)
        rw [hp]; exact Ev.now _
      · rw [decide_eq_false e]
        simp only [Bool.false_eq_true, if_false]
        refine ih (fun hh => ?_)
        have := hle hh
        rcases Int.lt_or_le (i : Int) (Gr.num d r) with hlt | hge
        · omega
        · exfalso
          unfold Gr.ind at hh
          simp only [Bool.and_eq_true] at hh
          have := Gr.dig_num d r h1 hh.2
          rw [show Gr.num d r = (i : Int) by omega] at this
          exact e this
theorem ref_place20 (d r : List Int) : Ev (fun k => gradineref20_Place.f k d r) (Gr.plr d r) := by
  refine Ev.congr (fun k => by rw [gradineref20_Place.f]) (Ev.bind (ref_all d) ?_)
  by_cases h : Gr.chk d = 0
  · refine rplace20_l d r h 0 (by omega) (fun hh => ?_)
    unfold Gr.ind at hh
    simp only [Bool.and_eq_true] at hh
    have := (Gr.num_lt d r (Gr.chk_ok h).2.1 hh.2).1
    omega
  · unfold Gr.plr Gr.ind Gr.alls
    rw [if_neg h, decide_eq_false h]
    refine Ev.step (fun k => ?_) (Ev.now _)
    rw [gradineref20_Place.l0, if_neg (by simp)]; simp
theorem same20 : Ev (fun k => gradinelaw20_same.f k) true := by
  refine Ev.congr (fun k => by rw [gradinelaw20_same.f]) (Ev.bind (walk_at _ 4) (Ev.bind (walk_all []) ?_))
  rw [show Gr.att [2, 3] 4 = ([1, 1], true) by decide, show Gr.alls [] = [[]] by decide]
  exact Ev.now _
end Go.Proofs.Ytpoldofghcmfnaa.S
namespace Go.Proofs.Ytpoldofghcmfnaa.Pure
open Go.RowKit Go.Proofs.Ytpoldofghcmfnaa.Q Go.Proofs.YtpoldofghcmfnaaW.PrintWords Go.Proofs.YtpoldofghcmfnaaW.PrintLast Go.Proofs.Ytpoldofghcmfnaa.S

theorem alls_len6 (d : List Int) : ∀ p ∈ Gr.alls d, p.length ≤ 6 := by
  intro p hp
  unfold Gr.alls at hp
  split at hp
  · rename_i h
    simp only [List.mem_map] at hp
    obtain ⟨n, _, rfl⟩ := hp
    rw [Gr.dig_length]; exact (Gr.chk_ok h).1
  · simp at hp
theorem tells_next (d r : List Int) : Ev (fun k => if (Gr.nxt d r).2 = true then (if 0 ≤ (wrap64 (Gr.plr d r + 1)) then (if (wrap64 (Gr.plr d r + 1)) < ((Gr.alls d).length : Int) then ((gradineplain_Ints.f k (Gr.nxt d r).1 (rd_L1 (Gr.alls d) (wrap64 (Gr.plr d r + 1)))).bind fun t => (if t = true then ((gradinelaw20_same.f k).bind fun t => (some t)) else (some false))) else (none)) else (none)) else (if ((Gr.nxt d r).1.length : Int) > 0 then (some false) else ((gradinelaw20_same.f k).bind fun t => (some t)))) true := by
  have hs : Ev (fun k => (gradinelaw20_same.f k).bind fun t => some t) true := Ev.bind same20 (Ev.now _)
  have hlen := Gr.alls_length d
  by_cases h : Gr.ind d r = true ∧ Gr.num d r + 1 < Gr.cnt d
  · have hi := h.1
    unfold Gr.ind at hi
    simp only [Bool.and_eq_true, decide_eq_true_eq] at hi
    obtain ⟨c1, c2, c3⟩ := Gr.cnt_ok hi.1
    have h0 := (Gr.num_lt d r (Gr.chk_ok hi.1).2.1 hi.2).1
    have ep : Gr.plr d r = Gr.num d r := by unfold Gr.plr; rw [if_pos h.1]
    have en : Gr.nxt d r = (Gr.dig d (Gr.num d r + 1), true) := by unfold Gr.nxt; rw [if_pos h]
    obtain ⟨m, hm⟩ := Int.eq_ofNat_of_zero_le (show 0 ≤ Gr.num d r + 1 by omega)
    have hml : m < (Gr.alls d).length := by omega
    rw [en, ep, w64 (by omega) (by omega), hm]
    simp only [if_true]
    have hi := ints_eq (a := Gr.dig d (m : Int)) (b := (Gr.alls d)[m]) (Gr.alls_get d m hml).symm (by rw [Gr.dig_length]; have := (Gr.chk_ok hi.1).1; omega)
    refine Ev.congr (fun k => by rw [if_pos (by omega), if_pos (by omega), rdl _ m hml]) (Ev.bind hi (Ev.congr (fun k => by rw [if_pos rfl]) hs))
  · have en : Gr.nxt d r = ([], false) := by unfold Gr.nxt; rw [if_neg h]
    rw [en]
    exact Ev.congr (fun k => by rw [if_neg (by simp), if_neg (by simp)]) hs
theorem tells_j (d r : List Int) (n : Int) : Ev (fun k => gradinelaw20_WalkTells.j1 k n (Gr.alls d) (Gr.att d n).1 (Gr.att d n).2 (Gr.nxt d r).1 (Gr.nxt d r).2 (Gr.plr d r) false) true := by
  have hlen := Gr.alls_length d
  by_cases h : 0 ≤ n ∧ n < Gr.cnt d
  · have ea : Gr.att d n = (Gr.dig d n, true) := by unfold Gr.att; rw [if_pos h]
    have hok : Gr.chk d = 0 := by
      apply Decidable.byContradiction
      intro hc; have := h.2; unfold Gr.cnt at this; rw [if_neg hc] at this; omega
    obtain ⟨m, rfl⟩ := Int.eq_ofNat_of_zero_le h.1
    have hml : m < (Gr.alls d).length := by omega
    have hi := ints_eq (a := Gr.dig d (m : Int)) (b := (Gr.alls d)[m]) (Gr.alls_get d m hml).symm (by rw [Gr.dig_length]; have := (Gr.chk_ok hok).1; omega)
    rw [ea]
    refine Ev.step (fun k => by rw [gradinelaw20_WalkTells.j1, if_neg (by simp), if_pos rfl, if_pos (by omega), if_pos (by omega), rdl _ m hml]) (Ev.bind hi ?_)
    exact Ev.congr (fun k => by rw [if_pos rfl]) (tells_next d r)
  · have ea : Gr.att d n = ([], false) := by unfold Gr.att; rw [if_neg h]
    rw [ea]
    refine Ev.step (fun k => ?_) (tells_next d r)
    rw [gradinelaw20_WalkTells.j1, if_neg (by simp), if_neg (by simp), if_neg (by simp)]
theorem WalkTells : gradinelaw20_WalkTells.Pure := by
  intro d r n _ _ _ _ _ _ hw
  refine Ev.rounds ?_
  have hs : Ev (fun k => (gradinelaw20_same.f k).bind fun t => some t) true := Ev.bind same20 (Ev.now _)
  by_cases h1 : (d.length : Int) > 100
  · exact Ev.congr (fun k => by rw [gradinelaw20_WalkTells.f, gradinelaw19_Many.f, if_pos h1, Option.bind_some, if_pos rfl]) hs
  · by_cases h2 : (r.length : Int) > 100
    · exact Ev.congr (fun k => by rw [gradinelaw20_WalkTells.f, gradinelaw19_Many.f, if_neg h1, Option.bind_some, if_pos (decide_eq_true h2)]) hs
    · refine Ev.congr (fun k => by rw [gradinelaw20_WalkTells.f, gradinelaw19_Many.f, if_neg h1, Option.bind_some, if_neg (by simpa using h2)]) ?_
      refine Ev.bind (ref_all d) (Ev.bind (walk_all d) ?_)
      refine Ev.congr (fun k => by rw [if_pos rfl]) ?_
      have hlen := Gr.alls_length d
      have h64 : (Gr.alls d).length ≤ 64 := by
        by_cases h : Gr.chk d = 0
        · have := (Gr.cnt_ok h).2.2; omega
        · unfold Gr.alls; rw [if_neg h]; simp
      have fin : Ev (fun k => gradinelaw20_WalkTells.l0 k d r n (Gr.alls d) (Gr.alls d) ((Gr.alls d).length : Int) (((Gr.alls d).length : Nat) : Int)) true := by
        have hj := tells_j d r n
        refine Ev.step (fun k => by rw [gradinelaw20_WalkTells.l0, if_neg (by omega)]) (Ev.bind (walk_at d n) (Ev.bind (walk_place d r) (Ev.bind (walk_next d r) (Ev.bind (ref_place20 d r) ?_))))
        have e1 : (Gr.plc d r).2 = decide (Gr.plr d r ≥ 0) ∧ (Gr.plc d r).1 = mx (Gr.plr d r) 0 ∧ (Gr.plr d r ≥ 0 → (Gr.nxt d r).2 = decide (Gr.plr d r < wrap64 (((Gr.alls d).length : Int) - 1))) ∧ (¬ Gr.plr d r ≥ 0 → (Gr.nxt d r).2 = false) := by
          by_cases h : Gr.ind d r = true
          · have hi := h
            unfold Gr.ind at hi
            simp only [Bool.and_eq_true, decide_eq_true_eq] at hi
            obtain ⟨c1, c2, c3⟩ := Gr.cnt_ok hi.1
            have h0 := (Gr.num_lt d r (Gr.chk_ok hi.1).2.1 hi.2).1
            have ep : Gr.plr d r = Gr.num d r := by unfold Gr.plr; rw [if_pos h]
            have ec : Gr.plc d r = (Gr.num d r, true) := by unfold Gr.plc; rw [if_pos h]
            rw [ec, ep]
            refine ⟨(decide_eq_true h0).symm, by unfold mx; omega, fun _ => ?_, fun hh => absurd h0 hh⟩
            rw [w64 (by omega) (by omega), hlen]
            unfold Gr.nxt
            by_cases hc : Gr.num d r + 1 < Gr.cnt d
            · rw [if_pos ⟨h, hc⟩, decide_eq_true (by omega)]
            · rw [if_neg (fun hh => hc hh.2), decide_eq_false (by omega)]
          · have ep : Gr.plr d r = -1 := by unfold Gr.plr; rw [if_neg h]
            have ec : Gr.plc d r = (0, false) := by unfold Gr.plc; rw [if_neg h]
            have en : Gr.nxt d r = ([], false) := by unfold Gr.nxt; rw [if_neg (fun hh => h hh.1)]
            rw [ec, ep, en]
            exact ⟨by decide, by decide, fun hh => absurd hh (by decide), fun _ => rfl⟩
        obtain ⟨q1, q2, q3, q4⟩ := e1
        have b1 : ((Gr.plc d r).2 != decide (Gr.plr d r ≥ 0)) = false := by rw [q1]; simp
        refine Ev.congr (fun k => ?_) hj
        by_cases hn : n ≥ 0
        · have a1 : ((Gr.att d n).2 != decide (n < ((Gr.alls d).length : Int))) = false := by
            rw [hlen]; unfold Gr.att
            by_cases hc : n < Gr.cnt d
            · rw [if_pos ⟨hn, hc⟩, decide_eq_true hc]; rfl
            · rw [if_neg (fun hh => hc hh.2), decide_eq_false hc]; rfl
          rw [if_pos hn, if_neg (by rw [a1]; simp), if_neg (by rw [b1]; simp), if_pos q2]
          by_cases hp : Gr.plr d r ≥ 0
          · rw [if_pos hp, q3 hp]; simp
          · rw [if_neg hp, q4 hp]; simp
        · have a1 : ((Gr.att d n).2 != false) = false := by
            unfold Gr.att; rw [if_neg (fun hh => hn hh.1)]; rfl
          rw [if_neg hn, if_neg (by rw [a1]; simp), if_neg (by rw [b1]; simp), if_pos q2]
          by_cases hp : Gr.plr d r ≥ 0
          · rw [if_pos hp, q3 hp]; simp
          · rw [if_neg hp, q4 hp]; simp
      refine down (fun i => Ev (fun k => gradinelaw20_WalkTells.l0 k d r n (Gr.alls d) (Gr.alls d) ((Gr.alls d).length : Int) (i : Int)) true) (Gr.alls d).length fin (fun i hi ih => ?_) 0 (by omega)
      have hi6 := alls_len6 d (Gr.alls d)[i] (List.getElem_mem hi)
      refine Ev.step (f := fun k => (gradineplain_Ints.f k (Gr.alls d)[i] (Gr.alls d)[i]).bind fun t384 => (if t384 = true then (gradinelaw20_WalkTells.l0 k d r n (Gr.alls d) (Gr.alls d) ((Gr.alls d).length : Int) ((i + 1 : Nat) : Int)) else (some false))) (fun k => ?_) (Ev.bind (ints_eq (a := (Gr.alls d)[i]) rfl (by omega)) (Ev.congr (fun k => by rw [if_pos rfl]) ih))
      rw [gradinelaw20_WalkTells.l0, if_pos (by omega), if_pos (by omega), if_pos (by omega), if_pos (by omega), rdl _ i hi, nx i _ hi (by omega)]

end Go.Proofs.Ytpoldofghcmfnaa.Pure
