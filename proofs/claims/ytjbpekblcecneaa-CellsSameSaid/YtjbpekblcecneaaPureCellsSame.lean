/- The law CellsSame: permuting and flipping keep the cells, and expanded views have cells of several elements. -/
import Derived.Test.YtjbpekblcecneaaQx0
import Derived.Test.YtjbpekblcecneaaQxfCellsList
import Derived.Test.YtjbpekblcecneaaQxfCellsOf
import Derived.Test.YtjbpekblcecneaaQxfCellsOnce
import Derived.Test.YtjbpekblcecneaaQxfCellsSpan
import Derived.Test.YtjbpekblcecneaaQxfCellsTimes
import Derived.Test.YtjbpekblcecneaaQxfLaw22Many
import Derived.Test.YtjbpekblcecneaaQxfLaw23CellsSame
import Derived.Test.YtjbpekblcecneaaQxfLaw23SameT
import Derived.Test.YtjbpekblcecneaaQxfLowViewRight
import Derived.Test.YtjbpekblcecneaaQxfRef19Check
import Derived.Test.YtjbpekblcecneaaQxfRef20All
import Derived.Test.YtjbpekblcecneaaQxfRef22Cells
import Derived.Test.YtjbpekblcecneaaQxfRef22Right
import Derived.Test.YtjbpekblcecneaaQxfShapeAxes
import Derived.Test.YtjbpekblcecneaaQxfShapeCheck
import Derived.Test.YtjbpekblcecneaaQxfShapeCount
import Derived.Test.YtjbpekblcecneaaQxfShapePerm
import Derived.Test.YtjbpekblcecneaaQxfShapeSame
import Derived.Test.YtjbpekblcecneaaQxfSlicesCloneIntInt
import Derived.Test.YtjbpekblcecneaaQxfSlicesEqualIntInt
import Derived.Test.YtjbpekblcecneaaQxfSpreadFits
import Derived.Test.YtjbpekblcecneaaQxfSpreadSize
import Derived.Test.YtjbpekblcecneaaQxfSpreadTwo
import Derived.Test.YtjbpekblcecneaaQxfViewAt
import Derived.Test.YtjbpekblcecneaaQxfViewCopied
import Derived.Test.YtjbpekblcecneaaQxfViewExpand
import Derived.Test.YtjbpekblcecneaaQxfViewFlip
import Derived.Test.YtjbpekblcecneaaQxfViewPermute
import Derived.Test.YtjbpekblcecneaaQxfViewReach
import Derived.Test.YtjbpekblcecneaaQxfViewRight
import Derived.Test.YtjbpekblcecneaaQxfWalkAt
import Derived.Test.YtjbpekblcecneaaMath
namespace Gr
/-- How many elements dims have; 0, if they may not be. -/
def cnt (d : List Int) : Int := if chk d = 0 then prod d else 0
/-- Products of what stands behind. -/
def stp : List Int → List Int
  | [] => []
  | _ :: l => prod l :: stp l
def steps (d : List Int) : List Int := if chk d = 0 then stp d else []
/-- Are axes such as may be, those of 'seen' being taken? -/
def axv (rank : Int) : List Int → List Int → Bool
  | _, [] => true
  | seen, a :: l => decide (0 ≤ a) && decide (a < rank) && !(seen.contains a) && axv rank (seen ++ [a]) l
def marks (rank : Nat) (l : List Int) : List Bool := (List.range rank).map fun i : Nat => l.contains (i : Int)
def mks (rank : Nat) (l : List Int) : List Bool := (List.range rank).map fun i : Nat => l.isEmpty || l.contains (i : Int)
def axs (rank : Int) (l : List Int) : List Bool × Int :=
  if rank < 0 ∨ 6 < rank then ([], 9) else if axv rank [] l = true then (mks rank.toNat l, 0) else ([], 10)
def drp (keep : Bool) : List Bool → List Int → List Int
  | m :: ms, x :: xs => if m = true then (if keep = true then 1 :: drp keep ms xs else drp keep ms xs) else x :: drp keep ms xs
  | _, _ => []
def drop (d axes : List Int) (keep : Bool) : List Int × Int :=
  if chk d = 0 then (if (axs d.length axes).2 = 0 then (drp keep (axs d.length axes).1 d, 0) else ([], (axs d.length axes).2)) else ([], chk d)
def at0 (l : List Int) (i : Int) : Int := l.getD i.toNat 0
def prm (d axes : List Int) : List Int := axes.map fun a => at0 d a
def perm (d axes : List Int) : List Int × Int :=
  if chk d = 0 then (if axes.length = d.length ∧ (axs d.length axes).2 = 0 then (prm d axes, 0) else ([], 10)) else ([], chk d)
theorem chk_ok {d : List Int} (h : chk d = 0) : d.length ≤ 6 ∧ (∀ x ∈ d, 1 ≤ x) ∧ prod d ≤ 64 := by
  unfold chk at h
  split at h
  · omega
  · rename_i h6
    split at h
    · omega
    · rename_i h1
      split at h
      · omega
      · rename_i h2
        refine ⟨by omega, fun x hx => ?_, by omega⟩
        rw [Bool.not_eq_true, List.any_eq_false] at h1
        have := h1 x hx
        simp at this
        omega
theorem ok_chk {d : List Int} (h6 : d.length ≤ 6) (h1 : ∀ x ∈ d, 1 ≤ x) (h2 : prod d ≤ 64) : chk d = 0 := by
  unfold chk
  rw [if_neg (by omega), if_neg, if_neg (by omega)]
  rw [Bool.not_eq_true, List.any_eq_false]
  intro x hx
  have := h1 x hx
  simp
  omega
theorem ok_le {d : List Int} (h : chk d = 0) : ∀ x ∈ d, x ≤ 64 := by
  obtain ⟨_, h1, h2⟩ := chk_ok h
  intro x hx
  obtain ⟨a, b, rfl⟩ := List.append_of_mem hx
  rw [prod_append] at h2
  simp only [prod] at h2
  have ha := prod_pos a (fun y hy => h1 y (by simp [hy]))
  have hb := prod_pos b (fun y hy => h1 y (by simp [hy]))
  have hx1 := h1 x (by simp)
  have h3 : 1 * (x * prod b) ≤ prod a * (x * prod b) := Int.mul_le_mul_of_nonneg_right ha (Int.mul_nonneg (by omega) (by omega))
  have h4 : x * 1 ≤ x * prod b := Int.mul_le_mul_of_nonneg_left hb (by omega)
  omega
theorem ok_take {d : List Int} (h : chk d = 0) (i : Nat) : chk (d.take i) = 0 := by
  obtain ⟨h6, h1, h2⟩ := chk_ok h
  have := prod_take_le d h1 i
  exact ok_chk (by simp; omega) (fun x hx => h1 x (List.mem_of_mem_take hx)) (by omega)
theorem cnt_ok {d : List Int} (h : chk d = 0) : cnt d = prod d ∧ 1 ≤ cnt d ∧ cnt d ≤ 64 := by
  obtain ⟨h6, h1, h2⟩ := chk_ok h
  have := prod_pos d h1
  unfold cnt
  rw [if_pos h]
  exact ⟨rfl, this, h2⟩
theorem prod_perm {a b : List Int} (h : a.Perm b) : prod a = prod b := by
  induction h with
  | nil => rfl
  | cons x _ ih => simp [prod, ih]
  | swap x y l => simp only [prod]; rw [← Int.mul_assoc, ← Int.mul_assoc, Int.mul_comm x y]
  | trans _ _ ih1 ih2 => rw [ih1, ih2]
theorem perm_of_sub {l m : List Int} (hl : l.Nodup) (h : ∀ x ∈ l, x ∈ m) (hn : m.length ≤ l.length) : l.Perm m := by
  induction l generalizing m with
  | nil =>
    have : m = [] := List.eq_nil_of_length_eq_zero (by simp at hn; simp [hn])
    rw [this]
  | cons a l ih =>
    have ha : a ∈ m := h a (by simp)
    have hp := List.perm_cons_erase ha
    rw [List.nodup_cons] at hl
    have hle : (m.erase a).length = m.length - 1 := List.length_erase_of_mem ha
    refine (List.Perm.cons a (ih hl.2 (fun x hx => ?_) (by simp at hn; omega))).trans hp.symm
    have hx2 := h x (by simp [hx])
    refine (List.mem_erase_of_ne (fun e => ?_)).2 hx2
    exact hl.1 (e ▸ hx)
theorem axv_nodup (r : Int) (s l : List Int) (h : axv r s l = true) : l.Nodup ∧ ∀ a ∈ l, a ∉ s := by
  induction l generalizing s with
  | nil => simp
  | cons x l ih =>
    simp only [axv, Bool.and_eq_true, Bool.not_eq_true', decide_eq_true_eq] at h
    obtain ⟨h1, h2⟩ := ih _ h.2
    have hx : x ∉ s := by
      have := h.1.2
      simpa using this
    refine ⟨List.nodup_cons.2 ⟨fun hm => ?_, h1⟩, fun a ha => ?_⟩
    · exact h2 x hm (by simp)
    · rcases List.mem_cons.1 ha with rfl | ha
      · exact hx
      · intro hs; exact h2 a ha (by simp [hs])
theorem axv_all (r : Int) (s l : List Int) (h : axv r s l = true) : ∀ a ∈ l, 0 ≤ a ∧ a < r := by
  induction l generalizing s with
  | nil => simp
  | cons x l ih =>
    simp only [axv, Bool.and_eq_true, decide_eq_true_eq] at h
    intro a ha
    rcases List.mem_cons.1 ha with rfl | ha
    · exact ⟨h.1.1.1, h.1.1.2⟩
    · exact ih _ h.2 a ha
theorem axs_axv {d l : List Int} (h : (axs d.length l).2 = 0) : axv d.length [] l = true := by
  unfold axs at h
  split at h
  · simp at h
  · split at h
    · rename_i h2; exact h2
    · simp at h
theorem at0_range (d : List Int) : ((List.range d.length).map fun i : Nat => at0 d (i : Int)) = d := by
  apply List.ext_getElem (by simp)
  intro i h1 h2
  simp [at0, List.getD_eq_getElem?_getD, List.getElem?_eq_getElem h2]
theorem axes_perm {d l : List Int} (h : (axs d.length l).2 = 0) (hl : l.length = d.length) : l.Perm ((List.range d.length).map fun i : Nat => (i : Int)) := by
  have hv := axs_axv h
  refine perm_of_sub (axv_nodup _ _ _ hv).1 (fun x hx => ?_) (by simp [hl])
  obtain ⟨h0, h1⟩ := axv_all _ _ _ hv x hx
  simp only [List.mem_map, List.mem_range]
  exact ⟨x.toNat, by omega, by omega⟩
theorem prm_perm {d l : List Int} (h : (axs d.length l).2 = 0) (hl : l.length = d.length) : (prm d l).Perm d := by
  have := (axes_perm h hl).map (fun a => at0 d a)
  rw [List.map_map] at this
  have e : ((fun a => at0 d a) ∘ fun i : Nat => (i : Int)) = fun i : Nat => at0 d (i : Int) := rfl
  rw [e, at0_range] at this
  exact this
theorem chk_perm {a b : List Int} (h : a.Perm b) (hb : chk b = 0) : chk a = 0 := by
  obtain ⟨h6, h1, h2⟩ := chk_ok hb
  refine ok_chk (by rw [h.length_eq]; exact h6) (fun x hx => h1 x (h.mem_iff.1 hx)) (by rw [prod_perm h]; exact h2)
/-- The place of the n-th element. -/
def dig : List Int → Int → List Int
  | [], _ => []
  | x :: l, n => n / prod l % x :: dig l n
/-- The number of a place. -/
def num : List Int → List Int → Int
  | _ :: d, a :: r => a * prod d + num d r
  | _, _ => 0
/-- Is it a place of these dims? -/
def inb : List Int → List Int → Bool
  | [], [] => true
  | x :: d, a :: r => decide (0 ≤ a) && decide (a < x) && inb d r
  | _, _ => false
def att (d : List Int) (n : Int) : List Int × Bool := if 0 ≤ n ∧ n < cnt d then (dig d n, true) else ([], false)
def alls (d : List Int) : List (List Int) := if chk d = 0 then (List.range (prod d).toNat).map fun n : Nat => dig d (n : Int) else []
theorem dig_length (d : List Int) (n : Int) : (dig d n).length = d.length := by
  induction d with
  | nil => rfl
  | cons x d ih => simp [dig, ih]
theorem num_dig (d : List Int) (h : ∀ x ∈ d, 1 ≤ x) (n : Int) : num d (dig d n) = n % prod d := by
  induction d with
  | nil => simp [num, prod, Int.emod_one]
  | cons x d ih =>
    have hx := h x (by simp)
    have hp := prod_pos d (fun y hy => h y (by simp [hy]))
    simp only [num, dig, prod]
    rw [ih (fun y hy => h y (by simp [hy]))]
    have e1 : x * prod d = prod d * x := Int.mul_comm ..
    have h1 := Int.emod_add_mul_ediv n (prod d)
    have h2 := Int.emod_add_mul_ediv (n / prod d) x
    have h3 : n = (n / prod d % x * prod d + n % prod d) + (x * prod d) * (n / prod d / x) := by
      have : prod d * (n / prod d) = prod d * (n / prod d % x) + prod d * (x * (n / prod d / x)) := by rw [← Int.mul_add, h2]
      rw [show (x * prod d) * (n / prod d / x) = prod d * (x * (n / prod d / x)) by rw [e1, Int.mul_assoc], Int.mul_comm (n / prod d % x)]
      omega
    have b1 := Int.emod_nonneg (n / prod d) (show x ≠ 0 by omega)
    have b2 := Int.emod_lt_of_pos (n / prod d) (show 0 < x by omega)
    have b3 := Int.emod_nonneg n (show prod d ≠ 0 by omega)
    have b4 := Int.emod_lt_of_pos n (show 0 < prod d by omega)
    have b5 : 0 ≤ n / prod d % x * prod d := Int.mul_nonneg b1 (by omega)
    have b6 : (n / prod d % x + 1) * prod d ≤ x * prod d := Int.mul_le_mul_of_nonneg_right (by omega) (by omega)
    rw [Int.add_mul] at b6
    have h4 := Int.add_mul_emod_self_left (n / prod d % x * prod d + n % prod d) (x * prod d) (n / prod d / x)
    rw [← h3] at h4
    rw [h4]
    exact (Int.emod_eq_of_lt (by omega) (by omega)).symm
theorem num_dig_lt (d : List Int) (h : ∀ x ∈ d, 1 ≤ x) (n : Int) (h0 : 0 ≤ n) (h1 : n < prod d) : num d (dig d n) = n := by
  rw [num_dig d h n, Int.emod_eq_of_lt h0 h1]
theorem inb_dig (d : List Int) (h : ∀ x ∈ d, 1 ≤ x) (n : Int) : inb d (dig d n) = true := by
  induction d with
  | nil => rfl
  | cons x d ih =>
    have hx := h x (by simp)
    simp only [inb, dig]
    rw [ih (fun y hy => h y (by simp [hy]))]
    have b1 := Int.emod_nonneg (n / prod d) (show x ≠ 0 by omega)
    have b2 := Int.emod_lt_of_pos (n / prod d) (show 0 < x by omega)
    simp [b1, b2]
theorem inb_length {d r : List Int} (h : inb d r = true) : r.length = d.length := by
  induction d generalizing r with
  | nil => cases r <;> simp_all [inb]
  | cons x d ih =>
    cases r with
    | nil => simp [inb] at h
    | cons a r =>
      simp only [inb, Bool.and_eq_true] at h
      simp [ih h.2]
theorem num_lt (d r : List Int) (h : ∀ x ∈ d, 1 ≤ x) (hi : inb d r = true) : 0 ≤ num d r ∧ num d r < prod d := by
  induction d generalizing r with
  | nil => cases r <;> simp [num, prod]
  | cons x d ih =>
    cases r with
    | nil => simp [inb] at hi
    | cons a r =>
      simp only [inb, Bool.and_eq_true, decide_eq_true_eq] at hi
      obtain ⟨i1, i2⟩ := ih r (fun y hy => h y (by simp [hy])) hi.2
      have hp := prod_pos d (fun y hy => h y (by simp [hy]))
      simp only [num, prod]
      have b5 : 0 ≤ a * prod d := Int.mul_nonneg hi.1.1 (by omega)
      have b6 : (a + 1) * prod d ≤ x * prod d := Int.mul_le_mul_of_nonneg_right (by omega) (by omega)
      rw [Int.add_mul] at b6
      omega
theorem dig_add (d : List Int) (h : ∀ x ∈ d, 1 ≤ x) (a m : Int) : dig d (a * prod d + m) = dig d m := by
  induction d generalizing a with
  | nil => rfl
  | cons y d ih =>
    have hy := h y (by simp)
    have hp := prod_pos d (fun z hz => h z (by simp [hz]))
    simp only [dig, prod]
    rw [show a * (y * prod d) = (a * y) * prod d by rw [Int.mul_assoc]]
    rw [ih (fun z hz => h z (by simp [hz])) (a * y)]
    rw [Int.add_comm ((a * y) * prod d) m, Int.add_mul_ediv_right _ _ (by omega), Int.mul_comm a y, Int.add_mul_emod_self_left]
theorem dig_num (d r : List Int) (h : ∀ x ∈ d, 1 ≤ x) (hi : inb d r = true) : dig d (num d r) = r := by
  induction d generalizing r with
  | nil => cases r <;> simp_all [inb, dig]
  | cons x d ih =>
    cases r with
    | nil => simp [inb] at hi
    | cons a r =>
      simp only [inb, Bool.and_eq_true, decide_eq_true_eq] at hi
      have hd : ∀ y ∈ d, 1 ≤ y := fun y hy => h y (by simp [hy])
      obtain ⟨i1, i2⟩ := num_lt d r hd hi.2
      have hp := prod_pos d hd
      simp only [num, dig]
      rw [dig_add d hd, ih r hd hi.2]
      rw [Int.add_comm, Int.add_mul_ediv_right _ _ (by omega), Int.ediv_eq_zero_of_lt i1 i2, Int.zero_add, Int.emod_eq_of_lt hi.1.1 hi.1.2]
theorem dig_snoc (p : List Int) (x : Int) (h : ∀ y ∈ p, 1 ≤ y) (hx : 1 ≤ x) (m : Int) : dig (p ++ [x]) m = dig p (m / x) ++ [m % x] := by
  induction p with
  | nil => simp [dig, prod]
  | cons y p ih =>
    simp only [List.cons_append, dig]
    rw [ih (fun z hz => h z (by simp [hz])), prod_append]
    simp only [prod, Int.mul_one]
    rw [Int.mul_comm (prod p) x, Int.ediv_ediv, if_neg (by omega), Int.sub_zero]
theorem range_mul {α : Type} (f : Nat → α) (P X : Nat) : (List.range (P * X)).map f = (List.range P).flatMap fun n => (List.range X).map fun v => f (n * X + v) := by
  induction P with
  | zero => simp
  | succ P ih =>
    rw [List.range_succ, List.flatMap_append, ← ih, Nat.succ_mul, List.range_add, List.map_append, List.map_map]
    simp only [List.flatMap_cons, List.flatMap_nil, List.append_nil]
    rfl
/-- All places of a prefix. -/
def pre (p : List Int) : List (List Int) := (List.range (prod p).toNat).map fun n : Nat => dig p (n : Int)
theorem pre_nil : pre [] = [[]] := by decide
theorem pre_snoc (p : List Int) (x : Int) (h : ∀ y ∈ p, 1 ≤ y) (hx : 1 ≤ x) : pre (p ++ [x]) = (pre p).flatMap fun q => (List.range x.toNat).map fun v : Nat => q ++ [(v : Int)] := by
  have hp := prod_pos p h
  unfold pre
  rw [prod_append]
  simp only [prod, Int.mul_one]
  rw [Int.toNat_mul (by omega) (by omega), range_mul, List.flatMap_map]
  congr 1
  funext n
  apply List.map_congr_left
  intro v hv
  rw [List.mem_range] at hv
  rw [dig_snoc p x h hx]
  have e : ((n * x.toNat + v : Nat) : Int) = (v : Int) + (n : Int) * x := by
    rw [Int.natCast_add, Int.natCast_mul, Int.toNat_of_nonneg (by omega)]; omega
  rw [e, Int.add_mul_ediv_right _ _ (by omega), Int.ediv_eq_zero_of_lt (by omega) (by omega), Int.zero_add, Int.add_mul_emod_self_right, Int.emod_eq_of_lt (by omega) (by omega)]
theorem pre_length (p : List Int) : (pre p).length = (prod p).toNat := by simp [pre]
theorem alls_ok {d : List Int} (h : chk d = 0) : alls d = pre d := by unfold alls; rw [if_pos h]; rfl
theorem alls_length (d : List Int) : ((alls d).length : Int) = cnt d := by
  unfold alls cnt
  split
  · rename_i h
    have := prod_pos d (chk_ok h).2.1
    simp; omega
  · rfl
theorem alls_get (d : List Int) (n : Nat) (h : n < (alls d).length) : (alls d)[n] = dig d (n : Int) := by
  unfold alls at h ⊢
  split
  · simp
  · rename_i hc; rw [if_neg hc] at h; simp at h
def mx (a b : Int) : Int := if a < b then b else a
/-- Dims with 1 ahead, n in all. -/
def pad (n : Nat) (l : List Int) : List Int := List.replicate (n - l.length) 1 ++ l
/-- Do they go together, one by one? -/
def fitz : List Int → List Int → Bool
  | x :: a, y :: b => (x == y || x == 1 || y == 1) && fitz a b
  | _, _ => true
def mxs : List Int → List Int → List Int
  | x :: a, y :: b => mx x y :: mxs a b
  | _, _ => []
def tw (p q : List Int) : List Int × Int := if fitz p q = true then (if chk (mxs p q) = 0 then (mxs p q, 0) else ([], chk (mxs p q))) else ([], 8)
def rank2 (a b : List Int) : Nat := max a.length b.length
def two (a b : List Int) : List Int × Int :=
  if chk a = 0 then (if chk b = 0 then tw (pad (rank2 a b) a) (pad (rank2 a b) b) else ([], chk b)) else ([], chk a)
def fts (a b : List Int) : Bool := decide ((two a b).2 = 0) && decide ((two a b).1 = b)
/-- The place that is spread to one. -/
def sat : List Int → List Int → List Int
  | x :: f, v :: q => (if x = 1 then 0 else v) :: sat f q
  | _, _ => []
def srcs (a b : List Int) : List Int := if fts a b = true then (alls b).map fun p => num a (sat a (p.drop (b.length - a.length))) else []
theorem pad_length (n : Nat) (l : List Int) (h : l.length ≤ n) : (pad n l).length = n := by simp [pad]; omega
theorem pad_self (l : List Int) : pad l.length l = l := by simp [pad]
theorem mxs_length (a b : List Int) (h : a.length = b.length) : (mxs a b).length = a.length := by
  induction a generalizing b with
  | nil => cases b <;> simp [mxs]
  | cons x a ih =>
    cases b with
    | nil => simp at h
    | cons y b => simp [mxs, ih b (by simpa using h)]
theorem fitz_drop (a b : List Int) (i : Nat) (h : fitz a b = true) : fitz (a.drop i) (b.drop i) = true := by
  induction i generalizing a b with
  | zero => simpa using h
  | succ i ih =>
    cases a with
    | nil => simp [fitz]
    | cons x a =>
      cases b with
      | nil => simp [fitz]
      | cons y b =>
        simp only [fitz, Bool.and_eq_true] at h
        simpa using ih a b h.2
theorem pad_at (n : Nat) (l : List Int) (h : l.length ≤ n) (i : Nat) (hi : i < n) :
    (pad n l)[i]'(by rw [pad_length n l h]; exact hi) = if h2 : n - l.length ≤ i then l[i - (n - l.length)]'(by omega) else 1 := by
  unfold pad
  split
  · rename_i h2
    rw [List.getElem_append_right (by simpa using h2)]
    simp
  · rename_i h2
    rw [List.getElem_append_left (by simp; omega)]
    simp
/-- f is 1 or t, everywhere. -/
def sub : List Int → List Int → Bool
  | x :: f, y :: t => (x == 1 || x == y) && sub f t
  | [], [] => true
  | _, _ => false
theorem sub_iff (f t : List Int) (hl : f.length = t.length) (hf : ∀ x ∈ f, 1 ≤ x) (ht : ∀ x ∈ t, 1 ≤ x) : sub f t = true ↔ fitz f t = true ∧ mxs f t = t := by
  induction f generalizing t with
  | nil => cases t <;> simp_all [sub, fitz, mxs]
  | cons x f ih =>
    cases t with
    | nil => simp at hl
    | cons y t =>
      have h1 := hf x (by simp)
      have h2 := ht y (by simp)
      have := ih t (by simpa using hl) (fun z hz => hf z (by simp [hz])) (fun z hz => ht z (by simp [hz]))
      simp only [sub, fitz, mxs, Bool.and_eq_true, Bool.or_eq_true, beq_iff_eq, List.cons.injEq, this]
      constructor
      · rintro ⟨h | h, h3, h4⟩
        · exact ⟨⟨.inl (.inr h), h3⟩, by unfold mx; split <;> omega, h4⟩
        · exact ⟨⟨.inl (.inl h), h3⟩, by unfold mx; split <;> omega, h4⟩
      · rintro ⟨⟨h, h3⟩, h5, h4⟩
        unfold mx at h5
        refine ⟨?_, h3, h4⟩
        split at h5
        · rcases h with (h | h) | h
          · exact .inr h
          · exact .inl h
          · omega
        · exact .inr h5
theorem pad_pos (n : Nat) (l : List Int) (h : ∀ x ∈ l, 1 ≤ x) : ∀ x ∈ pad n l, 1 ≤ x := by
  intro x hx
  unfold pad at hx
  rcases List.mem_append.1 hx with hx | hx
  · have := List.eq_of_mem_replicate hx; omega
  · exact h x hx
/-- What 'fits' says. -/
theorem fts_iff (a b : List Int) : fts a b = true ↔ chk a = 0 ∧ chk b = 0 ∧ a.length ≤ b.length ∧ sub (pad b.length a) b = true := by
  unfold fts
  simp only [Bool.and_eq_true, decide_eq_true_eq]
  constructor
  · rintro ⟨h1, h2⟩
    unfold two at h1 h2
    split at h1
    · rename_i ha
      rw [if_pos ha] at h2
      split at h1
      · rename_i hb
        rw [if_pos hb] at h2
        unfold tw at h1 h2
        split at h1
        · rename_i hf
          rw [if_pos hf] at h2
          split at h1
          · rename_i hc
            rw [if_pos hc] at h2
            simp only at h2
            have hl := mxs_length (pad (rank2 a b) a) (pad (rank2 a b) b) (by rw [pad_length, pad_length] <;> unfold rank2 <;> omega)
            rw [h2, pad_length _ _ (by unfold rank2; omega)] at hl
            have hle : a.length ≤ b.length := by unfold rank2 at hl; omega
            rw [← hl, pad_self] at hf h2
            refine ⟨ha, hb, hle, (sub_iff _ _ (pad_length _ _ hle) (pad_pos _ _ (chk_ok ha).2.1) (chk_ok hb).2.1).2 ⟨hf, h2⟩⟩
          · rename_i hc; exact absurd h1 hc
        · simp at h1
      · rename_i hb; exact absurd h1 hb
    · rename_i ha; exact absurd h1 ha
  · rintro ⟨ha, hb, hle, hs⟩
    obtain ⟨s1, s2⟩ := (sub_iff _ _ (pad_length _ _ hle) (pad_pos _ _ (chk_ok ha).2.1) (chk_ok hb).2.1).1 hs
    have e : two a b = (b, 0) := by
      unfold two
      have hr : rank2 a b = b.length := by unfold rank2; omega
      rw [if_pos ha, if_pos hb, hr, pad_self]
      unfold tw
      rw [if_pos s1, s2, if_pos hb]
    rw [e]; exact ⟨rfl, rfl⟩
theorem sub_drop {f t : List Int} (h : sub f t = true) (i : Nat) : sub (f.drop i) (t.drop i) = true := by
  induction i generalizing f t with
  | zero => simpa using h
  | succ i ih =>
    cases f with
    | nil => cases t <;> simp_all [sub]
    | cons x f =>
      cases t with
      | nil => simp [sub] at h
      | cons y t =>
        simp only [sub, Bool.and_eq_true] at h
        simpa using ih h.2
theorem pad_drop (n : Nat) (l : List Int) : (pad n l).drop (n - l.length) = l := by
  unfold pad
  rw [List.drop_append_of_le_length (by simp)]
  simp
theorem inb_sat (f t q : List Int) (hs : sub f t = true) (hf : ∀ x ∈ f, 1 ≤ x) (hq : inb t q = true) : inb f (sat f q) = true := by
  induction f generalizing t q with
  | nil => cases t <;> cases q <;> simp_all [sub, inb, sat]
  | cons x f ih =>
    cases t with
    | nil => simp [sub] at hs
    | cons y t =>
      cases q with
      | nil => simp [inb] at hq
      | cons v q =>
        have h1 := hf x (by simp)
        simp only [sub, Bool.and_eq_true, Bool.or_eq_true, beq_iff_eq] at hs
        simp only [inb, Bool.and_eq_true, decide_eq_true_eq] at hq
        simp only [inb, sat, Bool.and_eq_true, decide_eq_true_eq]
        refine ⟨?_, ih t q hs.2 (fun z hz => hf z (by simp [hz])) hq.2⟩
        split <;> omega
theorem inb_dropn (d r : List Int) (h : inb d r = true) (i : Nat) : inb (d.drop i) (r.drop i) = true := by
  induction i generalizing d r with
  | zero => simpa using h
  | succ i ih =>
    cases d with
    | nil => cases r <;> simp_all [inb]
    | cons x d =>
      cases r with
      | nil => simp [inb] at h
      | cons a r =>
        simp only [inb, Bool.and_eq_true] at h
        simpa using ih d r h.2
theorem dig_inj {d : List Int} (h : ∀ x ∈ d, 1 ≤ x) {n m : Int} (hn : 0 ≤ n) (hn2 : n < prod d) (hm : 0 ≤ m) (hm2 : m < prod d) (e : dig d n = dig d m) : n = m := by
  rw [← num_dig_lt d h n hn hn2, e, num_dig_lt d h m hm hm2]
/-- How far a place lies from a view's first element. -/
def ofs : List Int → List Int → Int
  | a :: p, t :: s => a * t + ofs p s
  | _, _ => 0
/-- Are the steps such as may be in a room? -/
def sok (room : Int) : List Int → List Int → Bool
  | x :: d, t :: s => (decide (x ≤ 1) || (decide (-room < t) && decide (t < room))) && sok room d s
  | _, _ => true
def low : List Int → List Int → Int
  | x :: d, t :: s => (if (x - 1) * t < 0 then (x - 1) * t else 0) + low d s
  | _, _ => 0
def hgh : List Int → List Int → Int
  | x :: d, t :: s => (if (x - 1) * t < 0 then 0 else (x - 1) * t) + hgh d s
  | _, _ => 0
/-- All but the range of the cells. -/
abbrev vok (o : Int) (d s : List Int) (room : Int) : Prop := chk d = 0 ∧ s.length = d.length ∧ room ≤ 64 ∧ 0 ≤ o ∧ o < room ∧ sok room d s = true
def rgt (o : Int) (d s : List Int) (room : Int) : Bool := decide (vok o d s room) && decide (0 ≤ o + low d s) && decide (o + hgh d s < room)
def cls (o : Int) (d s : List Int) (room : Int) : List Int := if rgt o d s room = true then (alls d).map fun p => o + ofs p s else []
/-- The n-th element's cell. -/
def vat (o : Int) (d s : List Int) (n : Int) : Int × Bool := if rgt o d s 64 = true ∧ 0 ≤ n ∧ n < cnt d then (o + ofs (dig d n) s, true) else (0, false)
theorem mem_alls {d : List Int} (h : chk d = 0) {p : List Int} : p ∈ alls d ↔ inb d p = true := by
  obtain ⟨h6, h1, h2⟩ := chk_ok h
  rw [alls_ok h]
  unfold pre
  rw [List.mem_map]
  constructor
  · rintro ⟨n, _, rfl⟩; exact inb_dig d h1 _
  · intro hi
    obtain ⟨q1, q2⟩ := num_lt d p h1 hi
    refine ⟨(num d p).toNat, ?_, ?_⟩
    · rw [List.mem_range]; omega
    · rw [Int.toNat_of_nonneg q1]; exact dig_num d p h1 hi
theorem mul_between {a x t : Int} (h0 : 0 ≤ a) (h1 : a ≤ x - 1) : (if (x - 1) * t < 0 then (x - 1) * t else 0) ≤ a * t ∧ a * t ≤ (if (x - 1) * t < 0 then 0 else (x - 1) * t) := by
  rcases Int.lt_or_le t 0 with ht | ht
  · have e1 : (x - 1) * t ≤ a * t := Int.mul_le_mul_of_nonpos_right h1 (by omega)
    have e2 : a * t ≤ 0 := Int.mul_nonpos_of_nonneg_of_nonpos h0 (by omega)
    split <;> omega
  · have e1 : a * t ≤ (x - 1) * t := Int.mul_le_mul_of_nonneg_right h1 ht
    have e2 : 0 ≤ a * t := Int.mul_nonneg h0 ht
    split <;> omega
theorem ofs_between (d s p : List Int) (hi : inb d p = true) : low d s ≤ ofs p s ∧ ofs p s ≤ hgh d s := by
  induction d generalizing s p with
  | nil => cases p <;> simp_all [inb, ofs, low, hgh]
  | cons x d ih =>
    cases p with
    | nil => simp [inb] at hi
    | cons a p =>
      simp only [inb, Bool.and_eq_true, decide_eq_true_eq] at hi
      cases s with
      | nil => simp [ofs, low, hgh]
      | cons t s =>
        obtain ⟨i1, i2⟩ := ih s p hi.2
        obtain ⟨j1, j2⟩ := mul_between (t := t) hi.1.1 (show a ≤ x - 1 by omega)
        simp only [ofs, low, hgh]
        omega
/-- The place of the lowest cell, and that of the highest one. -/
def lop : List Int → List Int → List Int
  | x :: d, t :: s => (if (x - 1) * t < 0 then x - 1 else 0) :: lop d s
  | _ :: d, [] => 0 :: lop d []
  | [], _ => []
def hip : List Int → List Int → List Int
  | x :: d, t :: s => (if (x - 1) * t < 0 then 0 else x - 1) :: hip d s
  | _ :: d, [] => 0 :: hip d []
  | [], _ => []
theorem lop_ok (d s : List Int) (h : ∀ x ∈ d, 1 ≤ x) : inb d (lop d s) = true ∧ ofs (lop d s) s = low d s := by
  induction d generalizing s with
  | nil => simp [lop, inb, ofs, low]
  | cons x d ih =>
    have hx := h x (by simp)
    cases s with
    | nil =>
      obtain ⟨i1, _⟩ := ih [] (fun y hy => h y (by simp [hy]))
      refine ⟨?_, by simp [lop, ofs, low]⟩
      simp [lop, inb, i1]; omega
    | cons t s =>
      obtain ⟨i1, i2⟩ := ih s (fun y hy => h y (by simp [hy]))
      simp only [lop, inb, ofs, low, i1, i2, Bool.and_true, Bool.and_eq_true, decide_eq_true_eq]
      split
      · exact ⟨⟨by omega, by omega⟩, rfl⟩
      · exact ⟨⟨by omega, by omega⟩, by simp⟩
theorem hip_ok (d s : List Int) (h : ∀ x ∈ d, 1 ≤ x) : inb d (hip d s) = true ∧ ofs (hip d s) s = hgh d s := by
  induction d generalizing s with
  | nil => simp [hip, inb, ofs, hgh]
  | cons x d ih =>
    have hx := h x (by simp)
    cases s with
    | nil =>
      obtain ⟨i1, _⟩ := ih [] (fun y hy => h y (by simp [hy]))
      refine ⟨?_, by simp [hip, ofs, hgh]⟩
      simp [hip, inb, i1]; omega
    | cons t s =>
      obtain ⟨i1, i2⟩ := ih s (fun y hy => h y (by simp [hy]))
      simp only [hip, inb, ofs, hgh, i1, i2, Bool.and_true, Bool.and_eq_true, decide_eq_true_eq]
      split
      · exact ⟨⟨by omega, by omega⟩, by simp⟩
      · exact ⟨⟨by omega, by omega⟩, rfl⟩
/-- All cells lie in the room just where the lowest and the highest do. -/
theorem range_iff {d : List Int} (h : chk d = 0) (o room : Int) (s : List Int) : (∀ p ∈ alls d, 0 ≤ o + ofs p s ∧ o + ofs p s < room) ↔ 0 ≤ o + low d s ∧ o + hgh d s < room := by
  have h1 := (chk_ok h).2.1
  constructor
  · intro ha
    obtain ⟨l1, l2⟩ := lop_ok d s h1
    obtain ⟨u1, u2⟩ := hip_ok d s h1
    have a1 := ha _ ((mem_alls h).2 l1)
    have a2 := ha _ ((mem_alls h).2 u1)
    rw [l2] at a1; rw [u2] at a2
    exact ⟨a1.1, a2.2⟩
  · rintro ⟨hl, hh⟩ p hp
    obtain ⟨i1, i2⟩ := ofs_between d s p ((mem_alls h).1 hp)
    omega
theorem rgt_iff {o : Int} {d s : List Int} {room : Int} (hv : vok o d s room) : rgt o d s room = true ↔ ∀ p ∈ alls d, 0 ≤ o + ofs p s ∧ o + ofs p s < room := by
  rw [range_iff hv.1]
  unfold rgt
  simp [hv]
theorem rgt_ok {o : Int} {d s : List Int} {room : Int} (h : rgt o d s room = true) : vok o d s room ∧ 0 ≤ o + low d s ∧ o + hgh d s < room := by
  unfold rgt at h
  simpa [and_assoc] using h
theorem sok_get {r : Int} {d s : List Int} (h : sok r d s = true) : ∀ i, (hd : i < d.length) → (hs : i < s.length) → d[i] ≤ 1 ∨ (-r < s[i] ∧ s[i] < r) := by
  induction d generalizing s with
  | nil => intro i hd; simp at hd
  | cons x d ih =>
    cases s with
    | nil => intro i _ hs; simp at hs
    | cons t s =>
      simp only [sok, Bool.and_eq_true, Bool.or_eq_true, decide_eq_true_eq] at h
      intro i hd hs
      cases i with
      | zero => exact h.1
      | succ i => exact ih h.2 i (by simpa using hd) (by simpa using hs)
theorem cls_ok {o : Int} {d s : List Int} {room : Int} (h : rgt o d s room = true) : cls o d s room = (alls d).map fun p => o + ofs p s := by unfold cls; rw [if_pos h]
theorem cls_none {o : Int} {d s : List Int} {room : Int} (h : ¬ rgt o d s room = true) : cls o d s room = [] := by unfold cls; rw [if_neg h]
theorem cls_length (o : Int) (d s : List Int) (room : Int) : ((cls o d s room).length : Int) = if rgt o d s room = true then cnt d else 0 := by
  unfold cls
  split
  · rw [List.length_map, alls_length]
  · rfl
theorem cls_pos (o : Int) (d s : List Int) (room : Int) : (0 < (cls o d s room).length) ↔ rgt o d s room = true := by
  have := cls_length o d s room
  constructor
  · intro h; apply Decidable.byContradiction; intro hc; rw [if_neg hc] at this; omega
  · intro h; rw [if_pos h] at this; have := (cnt_ok (rgt_ok h).1.1).2.1; omega
theorem cls_get {o : Int} {d s : List Int} {room : Int} (h : rgt o d s room = true) (n : Nat) (hn : n < (cls o d s room).length) : (cls o d s room)[n] = o + ofs (dig d (n : Int)) s := by
  have e := cls_ok h
  have hn' : n < (alls d).length := by rw [e, List.length_map] at hn; exact hn
  have : (cls o d s room)[n] = ((alls d).map fun p => o + ofs p s)[n]'(by rw [List.length_map]; exact hn') := by simp only [e]
  rw [this, List.getElem_map, alls_get d n hn']
theorem ofs_dig0 (d s : List Int) (h : ∀ x ∈ d, 1 ≤ x) : ofs (dig d 0) s = 0 := by
  induction d generalizing s with
  | nil => simp [dig, ofs]
  | cons x d ih =>
    cases s with
    | nil => simp [ofs]
    | cons t s => simp [dig, ofs, ih s (fun y hy => h y (by simp [hy]))]
/-- Cells in a room say that the steps are such as may be. -/
theorem sok_of_cells (o r : Int) (d s : List Int) (h : ∀ x ∈ d, 1 ≤ x) (hl : s.length = d.length) (hc : ∀ p, inb d p = true → 0 ≤ o + ofs p s ∧ o + ofs p s < r) : sok r d s = true := by
  induction d generalizing s with
  | nil => cases s <;> rfl
  | cons x d ih =>
    cases s with
    | nil => simp at hl
    | cons t s =>
      have hx := h x (by simp)
      have hd : ∀ y ∈ d, 1 ≤ y := fun y hy => h y (by simp [hy])
      simp only [sok, Bool.and_eq_true, Bool.or_eq_true, decide_eq_true_eq]
      constructor
      · rcases Int.lt_or_le 1 x with hx2 | hx2
        · right
          have a0 := hc (0 :: dig d 0) (by simp [inb, inb_dig d hd 0]; omega)
          have a1 := hc (1 :: dig d 0) (by simp [inb, inb_dig d hd 0]; omega)
          simp only [ofs, ofs_dig0 d s hd] at a0 a1
          omega
        · left; exact hx2
      · refine ih s hd (by simpa using hl) (fun p hp => ?_)
        have := hc (0 :: p) (by simp [inb, hp]; omega)
        simp only [ofs, Int.zero_mul, Int.zero_add] at this
        exact this
/-- A view is right just where its cells lie in the room. -/
theorem rgt_cells (o : Int) (d s : List Int) (r : Int) : rgt o d s r = true ↔ chk d = 0 ∧ s.length = d.length ∧ r ≤ 64 ∧ ∀ p, inb d p = true → 0 ≤ o + ofs p s ∧ o + ofs p s < r := by
  constructor
  · intro h
    obtain ⟨hv, _, _⟩ := rgt_ok h
    exact ⟨hv.1, hv.2.1, hv.2.2.1, fun p hp => (rgt_iff hv).1 h p ((mem_alls hv.1).2 hp)⟩
  · rintro ⟨h1, h2, h3, h4⟩
    have hd := (chk_ok h1).2.1
    have h0 := h4 (dig d 0) (inb_dig d hd 0)
    rw [ofs_dig0 d s hd, Int.add_zero] at h0
    have hv : vok o d s r := ⟨h1, h2, h3, h0.1, h0.2, sok_of_cells o r d s hd h2 h4⟩
    exact (rgt_iff hv).2 (fun p hp => h4 p ((mem_alls h1).1 hp))
/-- A view whose elements are elements of another one. -/
theorem rgt_sub {o o' : Int} {d d' s s' : List Int} {r : Int} (h : rgt o d s r = true) (hc : chk d' = 0) (hl : s'.length = d'.length) (hp : ∀ p, inb d' p = true → ∃ q, inb d q = true ∧ o' + ofs p s' = o + ofs q s) : rgt o' d' s' r = true := by
  obtain ⟨_, _, h3, h4⟩ := (rgt_cells _ _ _ _).1 h
  refine (rgt_cells _ _ _ _).2 ⟨hc, hl, h3, fun p hi => ?_⟩
  obtain ⟨q, hq, e⟩ := hp p hi
  rw [e]; exact h4 q hq
theorem ofs_set (p s : List Int) (i : Nat) (h : i < p.length) (hs : i < s.length) (a t : Int) : ofs (p.set i a) (s.set i t) = ofs p s - p[i] * s[i] + a * t := by
  induction p generalizing s i with
  | nil => simp at h
  | cons b p ih =>
    cases s with
    | nil => simp at hs
    | cons u s =>
      cases i with
      | zero => simp [ofs]; omega
      | succ i =>
        have := ih s i (by simpa using h) (by simpa using hs)
        simp only [List.set_cons_succ, ofs, List.getElem_cons_succ, this]
        omega
theorem inb_set (d p : List Int) (hi : inb d p = true) (i : Nat) (h : i < d.length) (hp : i < p.length) (a : Int) (h0 : 0 ≤ a) (h1 : a < d[i]) : inb d (p.set i a) = true := by
  induction d generalizing p i with
  | nil => simp at h
  | cons x d ih =>
    cases p with
    | nil => simp [inb] at hi
    | cons b p =>
      simp only [inb, Bool.and_eq_true, decide_eq_true_eq] at hi
      cases i with
      | zero => simp only [List.set_cons_zero, inb, Bool.and_eq_true, decide_eq_true_eq]; exact ⟨⟨h0, by simpa using h1⟩, hi.2⟩
      | succ i =>
        have := ih p hi.2 i (by simpa using h) (by simpa using hp) (by simpa using h1)
        simp only [List.set_cons_succ, inb, Bool.and_eq_true, decide_eq_true_eq]; exact ⟨hi.1, this⟩
theorem inb_get {d p : List Int} (hi : inb d p = true) (i : Nat) (h : i < d.length) (hp : i < p.length) : 0 ≤ p[i] ∧ p[i] < d[i] := by
  induction d generalizing p i with
  | nil => simp at h
  | cons x d ih =>
    cases p with
    | nil => simp [inb] at hi
    | cons b p =>
      simp only [inb, Bool.and_eq_true, decide_eq_true_eq] at hi
      cases i with
      | zero => exact hi.1
      | succ i => exact ih hi.2 i (by simpa using h) (by simpa using hp)
/-- Flip: offset, dims, steps, error. -/
def flp (o : Int) (d s : List Int) (a : Int) : Int × List Int × List Int × Int :=
  if rgt o d s 64 = true then (if a < 0 ∨ (d.length : Int) ≤ a then (0, [], [], 10) else if 1 < at0 d a then (o + (at0 d a - 1) * at0 s a, d, s.set a.toNat (-(at0 s a)), 0) else (o, d, s, 0)) else (0, [], [], 1)
theorem flp_ofs (o : Int) (d s p : List Int) (i : Nat) (h : i < d.length) (hs : s.length = d.length) (hi : inb d p = true) :
    o + (at0 d (i : Int) - 1) * at0 s (i : Int) + ofs p (s.set i (-(at0 s (i : Int)))) = o + ofs (p.set i (at0 d (i : Int) - 1 - at0 p (i : Int))) s := by
  have hp := inb_length hi
  have e1 := ofs_set p s i (by omega) (by omega) p[i] (-(at0 s (i : Int)))
  have e2 := ofs_set p s i (by omega) (by omega) (at0 d (i : Int) - 1 - at0 p (i : Int)) s[i]
  rw [List.set_getElem_self] at e1 e2
  have a1 : at0 s (i : Int) = s[i] := by simp [at0, List.getD_eq_getElem?_getD, List.getElem?_eq_getElem (show i < s.length by omega)]
  have a2 : at0 p (i : Int) = p[i] := by simp [at0, List.getD_eq_getElem?_getD, List.getElem?_eq_getElem (show i < p.length by omega)]
  rw [e1, e2, a1, a2, Int.sub_mul (at0 d (i : Int) - 1), Int.mul_neg]
  omega
def pmt (o : Int) (d s axes : List Int) : Int × List Int × List Int × Int :=
  if rgt o d s 64 = true then (if (perm d axes).2 = 0 then (o, prm d axes, prm s axes, 0) else (0, [], [], (perm d axes).2)) else (0, [], [], 1)
theorem at0_get (l : List Int) (i : Nat) (h : i < l.length) : at0 l (i : Int) = l[i] := by
  simp [at0, List.getD_eq_getElem?_getD, List.getElem?_eq_getElem h]
theorem at0_set_same (l : List Int) (i : Nat) (h : i < l.length) (x : Int) : at0 (l.set i x) (i : Int) = x := by
  rw [at0_get _ _ (by simpa using h), List.getElem_set_self]
theorem at0_set_other (l : List Int) (i j : Nat) (h : i ≠ j) (x : Int) : at0 (l.set i x) (j : Int) = at0 l (j : Int) := by
  simp [at0, List.getD_eq_getElem?_getD, List.getElem?_set_ne h]
theorem at0_ext {a b : List Int} (hl : a.length = b.length) (h : ∀ j : Nat, j < a.length → at0 a (j : Int) = at0 b (j : Int)) : a = b := by
  apply List.ext_getElem hl
  intro j h1 h2
  have := h j h1
  rwa [at0_get _ _ h1, at0_get _ _ h2] at this
theorem prm_length (d l : List Int) : (prm d l).length = l.length := by simp [prm]
theorem at0_prm (d l : List Int) (k : Nat) (h : k < l.length) : at0 (prm d l) (k : Int) = at0 d (at0 l (k : Int)) := by
  rw [at0_get _ _ (by rw [prm_length]; exact h), at0_get _ _ h]
  simp [prm]
theorem inb_iff (d p : List Int) : inb d p = true ↔ p.length = d.length ∧ ∀ j : Nat, j < d.length → 0 ≤ at0 p (j : Int) ∧ at0 p (j : Int) < at0 d (j : Int) := by
  constructor
  · intro h
    have hl := inb_length h
    refine ⟨hl, fun j hj => ?_⟩
    rw [at0_get p j (by omega), at0_get d j hj]
    exact inb_get h j hj (by omega)
  · rintro ⟨hl, h⟩
    induction d generalizing p with
    | nil => cases p <;> simp_all [inb]
    | cons x d ih =>
      cases p with
      | nil => simp at hl
      | cons a p =>
        have h0 := h 0 (by simp)
        simp [at0] at h0
        simp only [inb, Bool.and_eq_true, decide_eq_true_eq]
        refine ⟨h0, ih p (by simpa using hl) (fun j hj => ?_)⟩
        have := h (j + 1) (by simpa using hj)
        simpa [at0] using this
/-- A permutation of the axes. -/
structure Pm (l : List Int) : Prop where
  nodup : l.Nodup
  range : ∀ a ∈ l, 0 ≤ a ∧ a < (l.length : Int)
  all : ∀ j : Nat, j < l.length → (j : Int) ∈ l
theorem pm_of {d l : List Int} (h : (axs d.length l).2 = 0) (hl : l.length = d.length) : Pm l := by
  have hv := axs_axv h
  have hp := axes_perm h hl
  refine ⟨(axv_nodup _ _ _ hv).1, fun a ha => ?_, fun j hj => ?_⟩
  · have := axv_all _ _ _ hv a ha; rw [hl]; exact this
  · rw [hp.mem_iff]
    simp only [List.mem_map, List.mem_range]
    exact ⟨j, by omega, rfl⟩
theorem pm_perm {l : List Int} (h : Pm l) : l.Perm ((List.range l.length).map fun i : Nat => (i : Int)) :=
  perm_of_sub h.nodup (fun x hx => by
    obtain ⟨h0, h1⟩ := h.range x hx
    simp only [List.mem_map, List.mem_range]
    exact ⟨x.toNat, by omega, by omega⟩) (by simp)
/-- Axes put back: one after the other. -/
def bks (n : Nat) : List Int → Nat → List Int → List Int
  | [], _, out => out
  | a :: l, i, out => bks n l (i + 1) (if 0 ≤ a ∧ a < (n : Int) then out.set a.toNat (i : Int) else out)
def bk (l : List Int) : List Int := bks l.length l 0 (List.replicate l.length 0)
theorem bks_length (n : Nat) (l : List Int) (i : Nat) (out : List Int) : (bks n l i out).length = out.length := by
  induction l generalizing i out with
  | nil => rfl
  | cons a l ih => rw [bks, ih]; split <;> simp
theorem bk_length (l : List Int) : (bk l).length = l.length := by unfold bk; rw [bks_length]; simp
theorem bks_other (n : Nat) (l : List Int) (i : Nat) (out : List Int) (j : Nat) (h : (j : Int) ∉ l) : at0 (bks n l i out) (j : Int) = at0 out (j : Int) := by
  induction l generalizing i out with
  | nil => rfl
  | cons a l ih =>
    rw [bks, ih _ _ (fun hm => h (by simp [hm]))]
    split
    · rename_i ha
      exact at0_set_other _ _ _ (fun e => h (by simp; omega)) _
    · rfl
theorem bks_at (n : Nat) (l : List Int) (hd : l.Nodup) (hr : ∀ a ∈ l, 0 ≤ a ∧ a < (n : Int)) (i : Nat) (out : List Int) (ho : out.length = n) : ∀ m, (h : m < l.length) → at0 (bks n l i out) l[m] = ((i + m : Nat) : Int) := by
  induction l generalizing i out with
  | nil => intro m h; simp at h
  | cons a l ih =>
    rw [List.nodup_cons] at hd
    have ha := hr a (by simp)
    intro m h
    rw [bks, if_pos ha]
    cases m with
    | zero =>
      simp only [List.getElem_cons_zero, Nat.add_zero]
      obtain ⟨j, rfl⟩ := Int.eq_ofNat_of_zero_le ha.1
      rw [bks_other _ _ _ _ _ hd.1, Int.toNat_natCast, at0_set_same _ _ (by omega)]
    | succ m =>
      rw [List.getElem_cons_succ, ih hd.2 (fun x hx => hr x (by simp [hx])) (i + 1) _ (by simp [ho]) m (by simpa using h)]
      rw [show i + 1 + m = i + (m + 1) by omega]
theorem bk_at {l : List Int} (h : Pm l) (m : Nat) (hm : m < l.length) : at0 (bk l) (at0 l (m : Int)) = (m : Int) := by
  rw [at0_get l m hm]
  have := bks_at l.length l h.nodup h.range 0 (List.replicate l.length 0) (by simp) m hm
  rw [Nat.zero_add] at this
  exact this
theorem pm_back {l : List Int} (h : Pm l) (j : Nat) (hj : j < l.length) : ∃ m : Nat, m < l.length ∧ at0 l (m : Int) = (j : Int) ∧ at0 (bk l) (j : Int) = (m : Int) := by
  obtain ⟨m, hm, e⟩ := List.getElem_of_mem (h.all j hj)
  have e' : at0 l (m : Int) = (j : Int) := by rw [at0_get l m hm]; exact e
  exact ⟨m, hm, e', by rw [← e', bk_at h m hm]⟩
theorem bk_prm {l : List Int} (h : Pm l) (x : List Int) (hx : x.length = l.length) : prm (prm x (bk l)) l = x := by
  apply at0_ext (by rw [prm_length, hx])
  intro m hm
  rw [prm_length] at hm
  have hr := h.range (l[m]) (List.getElem_mem hm)
  rw [at0_prm _ _ _ hm, at0_get l m hm]
  obtain ⟨j, hj⟩ := Int.eq_ofNat_of_zero_le hr.1
  have hjl : j < l.length := by omega
  rw [hj, at0_prm _ _ _ (by rw [bk_length]; exact hjl)]
  have := bk_at h m hm
  rw [at0_get l m hm, hj] at this
  rw [this]
theorem ofs_sum (p s : List Int) (h : p.length = s.length) : ofs p s = ((List.range p.length).map fun j : Nat => at0 p (j : Int) * at0 s (j : Int)).sum := by
  induction p generalizing s with
  | nil => simp [ofs]
  | cons a p ih =>
    cases s with
    | nil => simp at h
    | cons t s =>
      rw [ofs, ih s (by simpa using h), List.length_cons, List.range_succ_eq_map, List.map_cons, List.map_map, List.sum_cons]
      congr 1
theorem sum_perm {a b : List Int} (h : a.Perm b) : a.sum = b.sum := by
  induction h with
  | nil => rfl
  | cons x _ ih => simp [ih]
  | swap x y l => simp only [List.sum_cons]; omega
  | trans _ _ ih1 ih2 => rw [ih1, ih2]
theorem ofs_prm {l : List Int} (h : Pm l) (p s : List Int) (hp : p.length = l.length) (hs : s.length = l.length) : ofs (prm p l) (prm s l) = ofs p s := by
  rw [ofs_sum _ _ (by rw [prm_length, prm_length]), ofs_sum _ _ (by omega), prm_length, hp]
  have e1 : ((List.range l.length).map fun j : Nat => at0 (prm p l) (j : Int) * at0 (prm s l) (j : Int)) = l.map fun a => at0 p a * at0 s a := by
    apply List.ext_getElem (by simp)
    intro j h1 h2
    rw [List.length_map] at h2
    simp only [List.getElem_map, List.getElem_range]
    rw [at0_prm _ _ _ h2, at0_prm _ _ _ h2, at0_get l j h2]
  rw [e1, sum_perm ((pm_perm h).map fun a => at0 p a * at0 s a), List.map_map]
  rfl
theorem inb_prm {l : List Int} (h : Pm l) (d q : List Int) (hd : d.length = l.length) (hi : inb (prm d l) q = true) : inb d (prm q (bk l)) = true := by
  obtain ⟨hl, hq⟩ := (inb_iff _ _).1 hi
  rw [prm_length] at hl hq
  refine (inb_iff _ _).2 ⟨by rw [prm_length, bk_length, hd], fun j hj => ?_⟩
  obtain ⟨m, hm, e1, e2⟩ := pm_back h j (by omega)
  have := hq m hm
  rw [at0_prm _ _ _ hm, e1] at this
  rw [at0_prm _ _ _ (by rw [bk_length]; omega), e2]
  exact this
theorem pmt_ofs {l : List Int} (h : Pm l) (s q : List Int) (hs : s.length = l.length) (hq : q.length = l.length) : ofs q (prm s l) = ofs (prm q (bk l)) s := by
  have := ofs_prm h (prm q (bk l)) s (by rw [prm_length, bk_length]) hs
  rw [bk_prm h q hq] at this
  exact this
theorem perm_ok {d l : List Int} (h : (perm d l).2 = 0) : chk d = 0 ∧ Pm l ∧ l.length = d.length ∧ chk (prm d l) = 0 ∧ (perm d l).1 = prm d l := by
  unfold perm at h ⊢
  split at h
  · rename_i h1
    split at h
    · rename_i h2
      rw [if_pos h1, if_pos h2]
      exact ⟨h1, pm_of h2.2 h2.1, h2.1, chk_perm (prm_perm h2.2 h2.1) h1, rfl⟩
    · simp at h
  · rename_i h1; exact absurd h h1
/-- The elements that a map of places picks. -/
def nums (d d' : List Int) (f : List Int → List Int) : List Int := (alls d').map fun p => num d (f p)
def rex (d to_ : List Int) : List Int × List Int × Int :=
  if chk to_ = 0 then (if fts d to_ = true then (to_, srcs d to_, 0) else ([], [], 8)) else ([], [], chk to_)
/-- Steps of a view that is spread. -/
def exs : List Int → List Int → List Int
  | x :: d, t :: s => (if 1 < x then t else 0) :: exs d s
  | _, _ => []
def vex (o : Int) (d s to_ : List Int) : Int × List Int × List Int × Int :=
  if rgt o d s 64 = true then (if chk to_ = 0 then (if fts d to_ = true then (o, to_, List.replicate (to_.length - d.length) 0 ++ exs d s, 0) else (0, [], [], 8)) else (0, [], [], chk to_)) else (0, [], [], 1)
theorem exs_length (d s : List Int) (h : s.length = d.length) : (exs d s).length = d.length := by
  induction d generalizing s with
  | nil => cases s <;> simp_all [exs]
  | cons x d ih =>
    cases s with
    | nil => simp at h
    | cons t s => simp [exs, ih s (by simpa using h)]
theorem exs_at (d s : List Int) (h : s.length = d.length) (i : Nat) (hi : i < d.length) : at0 (exs d s) (i : Int) = if 1 < at0 d (i : Int) then at0 s (i : Int) else 0 := by
  induction d generalizing s i with
  | nil => simp at hi
  | cons x d ih =>
    cases s with
    | nil => simp at h
    | cons t s =>
      cases i with
      | zero => simp [exs, at0]
      | succ i =>
        have := ih s (by simpa using h) i (by simpa using hi)
        simpa [exs, at0] using this
/-- The steps, i of them set. -/
def est (n : Nat) (d s : List Int) (i : Nat) : List Int := List.replicate (n - d.length) 0 ++ ((exs d s).take i ++ List.replicate (d.length - i) 0)
theorem est_length (n : Nat) (d s : List Int) (h : s.length = d.length) (hn : d.length ≤ n) (i : Nat) (hi : i ≤ d.length) : (est n d s i).length = n := by
  simp [est, exs_length d s h]; omega
theorem est_succ (n : Nat) (d s : List Int) (h : s.length = d.length) (i : Nat) (hi : i < d.length) : est n d s (i + 1) = (est n d s i).set (n - d.length + i) (at0 (exs d s) (i : Int)) := by
  have hl := exs_length d s h
  unfold est
  rw [List.set_append_right _ _ (by simp), List.length_replicate, show n - d.length + i - (n - d.length) = i by omega]
  rw [List.set_append_right _ _ (by rw [List.length_take]; omega), List.length_take, Nat.min_eq_left (by omega), Nat.sub_self]
  rw [show d.length - i = (d.length - (i + 1)) + 1 by omega, List.replicate_succ, List.set_cons_zero]
  rw [List.take_succ_eq_append_getElem (by omega), at0_get _ _ (by omega), List.append_assoc, List.singleton_append]
theorem est_keep (n : Nat) (d s : List Int) (h : s.length = d.length) (i : Nat) (hi : i < d.length) (h1 : ¬ 1 < at0 d (i : Int)) : est n d s (i + 1) = est n d s i := by
  have hl := exs_length d s h
  have he := exs_at d s h i hi
  rw [if_neg h1, at0_get _ _ (by omega)] at he
  unfold est
  rw [List.take_succ_eq_append_getElem (by omega), he, List.append_assoc, List.singleton_append, ← List.replicate_succ, show d.length - (i + 1) + 1 = d.length - i by omega]
/-- A map of places under which a view's elements are elements of another one. -/
def Pk (o : Int) (d s : List Int) (o' : Int) (d' s' : List Int) (f : List Int → List Int) : Prop := ∀ p, inb d' p = true → inb d (f p) = true ∧ o' + ofs p s' = o + ofs (f p) s
theorem pk_rgt {o o' : Int} {d s d' s' : List Int} {f : List Int → List Int} {r : Int} (h : rgt o d s r = true) (hc : chk d' = 0) (hl : s'.length = d'.length) (hp : Pk o d s o' d' s' f) : rgt o' d' s' r = true :=
  rgt_sub h hc hl (fun p hi => ⟨f p, hp p hi⟩)
theorem cls_at {o : Int} {d s : List Int} (h : rgt o d s 64 = true) (p : List Int) (hp : inb d p = true) : 0 ≤ num d p ∧ num d p < ((cls o d s 64).length : Int) ∧ at0 (cls o d s 64) (num d p) = o + ofs p s := by
  have hv := (rgt_ok h).1
  have h1 := (chk_ok hv.1).2.1
  obtain ⟨a1, a2⟩ := num_lt d p h1 hp
  have hl := cls_length o d s 64
  rw [if_pos h, (cnt_ok hv.1).1] at hl
  obtain ⟨m, hm⟩ := Int.eq_ofNat_of_zero_le a1
  refine ⟨a1, by omega, ?_⟩
  rw [hm, at0_get _ _ (by omega), cls_get h, ← hm, dig_num d p h1 hp]
theorem pk_cls {o o' : Int} {d s d' s' : List Int} {f : List Int → List Int} (h : rgt o d s 64 = true) (hc : chk d' = 0) (hl : s'.length = d'.length) (hp : Pk o d s o' d' s' f) :
    cls o' d' s' 64 = (nums d d' f).map (fun a => at0 (cls o d s 64) a) := by
  rw [cls_ok (pk_rgt h hc hl hp)]
  unfold nums
  rw [List.map_map]
  apply List.map_congr_left
  intro p hpm
  obtain ⟨q1, q2⟩ := hp p ((mem_alls hc).1 hpm)
  simp only [Function.comp]
  rw [(cls_at h (f p) q1).2.2, q2]
theorem pk_nums {o o' : Int} {d s d' s' : List Int} {f : List Int → List Int} (h : rgt o d s 64 = true) (hc : chk d' = 0) (hp : Pk o d s o' d' s' f) :
    (nums d d' f).length ≤ 64 ∧ ∀ a ∈ nums d d' f, 0 ≤ a ∧ a < ((cls o d s 64).length : Int) := by
  have := alls_length d'
  have := (cnt_ok hc).2.2
  refine ⟨by unfold nums; rw [List.length_map]; omega, fun a ha => ?_⟩
  unfold nums at ha
  rw [List.mem_map] at ha
  obtain ⟨p, hpm, rfl⟩ := ha
  have := cls_at h (f p) (hp p ((mem_alls hc).1 hpm)).1
  exact ⟨this.1, this.2.1⟩
/-- What the law wants of a view of a view (offset, dims, steps, error) and what the reference tells (dims, elements, error). -/
def Agr (o : Int) (d s : List Int) (w : Int × List Int × List Int × Int) (r : List Int × List Int × Int) : Prop :=
  (r.2.2 = 0 → w.2.2.2 = 0 ∧ w.2.1 = r.1 ∧ r.1.length ≤ 6 ∧ cls w.1 w.2.1 w.2.2.1 64 = r.2.1.map (fun a => at0 (cls o d s 64) a) ∧ r.2.1.length ≤ 64 ∧ ∀ a ∈ r.2.1, 0 ≤ a ∧ a < ((cls o d s 64).length : Int)) ∧
  (r.2.2 ≠ 0 → w = (0, [], [], r.2.2))
theorem agr_pk {o o' : Int} {d s d' s' : List Int} {f : List Int → List Int} (h : rgt o d s 64 = true) (hc : chk d' = 0) (hl : s'.length = d'.length) (hp : Pk o d s o' d' s' f) : Agr o d s (o', d', s', 0) (d', nums d d' f, 0) :=
  ⟨fun _ => ⟨rfl, rfl, (chk_ok hc).1, pk_cls h hc hl hp, (pk_nums h hc hp).1, (pk_nums h hc hp).2⟩, fun hh => absurd rfl hh⟩
theorem agr_err (o : Int) (d s : List Int) (e : Int) (he : e ≠ 0) : Agr o d s (0, [], [], e) ([], [], e) := ⟨fun hh => absurd hh he, fun _ => rfl⟩
theorem ofs_pad (k : Nat) (p t : List Int) : ofs p (List.replicate k 0 ++ t) = ofs (p.drop k) t := by
  induction k generalizing p with
  | zero => simp
  | succ k ih =>
    cases p with
    | nil => simp [ofs]
    | cons a p => rw [List.replicate_succ, List.cons_append, ofs, Int.mul_zero, Int.zero_add, ih, List.drop_succ_cons]
theorem ofs_sat (d s q : List Int) (h : ∀ x ∈ d, 1 ≤ x) (hl : s.length = d.length) (hq : q.length = d.length) : ofs q (exs d s) = ofs (sat d q) s := by
  induction d generalizing s q with
  | nil => cases q <;> simp_all [sat, ofs]
  | cons x d ih =>
    cases s with
    | nil => simp at hl
    | cons t s =>
      cases q with
      | nil => simp at hq
      | cons v q =>
        have hx := h x (by simp)
        simp only [exs, sat, ofs]
        rw [ih s q (fun y hy => h y (by simp [hy])) (by simpa using hl) (by simpa using hq)]
        by_cases h1 : x = 1
        · rw [if_neg (by omega), if_pos h1]; simp
        · rw [if_pos (by omega), if_neg h1]
theorem agr_expand {o : Int} {d s : List Int} (h : rgt o d s 64 = true) (to_ : List Int) : Agr o d s (vex o d s to_) (rex d to_) := by
  unfold vex rex
  rw [if_pos h]
  by_cases h1 : chk to_ = 0
  · rw [if_pos h1, if_pos h1]
    by_cases h2 : fts d to_ = true
    · rw [if_pos h2, if_pos h2]
      obtain ⟨f1, f2, f3, f4⟩ := (fts_iff d to_).1 h2
      have hs := (rgt_ok h).1.2.1
      have e : srcs d to_ = nums d to_ fun p => sat d (p.drop (to_.length - d.length)) := by unfold srcs nums; rw [if_pos h2]
      rw [e]
      have hd := (chk_ok f1).2.1
      refine agr_pk h h1 (by simp [exs_length d s hs]; omega) (fun p hp => ?_)
      have hpl := inb_length hp
      have hsub := sub_drop f4 (to_.length - d.length)
      rw [pad_drop] at hsub
      refine ⟨inb_sat d _ _ hsub hd (inb_dropn _ _ hp _), ?_⟩
      rw [ofs_pad, ofs_sat d s _ hd hs (by rw [List.length_drop]; omega)]
    · rw [if_neg h2, if_neg h2]; exact agr_err _ _ _ _ (by decide)
  · rw [if_neg h1, if_neg h1]; exact agr_err _ _ _ _ h1
theorem pre_cons (x : Int) (d : List Int) (h : ∀ y ∈ d, 1 ≤ y) (hx : 1 ≤ x) : pre (x :: d) = (List.range x.toNat).flatMap fun n : Nat => (pre d).map fun q => (n : Int) :: q := by
  have hp := prod_pos d h
  unfold pre
  simp only [prod]
  rw [Int.toNat_mul (by omega) (by omega), range_mul]
  rw [List.flatMap_def, List.flatMap_def]
  congr 1
  apply List.map_congr_left
  intro n hn
  rw [List.mem_range] at hn
  rw [List.map_map]
  apply List.map_congr_left
  intro v hv
  rw [List.mem_range] at hv
  simp only [Function.comp, dig]
  have e : ((n * (prod d).toNat + v : Nat) : Int) = (n : Int) * prod d + (v : Int) := by
    rw [Int.natCast_add, Int.natCast_mul, Int.toNat_of_nonneg (by omega)]
  rw [e, dig_add d h, Int.add_comm, Int.add_mul_ediv_right _ _ (by omega), Int.ediv_eq_zero_of_lt (by omega) (by omega), Int.zero_add, Int.emod_eq_of_lt (by omega) (by omega)]
/-- How often each of 64 cells is one of these. -/
def tal (l : List Int) : List Int := (List.range 64).map fun i : Nat => (l.count (i : Int) : Int)
theorem tal_length (l : List Int) : (tal l).length = 64 := by simp [tal]
theorem tal_perm {a b : List Int} (h : a.Perm b) : tal a = tal b := by
  unfold tal
  apply List.map_congr_left
  intro i _
  rw [h.count_eq]
theorem split_of_subset (l m : List (List Int)) (hd : l.Nodup) (hs : ∀ x ∈ l, x ∈ m) : ∃ r, m.Perm (l ++ r) := by
  induction l generalizing m with
  | nil => exact ⟨m, List.Perm.refl _⟩
  | cons x l ih =>
    rw [List.nodup_cons] at hd
    have hx := hs x (by simp)
    obtain ⟨r, hr⟩ := ih (m.erase x) hd.2 (fun y hy => (List.mem_erase_of_ne (fun e => hd.1 (by rw [← e]; exact hy))).2 (hs y (by simp [hy])))
    exact ⟨r, (List.perm_cons_erase hx).trans (hr.cons x)⟩
theorem perm_of_subset (l m : List (List Int)) (hd : l.Nodup) (hs : ∀ x ∈ l, x ∈ m) (hl : m.length ≤ l.length) : m.Perm l := by
  obtain ⟨r, hr⟩ := split_of_subset l m hd hs
  have := hr.length_eq
  rw [List.length_append] at this
  have : r = [] := List.length_eq_zero_iff.1 (by omega)
  rw [this, List.append_nil] at hr
  exact hr
theorem alls_nodup {d : List Int} (h : chk d = 0) : (alls d).Nodup := by
  have h1 := (chk_ok h).2.1
  rw [alls_ok h]
  unfold pre
  refine List.Pairwise.map _ (R := fun a b : Nat => a < b ∧ (b : Int) < prod d) ?_ ?_
  · intro a b hab e
    have := dig_inj h1 (by omega) (by omega) (by omega) hab.2 e
    omega
  · refine List.Pairwise.imp_of_mem ?_ (List.pairwise_lt_range)
    intro a b _ hb hab
    rw [List.mem_range] at hb
    exact ⟨hab, by omega⟩
/-- One place for one: the cells are the same, in another order. -/
theorem pk_perm {o o' : Int} {d s d' s' : List Int} {f : List Int → List Int} (h : rgt o d s 64 = true) (hc : chk d' = 0) (hl : s'.length = d'.length) (hp : Pk o d s o' d' s' f)
    (hn : prod d' = prod d) (hi : ∀ p q, inb d' p = true → inb d' q = true → f p = f q → p = q) : (cls o d s 64).Perm (cls o' d' s' 64) := by
  have hv := (rgt_ok h).1
  have e1 : cls o' d' s' 64 = ((alls d').map f).map fun q => o + ofs q s := by
    rw [cls_ok (pk_rgt h hc hl hp), List.map_map]
    apply List.map_congr_left
    intro p hpm
    exact (hp p ((mem_alls hc).1 hpm)).2
  rw [e1, cls_ok h]
  refine List.Perm.map _ (perm_of_subset _ _ ?_ ?_ ?_)
  · refine List.Pairwise.map _ (R := fun a b => a ≠ b ∧ inb d' a = true ∧ inb d' b = true) ?_ ?_
    · intro a b hab e
      exact hab.1 (hi a b hab.2.1 hab.2.2 e)
    · exact List.Pairwise.imp_of_mem (fun ha hb hab => ⟨hab, (mem_alls hc).1 ha, (mem_alls hc).1 hb⟩) (alls_nodup hc)
  · intro x hx
    obtain ⟨p, hpm, rfl⟩ := List.mem_map.1 hx
    exact (mem_alls hv.1).2 (hp p ((mem_alls hc).1 hpm)).1
  · rw [List.length_map]
    have a1 := alls_length d
    have a2 := alls_length d'
    have a3 := (cnt_ok hv.1).1
    have a4 := (cnt_ok hc).1
    omega
theorem pmt_perm {o : Int} {d s l : List Int} (h : rgt o d s 64 = true) (he : (pmt o d s l).2.2.2 = 0) : (cls o d s 64).Perm (cls (pmt o d s l).1 (pmt o d s l).2.1 (pmt o d s l).2.2.1 64) := by
  by_cases h2 : (perm d l).2 = 0
  · obtain ⟨p1, p2, p3, p4, p5⟩ := perm_ok h2
    have hs := (rgt_ok h).1.2.1
    have e : pmt o d s l = (o, prm d l, prm s l, 0) := by unfold pmt; rw [if_pos h, if_pos h2]
    rw [e]
    refine pk_perm h p4 (by rw [prm_length, prm_length]) (f := fun p => prm p (bk l)) (fun p hp => ⟨inb_prm p2 d p p3.symm hp, ?_⟩) ?_ ?_
    · rw [pmt_ofs p2 s p (by omega) (by rw [inb_length hp, prm_length])]
    · refine prod_perm ?_
      have hp := pm_perm p2
      have e1 : prm d l = l.map (at0 d) := rfl
      have e2 : d = ((List.range l.length).map fun i : Nat => (i : Int)).map (at0 d) := by
        refine List.ext_getElem (by simp [p3]) (fun i h1 h2 => ?_)
        simp [at0_get d i h1]
      rw [e1]
      exact (hp.map _).trans (by rw [← e2])
    · intro p q hp hq e
      have hp1 := inb_length hp
      have hq1 := inb_length hq
      rw [prm_length] at hp1 hq1
      have := congrArg (fun z => prm z l) e
      simp only [bk_prm p2 p hp1, bk_prm p2 q hq1] at this
      exact this
  · unfold pmt at he; rw [if_pos h, if_neg h2] at he; exact absurd he h2
theorem flp_perm {o : Int} {d s : List Int} {a : Int} (h : rgt o d s 64 = true) (he : (flp o d s a).2.2.2 = 0) : (cls o d s 64).Perm (cls (flp o d s a).1 (flp o d s a).2.1 (flp o d s a).2.2.1 64) := by
  by_cases h2 : a < 0 ∨ (d.length : Int) ≤ a
  · unfold flp at he; rw [if_pos h, if_pos h2] at he; exact absurd he (by simp)
  · obtain ⟨i, rfl⟩ := Int.eq_ofNat_of_zero_le (show 0 ≤ a by omega)
    have hv := (rgt_ok h).1
    have hi : i < d.length := by omega
    by_cases h3 : 1 < at0 d (i : Int)
    · have e : flp o d s (i : Int) = (o + (at0 d (i : Int) - 1) * at0 s (i : Int), d, s.set i (-(at0 s (i : Int))), 0) := by
        unfold flp; rw [if_pos h, if_neg h2, if_pos h3, Int.toNat_natCast]
      rw [e]
      refine pk_perm h hv.1 (by simpa using hv.2.1) (f := fun p => p.set i (at0 d (i : Int) - 1 - at0 p (i : Int))) (fun p hp => ?_) rfl ?_
      · have hpl : p.length = d.length := inb_length hp
        have hg := inb_get (d := d) hp i hi (by omega)
        have ep := at0_get p i (by omega)
        have ed := at0_get d i hi
        refine ⟨inb_set d p hp i hi (by omega) _ (by omega) (by omega), flp_ofs o d s p i hi hv.2.1 hp⟩
      · intro p q hp hq e1
        have hpl : p.length = d.length := inb_length hp
        have hql : q.length = d.length := inb_length hq
        have b1 : ∀ z : List Int, z.length = d.length → (z.set i (at0 d (i : Int) - 1 - at0 z (i : Int))).set i (at0 d (i : Int) - 1 - at0 (z.set i (at0 d (i : Int) - 1 - at0 z (i : Int))) (i : Int)) = z := by
          intro z hz
          rw [at0_set_same z i (by omega), List.set_set, show at0 d (i : Int) - 1 - (at0 d (i : Int) - 1 - at0 z (i : Int)) = at0 z (i : Int) by omega, at0_get z i (by omega), List.set_getElem_self]
        rw [← b1 p hpl, ← b1 q hql]
        have e1' : p.set i (at0 d (i : Int) - 1 - at0 p (i : Int)) = q.set i (at0 d (i : Int) - 1 - at0 q (i : Int)) := e1
        rw [e1']
    · have e : flp o d s (i : Int) = (o, d, s, 0) := by
        unfold flp; rw [if_pos h, if_neg h2, if_neg h3]
      rw [e]
/-- Spread to twice as many, each cell is that of two elements. -/
theorem vex_two {o : Int} {d s : List Int} (h : rgt o d s 64 = true) (he : (vex o d s (2 :: d)).2.2.2 = 0) : ∃ L : List Int, L ≠ [] ∧ (∀ c ∈ L, 0 ≤ c ∧ c < 64) ∧ cls (vex o d s (2 :: d)).1 (vex o d s (2 :: d)).2.1 (vex o d s (2 :: d)).2.2.1 64 = L ++ L := by
  have hv := (rgt_ok h).1
  have h1 := (chk_ok hv.1).2.1
  unfold vex at he ⊢
  rw [if_pos h] at he ⊢
  by_cases hc : chk (2 :: d) = 0
  · rw [if_pos hc] at he ⊢
    by_cases hf : fts d (2 :: d) = true
    · rw [if_pos hf]
      have ag := agr_expand h (2 :: d)
      unfold vex rex at ag
      rw [if_pos h, if_pos hc, if_pos hc, if_pos hf, if_pos hf] at ag
      have ac := (ag.1 rfl).2.2.2.1
      simp only at ac ⊢
      rw [ac]
      have e : srcs d (2 :: d) = ((pre d).map fun p => num d (sat d p)) ++ ((pre d).map fun p => num d (sat d p)) := by
        unfold srcs
        rw [if_pos hf, alls_ok hc, pre_cons 2 d h1 (by omega)]
        simp only [show (2 : Int).toNat = 2 from rfl, List.range_succ, List.range_zero, List.nil_append, List.flatMap_append, List.flatMap_cons, List.flatMap_nil, List.append_nil, List.map_append, List.map_map]
        congr 1 <;>
        · apply List.map_congr_left
          intro p _
          simp [Function.comp]
      rw [e, List.map_append]
      refine ⟨_, ?_, ?_, rfl⟩
      · have hl := pre_length d
        have hp := prod_pos d h1
        intro hn
        have := congrArg List.length hn
        rw [List.length_map, List.length_map, hl, List.length_nil] at this
        omega
      · intro c hcm
        have hmem : c ∈ (srcs d (2 :: d)).map fun a => at0 (cls o d s 64) a := by rw [e, List.map_append]; exact List.mem_append_left _ hcm
        obtain ⟨a, ha, rfl⟩ := List.mem_map.1 hmem
        have hb := (ag.1 rfl).2.2.2.2.2 a ha
        obtain ⟨n, rfl⟩ := Int.eq_ofNat_of_zero_le hb.1
        have hn : n < (cls o d s 64).length := by omega
        rw [at0_get _ n hn, cls_get h n hn]
        have hin := (rgt_cells o d s 64).1 h
        exact hin.2.2.2 _ (inb_dig d h1 _)
    · rw [if_neg hf] at he; exact absurd he (by simp)
  · rw [if_neg hc] at he; exact absurd he hc
theorem tal_at (l : List Int) (i : Nat) (h : i < 64) : (tal l)[i]'(by rw [tal_length]; exact h) = (l.count (i : Int) : Int) := by simp [tal]
theorem tal_two {L : List Int} (hL : L ≠ []) (hb : ∀ c ∈ L, 0 ≤ c ∧ c < 64) : ((tal (L ++ L)).any fun x => decide (x > 1)) = true := by
  obtain ⟨c, l, rfl⟩ := List.exists_cons_of_ne_nil hL
  have h := hb c (by simp)
  obtain ⟨n, rfl⟩ := Int.eq_ofNat_of_zero_le h.1
  rw [List.any_eq_true]
  refine ⟨_, List.getElem_mem (l := tal _) (n := n) (by rw [tal_length]; omega), ?_⟩
  rw [tal_at _ n (by omega)]
  rw [List.count_append, List.count_cons_self]
  simp; omega
theorem spn_some (l : List Int) (i lo hi : Int) (sm : Bool) : (spn l i lo hi sm).2.2 = (sm || l.any fun x => decide (x ≠ 0)) := by
  induction l generalizing i lo hi sm with
  | nil => simp [spn]
  | cons x l ih =>
    rw [spn]
    by_cases h : x = 0
    · rw [if_pos h, ih]; simp [h]
    · rw [if_neg h, ih]; simp [h]
theorem tal_some {l : List Int} (h : l ≠ []) (hb : ∀ c ∈ l, 0 ≤ c ∧ c < 64) : ((tal l).any fun x => decide (x ≠ 0)) = true := by
  obtain ⟨c, l, rfl⟩ := List.exists_cons_of_ne_nil h
  have h := hb c (by simp)
  obtain ⟨n, rfl⟩ := Int.eq_ofNat_of_zero_le h.1
  rw [List.any_eq_true]
  refine ⟨_, List.getElem_mem (l := tal _) (n := n) (by rw [tal_length]; omega), ?_⟩
  rw [tal_at _ n (by omega), List.count_cons_self]
  simp; omega
end Gr
namespace Go.Proofs.Ytjbpekblcecneaa.S
open Go.RowKit Go.Proofs.Ytjbpekblcecneaa.Q Go.Proofs.YtjbpekblcecneaaW.PrintWords Go.Proofs.YtjbpekblcecneaaW.PrintLast Go.Proofs.YtjbpekblcecneaaW.PrintMore
set_option linter.unusedVariables false
set_option linter.unusedSimpArgs false
theorem w64 {x : Int} (h0 : -9223372036854775808 ≤ x) (h1 : x ≤ 9223372036854775807) : wrap64 x = x := by
  unfold wrap64; omega
theorem down (P : Nat → Prop) (n : Nat) (h0 : P n) (hs : ∀ i, i < n → P (i + 1) → P i) : ∀ i, i ≤ n → P i := by
  intro i hi
  obtain ⟨d, rfl⟩ : ∃ d, n = i + d := ⟨n - i, by omega⟩
  clear hi
  induction d generalizing i with
  | zero => exact h0
  | succ d ih =>
    apply hs i (by omega)
    exact ih (i + 1) (by rw [show i + 1 + d = i + (d + 1) by omega]; exact h0) (fun j hj hp => hs j (by omega) hp)
theorem rdg (l : List Int) (i : Nat) (h : i < l.length) : rd l (i : Int) = l[i] := by
  simp [rd, List.getD_eq_getElem?_getD, List.getElem?_eq_getElem h]
theorem rdb (l : List Bool) (i : Nat) (h : i < l.length) : rdOf false l (i : Int) = l[i] := by
  simp [rdOf, List.getD_eq_getElem?_getD, List.getElem?_eq_getElem h]
theorem dropc (l : List Int) (i : Nat) (h : i < l.length) : l.drop i = rd l (i : Int) :: l.drop (i + 1) := by
  rw [rdg l i h]; exact (List.drop_eq_getElem_cons h)
theorem nx (i n : Nat) (h : i < n) (hn : n ≤ 1000000000) : wrap64 ((i : Int) + 1) = ((i + 1 : Nat) : Int) := by
  rw [w64 (by omega) (by omega)]; omega
theorem shape_check (d : List Int) : shape_Check.f d = some (Gr.chk d) := rfl
theorem check_1 (d : List Int) (hok : ∀ x ∈ d, 1 ≤ x) (hn : d.length ≤ 6) : ∀ i, i ≤ d.length → Gr.prod (d.take i) ≤ 64 →
    Ev (fun k => gradineref19_Check.l1 k d (Gr.prod (d.take i)) (d.length : Int) (i : Int)) (if 64 < Gr.prod d then 12 else 0) := by
  apply down
  · intro h
    rw [List.take_length] at h ⊢
    rw [if_neg (by omega)]
    refine Ev.step (fun k => ?_) (Ev.now 0)
    rw [gradineref19_Check.l1, if_neg (by omega)]
  · intro i hi ih h
    have hp := Gr.prod_pos (d.take i) (fun x hx => hok x (List.mem_of_mem_take hx))
    have hs := Gr.prod_take_succ d i hi
    have h1 : 1 ≤ d[i] := hok _ (List.getElem_mem hi)
    have hle := Gr.prod_take_le d hok (i + 1)
    have hge : d[i] ≤ Gr.prod (d.take i) * d[i] := by
      have : 1 * d[i] ≤ Gr.prod (d.take i) * d[i] := Int.mul_le_mul_of_nonneg_right hp (by omega)
      omega
    by_cases e : 64 < d[i]
    · rw [if_pos (by omega)]
      refine Ev.step (fun k => ?_) (Ev.now 12)
      rw [gradineref19_Check.l1, if_pos (by omega), if_pos (by omega), if_pos (by omega), rdg d i hi, if_pos (by omega)]
    · have hb : Gr.prod (d.take i) * d[i] ≤ 64 * 64 := Int.mul_le_mul h (by omega) (by omega) (by omega)
      by_cases e2 : 64 < Gr.prod (d.take i) * d[i]
      · rw [if_pos (by omega)]
        refine Ev.step (fun k => ?_) (Ev.now 12)
        rw [gradineref19_Check.l1, if_pos (by omega), if_pos (by omega), if_pos (by omega), rdg d i hi, if_neg (by omega), w64 (by omega) (by omega), if_pos (by omega)]
      · refine Ev.step (fun k => ?_) (ih (by omega))
        rw [gradineref19_Check.l1, if_pos (by omega), if_pos (by omega), if_pos (by omega), rdg d i hi, if_neg (by omega), w64 (by omega) (by omega), if_neg (by omega), nx i _ hi (by omega), ← hs]
theorem check_0 (d : List Int) (hn : d.length ≤ 6) : ∀ i, i ≤ d.length → (∀ x ∈ d.take i, 1 ≤ x) →
    Ev (fun k => gradineref19_Check.l0 k d (d.length : Int) (i : Int)) (Gr.chk d) := by
  apply down
  · intro h
    rw [List.take_length] at h
    have e : Gr.chk d = if 64 < Gr.prod d then 12 else 0 := by
      unfold Gr.chk
      rw [if_neg (by omega), if_neg]
      rw [Bool.not_eq_true, List.any_eq_false]
      intro x hx
      have := h x hx
      simp; omega
    rw [e]
    refine Ev.step (fun k => ?_) (check_1 d h hn 0 (by omega) (by simp [Gr.prod]))
    rw [gradineref19_Check.l0, if_neg (by omega)]; simp [Gr.prod]
  · intro i hi ih h
    by_cases e : d[i] < 1
    · have e8 : Gr.chk d = 8 := by
        unfold Gr.chk
        rw [if_neg (by omega), if_pos]
        rw [List.any_eq_true]
        exact ⟨d[i], List.getElem_mem hi, by simpa using e⟩
      rw [e8]
      refine Ev.step (fun k => ?_) (Ev.now 8)
      rw [gradineref19_Check.l0, if_pos (by omega), if_pos (by omega), if_pos (by omega), rdg d i hi, if_pos (by omega)]
    · refine Ev.step (fun k => ?_) (ih ?_)
      · rw [gradineref19_Check.l0, if_pos (by omega), if_pos (by omega), if_pos (by omega), rdg d i hi, if_neg (by omega), nx i _ hi (by omega)]
      · intro x hx
        rw [List.take_succ_eq_append_getElem hi, List.mem_append] at hx
        rcases hx with hx | hx
        · exact h x hx
        · simp at hx; omega
theorem ref_check (d : List Int) : Ev (fun k => gradineref19_Check.f k d) (Gr.chk d) := by
  by_cases h : 6 < d.length
  · have e : Gr.chk d = 9 := by unfold Gr.chk; rw [if_pos h]
    rw [e]
    refine Ev.congr (fun k => ?_) (Ev.now 9)
    rw [gradineref19_Check.f, if_pos (by omega)]
  · refine Ev.congr (fun k => ?_) (check_0 d (by omega) 0 (by omega) (by simp))
    rw [gradineref19_Check.f, if_neg (by omega)]; rfl
theorem prod_step {d : List Int} (hok : Gr.chk d = 0) (i : Nat) (hi : i < d.length) :
    1 ≤ Gr.prod (d.take i) ∧ Gr.prod (d.take i) * d[i] = Gr.prod (d.take (i + 1)) ∧ Gr.prod (d.take (i + 1)) ≤ 64 ∧ 1 ≤ Gr.prod (d.take (i + 1)) := by
  obtain ⟨h6, h1, h2⟩ := Gr.chk_ok hok
  have := Gr.prod_take_le d h1 (i + 1)
  exact ⟨Gr.prod_pos _ (fun x hx => h1 x (List.mem_of_mem_take hx)), (Gr.prod_take_succ d i hi).symm, by omega, Gr.prod_pos _ (fun x hx => h1 x (List.mem_of_mem_take hx))⟩
theorem count_l (d : List Int) (hok : Gr.chk d = 0) : ∀ i, i ≤ d.length →
    Ev (fun k => shape_Count.l0 k (Gr.prod (d.take i)) d (d.length : Int) (i : Int)) (Gr.prod d) := by
  obtain ⟨h6, h1, h2⟩ := Gr.chk_ok hok
  apply down
  · rw [List.take_length]
    refine Ev.step (fun k => ?_) (Ev.now _)
    rw [shape_Count.l0, if_neg (by omega)]
  · intro i hi ih
    obtain ⟨p1, p2, p3, p4⟩ := prod_step hok i hi
    refine Ev.step (fun k => ?_) ih
    rw [shape_Count.l0, if_pos (by omega), if_pos (by omega), if_pos (by omega), rdg d i hi, w64 (by omega) (by omega), nx i _ hi (by omega), p2]
theorem shape_count (d : List Int) : Ev (fun k => shape_Count.f k d) (Gr.cnt d) := by
  unfold Gr.cnt
  by_cases h : Gr.chk d = 0
  · rw [if_pos h]
    refine Ev.congr (fun k => ?_) (count_l d h 0 (by omega))
    rw [shape_Count.f, shape_check, Option.bind_some, if_pos h]; simp [Gr.prod]
  · rw [if_neg h]
    refine Ev.congr (fun k => ?_) (Ev.now 0)
    rw [shape_Count.f, shape_check, Option.bind_some, if_neg h]
theorem contains_snoc (s : List Int) (a x : Int) : (s ++ [a]).contains x = (s.contains x || x == a) := by
  simp [List.contains_eq_mem, List.mem_append, Bool.decide_or]
  rfl
theorem marks_set (r : Nat) (s : List Int) (a : Int) (h0 : 0 ≤ a) (h1 : a < r) : (Gr.marks r s).set a.toNat true = Gr.marks r (s ++ [a]) := by
  apply List.ext_getElem (by simp [Gr.marks])
  intro j hj hj2
  simp only [Gr.marks, List.getElem_set, List.getElem_map, List.getElem_range, contains_snoc]
  by_cases e : a.toNat = j
  · rw [if_pos e, show ((j : Int) == a) = true by simp; omega, Bool.or_true]
  · rw [if_neg e, show ((j : Int) == a) = false by simp; omega, Bool.or_false]
theorem marks_at (r : Nat) (s : List Int) (a : Int) (h0 : 0 ≤ a) (h1 : a < r) : rdOf false (Gr.marks r s) a = s.contains a := by
  obtain ⟨n, rfl⟩ := Int.eq_ofNat_of_zero_le h0
  rw [rdb _ n (by simp [Gr.marks]; omega)]
  simp [Gr.marks]
theorem marks_length (r : Nat) (s : List Int) : (Gr.marks r s).length = r := by simp [Gr.marks]
theorem mks_of_ne (r : Nat) (l : List Int) (h : l ≠ []) : Gr.mks r l = Gr.marks r l := by
  unfold Gr.mks Gr.marks
  rw [show l.isEmpty = false by cases l <;> simp_all]
  simp
theorem axes_1 (r : Nat) (hr : r ≤ 6) (x : List Bool) (hx : x.length = r) : ∀ i, i ≤ r → (x.take i = List.replicate i true) →
    Ev (fun k => shape_Axes.l1 k x (r : Int) (i : Int)) (List.replicate r true, 0) := by
  intro i hi
  obtain ⟨d, hd⟩ : ∃ d, r = i + d := ⟨r - i, by omega⟩
  induction d generalizing i x with
  | zero =>
    intro h
    have : i = x.length := by omega
    subst this
    rw [List.take_length] at h
    refine Ev.step (fun k => ?_) (Ev.now _)
    rw [shape_Axes.l1, if_neg (by omega), h, hx]
  | succ d ih =>
    intro h
    refine Ev.step (fun k => ?_) (ih (x.set i true) (by simp [hx]) (i + 1) (by omega) (by omega) ?_)
    · rw [shape_Axes.l1, if_pos (by omega), if_pos (by omega), if_pos (by omega), Int.toNat_natCast, nx i r (by omega) (by omega)]
    · rw [List.take_succ_eq_append_getElem (by simp; omega), List.take_set_of_le (by omega), h, List.getElem_set_self, List.replicate_succ']
theorem axes_0 (r : Nat) (hr : r ≤ 6) (l : List Int) (hn : l.length ≤ 1000000000) : ∀ i, i ≤ l.length →
    Ev (fun k => shape_Axes.l0 k (r : Int) l (Gr.marks r (l.take i)) l (l.length : Int) (i : Int)) (if Gr.axv r (l.take i) (l.drop i) = true then (Gr.mks r l, 0) else ([], 10)) := by
  apply down
  · rw [List.take_length, List.drop_length]
    rw [if_pos (by rfl)]
    by_cases e : l = []
    · subst e
      have := axes_1 r hr (Gr.marks r []) (marks_length _ _) 0 (by omega) (by simp)
      rw [show Gr.mks r [] = List.replicate r true by
        unfold Gr.mks
        apply List.ext_getElem (by simp)
        intro j _ _; simp]
      refine Ev.step (fun k => ?_) this
      rw [shape_Axes.l0, if_neg (by simp), if_pos (by simp), marks_length]; rfl
    · rw [mks_of_ne r l e]
      have h0 : ¬ ((l.length : Int) = 0) := by
        intro h; apply e; apply List.eq_nil_of_length_eq_zero; omega
      refine Ev.step (fun k => ?_) (Ev.now _)
      rw [shape_Axes.l0, if_neg (by omega), if_neg h0]
  · intro i hi ih
    rw [dropc l i hi, Gr.axv]
    by_cases h1 : rd l (i : Int) < 0
    · rw [if_neg (by simp; omega)]
      refine Ev.step (fun k => ?_) (Ev.now _)
      rw [shape_Axes.l0, if_pos (by omega), if_pos (by omega), if_pos (by omega), if_pos h1]
    · by_cases h2 : (r : Int) ≤ rd l (i : Int)
      · rw [if_neg (by simp; omega)]
        refine Ev.step (fun k => ?_) (Ev.now _)
        rw [shape_Axes.l0, if_pos (by omega), if_pos (by omega), if_pos (by omega), if_neg h1, if_pos h2]
      · have ha := marks_at r (l.take i) (rd l (i : Int)) (by omega) (by omega)
        by_cases h3 : (l.take i).contains (rd l (i : Int)) = true
        · rw [h3, if_neg (by simp)]
          refine Ev.step (fun k => ?_) (Ev.now _)
          rw [shape_Axes.l0, if_pos (by omega), if_pos (by omega), if_pos (by omega), if_neg h1, if_neg h2, if_pos (by omega), if_pos (by rw [marks_length]; omega), ha, if_pos h3]
        · have e : l.take (i + 1) = l.take i ++ [rd l (i : Int)] := by rw [List.take_succ_eq_append_getElem hi, rdg l i hi]
          rw [e] at ih
          rw [show (decide (0 ≤ rd l (i : Int)) && decide (rd l (i : Int) < (r : Int)) && !((l.take i).contains (rd l (i : Int)))) = true by simp [h3]; simp at h3; exact ⟨by omega, h3⟩, Bool.true_and]
          refine Ev.step (fun k => ?_) ih
          rw [shape_Axes.l0, if_pos (by omega), if_pos (by omega), if_pos (by omega), if_neg h1, if_neg h2, if_pos (by omega), if_pos (by rw [marks_length]; omega), ha, if_neg h3, marks_set r _ _ (by omega) (by omega), nx i _ hi hn]
theorem shape_axes (r : Int) (l : List Int) (hn : l.length ≤ 1000000000) : Ev (fun k => shape_Axes.f k r l) (Gr.axs r l) := by
  unfold Gr.axs
  by_cases h0 : r < 0
  · rw [if_pos (.inl h0)]
    refine Ev.congr (f := fun k => shape_Axes.j0 k r l true) (fun k => by rw [shape_Axes.f, if_pos h0]) ?_
    refine Ev.step (fun k => ?_) (Ev.now _)
    rw [shape_Axes.j0, if_pos rfl]
  · refine Ev.congr (f := fun k => shape_Axes.j0 k r l (decide (r > 6))) (fun k => by rw [shape_Axes.f, if_neg h0]) ?_
    by_cases h6 : 6 < r
    · rw [if_pos (.inr h6)]
      refine Ev.step (fun k => ?_) (Ev.now _)
      rw [shape_Axes.j0, if_pos (by simpa using h6)]
    · rw [if_neg (by omega)]
      obtain ⟨n, rfl⟩ := Int.eq_ofNat_of_zero_le (show 0 ≤ r by omega)
      have := axes_0 n (by omega) l hn 0 (by omega)
      rw [List.take_zero, List.drop_zero] at this
      refine Ev.step (fun k => ?_) this
      rw [shape_Axes.j0, if_neg (by simp; omega), if_pos (by omega), if_pos (by simp; omega), Int.toNat_natCast]
      rw [show Gr.marks n [] = List.replicate n false by
        unfold Gr.marks
        apply List.ext_getElem (by simp)
        intro j _ _; simp]
      rfl
theorem axv_all (r : Int) (s l : List Int) (h : Gr.axv r s l = true) : ∀ a ∈ l, 0 ≤ a ∧ a < r := by
  induction l generalizing s with
  | nil => simp
  | cons x l ih =>
    simp only [Gr.axv, Bool.and_eq_true, decide_eq_true_eq] at h
    intro a ha
    rcases List.mem_cons.1 ha with rfl | ha
    · exact ⟨h.1.1.1, h.1.1.2⟩
    · exact ih _ h.2 a ha
theorem axs_all (d l : List Int) (h : (Gr.axs d.length l).2 = 0) : ∀ a ∈ l, 0 ≤ a ∧ a < (d.length : Int) := by
  unfold Gr.axs at h
  split at h
  · simp at h
  · split at h
    · rename_i h2; exact axv_all _ _ _ h2
    · simp at h
theorem axs_err (d l : List Int) (hd : d.length ≤ 6) (h : ¬ (Gr.axs d.length l).2 = 0) : Gr.axs d.length l = ([], 10) := by
  unfold Gr.axs at h ⊢
  rw [if_neg (by omega)] at h ⊢
  split
  · rename_i h2; rw [if_pos h2] at h; simp at h
  · rfl
theorem perm_l (d l : List Int) (hall : ∀ a ∈ l, 0 ≤ a ∧ a < (d.length : Int)) (hn : l.length ≤ 6) : ∀ i, i ≤ l.length → ∀ o : List Int, o.length ≤ i →
    Ev (fun k => shape_Perm.l0 k d o l (l.length : Int) (i : Int)) (o ++ Gr.prm d (l.drop i), 0) := by
  apply down
  · intro o ho
    rw [List.drop_length]
    simp only [Gr.prm, List.map_nil, List.append_nil]
    refine Ev.step (fun k => ?_) (Ev.now _)
    rw [shape_Perm.l0, if_neg (by omega)]
  · intro i hi ih o ho
    have ha := hall (rd l (i : Int)) (by rw [rdg l i hi]; exact List.getElem_mem hi)
    rw [dropc l i hi]
    have := ih (o ++ [rd d (rd l (i : Int))]) (by simp; omega)
    rw [List.append_assoc, List.singleton_append] at this
    refine Ev.step (fun k => ?_) this
    rw [shape_Perm.l0, if_pos (by omega), if_pos (by omega), if_pos (by omega), if_pos (by omega), if_pos (by omega), if_pos (by omega), nx i _ hi (by omega)]
theorem shape_perm (d l : List Int) (hn : l.length ≤ 1000000000) : Ev (fun k => shape_Perm.f k d l) (Gr.perm d l) := by
  unfold Gr.perm
  by_cases h : Gr.chk d = 0
  · rw [if_pos h]
    have h6 := (Gr.chk_ok h).1
    by_cases hl : l.length = d.length
    · refine Ev.congr (f := fun k => (shape_Axes.f k (d.length : Int) l).bind fun bt179 => if bt179.2 = 0 then shape_Perm.l0 k d ([] : List Int) l (l.length : Int) 0 else some (([] : List Int), bt179.2)) (fun k => by rw [shape_Perm.f, shape_check, Option.bind_some, if_pos h, if_pos (by omega)]) ?_
      refine Ev.bind (shape_axes d.length l hn) ?_
      by_cases h2 : (Gr.axs d.length l).2 = 0
      · simp only [if_pos h2]
        rw [if_pos ⟨hl, h2⟩]
        have := perm_l d l (axs_all d l h2) (by omega) 0 (by omega) [] (by simp)
        rw [List.drop_zero, List.nil_append] at this
        exact this
      · simp only [if_neg h2]
        rw [if_neg (fun hh => h2 hh.2), axs_err d l h6 h2]
        exact Ev.now _
    · rw [if_neg (fun hh => hl hh.1)]
      refine Ev.congr (fun k => ?_) (Ev.now _)
      rw [shape_Perm.f, shape_check, Option.bind_some, if_pos h, if_neg (by omega)]
  · rw [if_neg h]
    refine Ev.congr (fun k => ?_) (Ev.now _)
    rw [shape_Perm.f, shape_check, Option.bind_some, if_neg h]
theorem rdl (l : List (List Int)) (i : Nat) (h : i < l.length) : rd_L1 l (i : Int) = l[i] := by
  simp [rd_L1, List.getD_eq_getElem?_getD, List.getElem?_eq_getElem h]
theorem at_set (d x : List Int) (m : Int) (i : Nat) (hi : i < d.length) (hl : x.length = d.length) (hx : x.drop (i + 1) = Gr.dig (d.drop (i + 1)) m) :
    (x.set i (m / Gr.prod (d.drop (i + 1)) % rd d (i : Int))).drop i = Gr.dig (d.drop i) m := by
  rw [List.drop_eq_getElem_cons (by simp; omega), dropc d i hi]
  simp only [List.getElem_set_self, Gr.dig, List.cons.injEq, true_and]
  rw [List.drop_set_of_lt (by omega)]
  exact hx
theorem at_l (d : List Int) (hok : Gr.chk d = 0) (m : Int) (hm : 0 ≤ m) (hm2 : m ≤ 64) : ∀ i, i ≤ d.length → ∀ x : List Int, x.length = d.length → x.drop i = Gr.dig (d.drop i) m →
    Ev (fun k => walk_At.l0 k d (m / Gr.prod (d.drop i)) x ((i : Int) - 1)) (Gr.dig d m, true) := by
  obtain ⟨h6, h1, h2⟩ := Gr.chk_ok hok
  intro i
  induction i with
  | zero =>
    intro hi x hl hx
    simp at hx
    subst hx
    refine Ev.step (fun k => ?_) (Ev.now _)
    rw [walk_At.l0, if_neg (by omega)]
  | succ i ih =>
    intro hi x hl hx
    have hlt : i < d.length := by omega
    have hd : d.drop i = d[i] :: d.drop (i + 1) := List.drop_eq_getElem_cons hlt
    have hge : 1 ≤ d[i] := h1 _ (List.getElem_mem hlt)
    have hle : d[i] ≤ 64 := Gr.ok_le hok _ (List.getElem_mem hlt)
    have q3 := Gr.prod_pos (d.drop (i + 1)) (fun y hy => h1 y (List.mem_of_mem_drop hy))
    have hp : Gr.prod (d.drop i) = Gr.prod (d.drop (i + 1)) * d[i] := by rw [hd]; simp only [Gr.prod]; rw [Int.mul_comm]
    have h0 : 0 ≤ m / Gr.prod (d.drop (i + 1)) := Int.ediv_nonneg hm (by omega)
    have h64 : m / Gr.prod (d.drop (i + 1)) ≤ m := Int.ediv_le_self _ hm
    have e1 : Int.tdiv (m / Gr.prod (d.drop (i + 1))) d[i] = m / Gr.prod (d.drop i) := by
      rw [Int.tdiv_eq_ediv_of_nonneg h0, hp, Int.ediv_ediv, if_neg (by omega), Int.sub_zero]
    have e2 : Int.tmod (m / Gr.prod (d.drop (i + 1))) d[i] = m / Gr.prod (d.drop (i + 1)) % d[i] := Int.tmod_eq_emod_of_nonneg h0
    have b0 : 0 ≤ m / Gr.prod (d.drop i) := Int.ediv_nonneg hm (by have := Gr.prod_pos (d.drop i) (fun y hy => h1 y (List.mem_of_mem_drop hy)); omega)
    have b1 : m / Gr.prod (d.drop i) ≤ m := Int.ediv_le_self _ hm
    refine Ev.step (fun k => ?_) (ih (by omega) (x.set i (m / Gr.prod (d.drop (i + 1)) % rd d (i : Int))) (by simp [hl]) (at_set d x m i hlt hl hx))
    rw [walk_At.l0, show (((i + 1 : Nat) : Int) - 1) = (i : Int) by omega, if_pos (by omega), if_pos (by omega), if_pos (by omega), rdg d i hlt, if_neg (by omega), if_pos (by omega), e1, e2, w64 (by omega) (by omega), w64 (by omega) (by omega), Int.toNat_natCast]
theorem walk_at (d : List Int) (n : Int) : Ev (fun k => walk_At.f k d n) (Gr.att d n) := by
  unfold Gr.att
  by_cases h0 : n < 0
  · rw [if_neg (by omega)]
    refine Ev.congr (f := fun k => walk_At.j0 k d n true) (fun k => by rw [walk_At.f, if_pos h0]) ?_
    refine Ev.step (fun k => ?_) (Ev.now _)
    rw [walk_At.j0, if_pos rfl]
  · refine Ev.congr (f := fun k => (shape_Count.f k d).bind fun t => walk_At.j0 k d n (decide (n ≥ t))) (fun k => by rw [walk_At.f, if_neg h0]) ?_
    refine Ev.bind (shape_count d) ?_
    by_cases h1 : n < Gr.cnt d
    · rw [if_pos ⟨by omega, h1⟩]
      have hok : Gr.chk d = 0 := by
        apply Decidable.byContradiction
        intro hc; unfold Gr.cnt at h1; rw [if_neg hc] at h1; omega
      obtain ⟨c1, c2, c3⟩ := Gr.cnt_ok hok
      have h6 := (Gr.chk_ok hok).1
      have := at_l d hok n (by omega) (by omega) d.length (by omega) (List.replicate d.length 0) (by simp) (by simp [Gr.dig])
      rw [List.drop_length] at this
      simp only [Gr.prod, Int.ediv_one] at this
      refine Ev.step (fun k => ?_) this
      rw [walk_At.j0, if_neg (by simp; omega), if_pos (by omega), if_pos (by simp; omega), w64 (by omega) (by omega), Int.toNat_natCast]
    · rw [if_neg (by omega)]
      refine Ev.step (fun k => ?_) (Ev.now _)
      rw [walk_At.j0, if_pos (by simp; omega)]
theorem all_2 (d : List Int) (L : List (List Int)) (i : Nat) (hi : i < d.length) (q : Nat) (hq : q < L.length) (hn : d.length ≤ 6) (hL : L.length ≤ 64) (hL6 : ∀ p ∈ L, p.length ≤ 6) (X : Nat) (hX : X ≤ 64) (hXd : rd d (i : Int) = (X : Int)) (r : List (List Int)) :
    ∀ v, v ≤ X → ∀ acc : List (List Int), acc.length ≤ 64 * q + v →
    Ev (fun k => gradineref20_All.l1 k d L (i : Int) (acc ++ ((List.range (X - v)).map fun u : Nat => L[q] ++ [((v + u : Nat) : Int)])) (d.length : Int) (i : Int) (L.length : Int) ((q + 1 : Nat) : Int)) r →
    Ev (fun k => gradineref20_All.l2 k d L (i : Int) acc (q : Int) (d.length : Int) (i : Int) (L.length : Int) (q : Int) (rd d (i : Int)) (v : Int)) r := by
  apply down
  · intro acc hacc h
    simp at h
    refine Ev.step (fun k => ?_) h
    rw [gradineref20_All.l2, if_neg (by omega), nx q _ hq (by omega)]; rfl
  · intro v hv ih acc hacc h
    have h6 := hL6 L[q] (List.getElem_mem hq)
    have e : acc ++ ((List.range (X - v)).map fun u : Nat => L[q] ++ [((v + u : Nat) : Int)]) = (acc ++ [L[q] ++ [(v : Int)]]) ++ ((List.range (X - (v + 1))).map fun u : Nat => L[q] ++ [((v + 1 + u : Nat) : Int)]) := by
      rw [show X - v = (X - (v + 1)) + 1 by omega, List.range_succ_eq_map, List.map_cons, List.map_map, List.append_assoc, List.singleton_append]
      congr 2
      apply List.map_congr_left
      intro u _
      simp only [Function.comp]
      rw [show v + u.succ = v + 1 + u by omega]
    rw [e] at h
    refine Ev.step (fun k => ?_) (ih (acc ++ [L[q] ++ [(v : Int)]]) (by simp; omega) h)
    rw [gradineref20_All.l2, if_pos (by omega), Option.bind_some, if_pos (by omega), if_pos (by omega), rdl L q hq, if_pos (by simp; omega), Option.bind_some, if_pos (by simp; omega), if_pos (by omega), nx v X hv (by omega), List.nil_append]
theorem all_1 (d : List Int) (L : List (List Int)) (i : Nat) (hi : i < d.length) (hn : d.length ≤ 6) (hL : L.length ≤ 64) (hL6 : ∀ p ∈ L, p.length ≤ 6) (X : Nat) (hX : X ≤ 64) (hXd : rd d (i : Int) = (X : Int)) (r : List (List Int)) :
    ∀ q, q ≤ L.length → ∀ acc : List (List Int), acc.length ≤ 64 * q →
    Ev (fun k => gradineref20_All.l0 k d (acc ++ (L.drop q).flatMap fun p => (List.range X).map fun v : Nat => p ++ [(v : Int)]) (d.length : Int) ((i + 1 : Nat) : Int)) r →
    Ev (fun k => gradineref20_All.l1 k d L (i : Int) acc (d.length : Int) (i : Int) (L.length : Int) (q : Int)) r := by
  apply down
  · intro acc hacc h
    rw [List.drop_length] at h
    simp only [List.flatMap_nil, List.append_nil] at h
    refine Ev.step (fun k => ?_) h
    rw [gradineref20_All.l1, if_neg (by omega), nx i _ hi (by omega)]
  · intro q hq ih acc hacc h
    rw [List.drop_eq_getElem_cons hq, List.flatMap_cons, ← List.append_assoc] at h
    have := ih _ (by simp; omega) h
    refine Ev.step (fun k => ?_) (all_2 d L i hi q hq hn hL hL6 X hX hXd r 0 (by omega) acc (by omega) (by simpa using this))
    rw [gradineref20_All.l1, if_pos (by omega), if_pos (by omega), if_pos (by omega)]; rfl
theorem all_0 (d : List Int) (hok : Gr.chk d = 0) : ∀ i, i ≤ d.length →
    Ev (fun k => gradineref20_All.l0 k d (Gr.pre (d.take i)) (d.length : Int) (i : Int)) (Gr.pre d) := by
  obtain ⟨h6, h1, h2⟩ := Gr.chk_ok hok
  apply down
  · rw [List.take_length]
    refine Ev.step (fun k => ?_) (Ev.now _)
    rw [gradineref20_All.l0, if_neg (by omega)]
  · intro i hi ih
    have hx := h1 _ (List.getElem_mem hi)
    have hx2 := Gr.ok_le hok _ (List.getElem_mem hi)
    have e : d.take (i + 1) = d.take i ++ [rd d (i : Int)] := by rw [List.take_succ_eq_append_getElem hi, rdg d i hi]
    rw [e, Gr.pre_snoc _ _ (fun y hy => h1 y (List.mem_of_mem_take hy)) (by rw [rdg d i hi]; exact hx)] at ih
    have hp := Gr.chk_ok (Gr.ok_take hok i)
    refine Ev.step (fun k => ?_) (all_1 d (Gr.pre (d.take i)) i hi h6 (by rw [Gr.pre_length]; omega) ?_ (rd d (i : Int)).toNat (by rw [rdg d i hi]; omega) (by rw [rdg d i hi]; omega) _ 0 (by omega) [] (by simp) (by simpa using ih))
    · rw [gradineref20_All.l0, if_pos (by omega)]; rfl
    · intro p hp
      simp only [Gr.pre, List.mem_map] at hp
      obtain ⟨n, _, rfl⟩ := hp
      rw [Gr.dig_length, List.length_take]; omega
theorem ref_all (d : List Int) : Ev (fun k => gradineref20_All.f k d) (Gr.alls d) := by
  refine Ev.congr (fun k => by rw [gradineref20_All.f]) (Ev.bind (ref_check d) ?_)
  by_cases h : Gr.chk d = 0
  · simp only [if_pos h]
    rw [Gr.alls_ok h]
    have := all_0 d h 0 (by omega)
    rw [List.take_zero, Gr.pre_nil] at this
    exact this
  · simp only [if_neg h]
    unfold Gr.alls
    rw [if_neg h]
    exact Ev.now _
theorem mx_gr (a b : Int) : mx a b = Gr.mx a b := rfl
theorem size_at (l : List Int) (n : Nat) (hl : l.length ≤ n) (hn : n ≤ 6) (i : Nat) (hi : i < n) : spread_size.f l (((n - i : Nat)) : Int) = some ((Gr.pad n l)[i]'(by rw [Gr.pad_length n l hl]; exact hi)) := by
  rw [spread_size.f, Gr.pad_at n l hl i hi]
  by_cases h : n - l.length ≤ i
  · rw [dif_pos h, if_neg (by omega), w64 (by omega) (by omega), if_pos (by omega), if_pos (by omega), show ((l.length : Int) - ((n - i : Nat) : Int)) = ((i - (n - l.length) : Nat) : Int) by omega, rdg l _ (by omega)]
  · rw [dif_neg h, if_pos (by omega)]
theorem mxs_drop (p q : List Int) (i : Nat) (hp : i < p.length) (hq : i < q.length) : (Gr.mxs p q).drop i = Gr.mx p[i] q[i] :: (Gr.mxs p q).drop (i + 1) := by
  induction i generalizing p q with
  | zero =>
    cases p with
    | nil => simp at hp
    | cons x p =>
      cases q with
      | nil => simp at hq
      | cons y q => rfl
  | succ i ih =>
    cases p with
    | nil => simp at hp
    | cons x p =>
      cases q with
      | nil => simp at hq
      | cons y q =>
        have := ih p q (by simpa using hp) (by simpa using hq)
        simpa [Gr.mxs] using this
theorem fitz_at (p q : List Int) (i : Nat) (hp : i < p.length) (hq : i < q.length) (h : Gr.fitz p q = true) : p[i] = q[i] ∨ p[i] = 1 ∨ q[i] = 1 := by
  have := Gr.fitz_drop p q i h
  rw [List.drop_eq_getElem_cons hp, List.drop_eq_getElem_cons hq] at this
  simp only [Gr.fitz, Bool.and_eq_true, Bool.or_eq_true, beq_iff_eq] at this
  rcases this.1 with (h | h) | h
  · exact .inl h
  · exact .inr (.inl h)
  · exact .inr (.inr h)
theorem fitz_drop_of (p q : List Int) (i : Nat) (hp : i < p.length) (hq : i < q.length) (h1 : p[i] = q[i] ∨ p[i] = 1 ∨ q[i] = 1) (h : Gr.fitz (p.drop (i + 1)) (q.drop (i + 1)) = true) : Gr.fitz (p.drop i) (q.drop i) = true := by
  rw [List.drop_eq_getElem_cons hp, List.drop_eq_getElem_cons hq]
  simp only [Gr.fitz, Bool.and_eq_true, Bool.or_eq_true, beq_iff_eq]
  refine ⟨?_, h⟩
  rcases h1 with h | h | h
  · exact .inl (.inl h)
  · exact .inl (.inr h)
  · exact .inr h
theorem two_l1 (a b : List Int) (n : Nat) (ha : a.length ≤ n) (hb : b.length ≤ n) (hn : n ≤ 6) : ∀ i, i ≤ n → ∀ x : List Int, x.length = n → x.drop i = (Gr.mxs (Gr.pad n a) (Gr.pad n b)).drop i →
    Gr.fitz ((Gr.pad n a).drop i) ((Gr.pad n b).drop i) = true →
    Ev (fun k => spread_Two.l1 k a b (n : Int) x (((n - i : Nat) : Int) + 1)) (Gr.tw (Gr.pad n a) (Gr.pad n b)) := by
  have la := Gr.pad_length n a ha
  have lb := Gr.pad_length n b hb
  intro i
  induction i with
  | zero =>
    intro hi x hl hx hf
    simp only [List.drop_zero] at hx hf
    subst hx
    unfold Gr.tw
    rw [if_pos hf]
    by_cases hc : Gr.chk (Gr.mxs (Gr.pad n a) (Gr.pad n b)) = 0
    · rw [if_pos hc]
      refine Ev.step (fun k => ?_) (Ev.now _)
      rw [spread_Two.l1, if_neg (by omega), shape_check, Option.bind_some, if_pos hc]
    · rw [if_neg hc]
      refine Ev.step (fun k => ?_) (Ev.now _)
      rw [spread_Two.l1, if_neg (by omega), shape_check, Option.bind_some, if_neg hc]
  | succ i ih =>
    intro hi x hl hx hf
    have hlt : i < n := by omega
    have sa := size_at a n ha hn i hlt
    have sb := size_at b n hb hn i hlt
    have ei : (((n - (i + 1) : Nat) : Int) + 1) = ((n - i : Nat) : Int) := by omega
    have ei2 : (n : Int) - ((n - i : Nat) : Int) = (i : Int) := by omega
    rw [ei]
    by_cases hfit : (Gr.pad n a)[i] = (Gr.pad n b)[i] ∨ (Gr.pad n a)[i] = 1 ∨ (Gr.pad n b)[i] = 1
    · have hnew := ih (by omega) (x.set i (Gr.mx (Gr.pad n a)[i] (Gr.pad n b)[i])) (by simp [hl]) (by
        rw [List.drop_eq_getElem_cons (by simp; omega), mxs_drop _ _ i (by omega) (by omega)]
        simp only [List.getElem_set_self, List.cons.injEq, true_and]
        rw [List.drop_set_of_lt (by omega)]
        exact hx) (fitz_drop_of _ _ i (by omega) (by omega) hfit hf)
      refine Ev.step (fun k => ?_) hnew
      rw [spread_Two.l1, if_pos (by omega), sa, Option.bind_some, sb, Option.bind_some, ei2, w64 (x := (i : Int)) (by omega) (by omega), w64 (by omega) (by omega)]
      simp only [if_pos (show (0 : Int) ≤ (i : Int) by omega), if_pos (show (i : Int) < (x.length : Int) by omega), Int.toNat_natCast, mx_gr]
      by_cases e1 : (Gr.pad n a)[i] = (Gr.pad n b)[i]
      · rw [if_pos e1]
      · rw [if_neg e1]
        by_cases e2 : (Gr.pad n a)[i] = 1
        · rw [if_pos e2]
        · rw [if_neg e2, if_pos (by rcases hfit with h | h | h <;> first | exact absurd h e1 | exact absurd h e2 | exact h)]
    · unfold Gr.tw
      rw [if_neg (fun h => hfit (fitz_at _ _ i (by omega) (by omega) h))]
      refine Ev.step (fun k => ?_) (Ev.now _)
      rw [spread_Two.l1, if_pos (by omega), sa, Option.bind_some, sb, Option.bind_some, if_neg (fun h => hfit (.inl h)), if_neg (fun h => hfit (.inr (.inl h))), if_neg (fun h => hfit (.inr (.inr h)))]
theorem two (a b : List Int) : Ev (fun k => spread_Two.f k a b) (Gr.two a b) := by
  unfold Gr.two
  refine Ev.congr (f := fun k => spread_Two.l0 k a b [a, b] 2 0) (fun k => by rw [spread_Two.f, Option.bind_some]; rfl) ?_
  have r0 : rd_L1 [a, b] 0 = a := rfl
  have r1 : rd_L1 [a, b] 1 = b := rfl
  by_cases ha : Gr.chk a = 0
  · rw [if_pos ha]
    have h6 := (Gr.chk_ok ha).1
    refine Ev.step (f := fun k => spread_Two.l0 k a b [a, b] 2 1) (fun k => by rw [spread_Two.l0, if_pos (by omega), if_pos (by omega), if_pos (by simp), r0, shape_check, Option.bind_some, if_pos ha, w64 (by omega) (by omega)]; rfl) ?_
    by_cases hb : Gr.chk b = 0
    · rw [if_pos hb]
      have k6 := (Gr.chk_ok hb).1
      refine Ev.step (f := fun k => spread_Two.l0 k a b [a, b] 2 2) (fun k => by rw [spread_Two.l0, if_pos (by omega), if_pos (by omega), if_pos (by simp), r1, shape_check, Option.bind_some, if_pos hb, w64 (by omega) (by omega)]; rfl) ?_
      have hm : mx (a.length : Int) (b.length : Int) = (Gr.rank2 a b : Int) := by unfold mx Gr.rank2; split <;> omega
      have := two_l1 a b (Gr.rank2 a b) (by unfold Gr.rank2; omega) (by unfold Gr.rank2; omega) (by unfold Gr.rank2; omega) (Gr.rank2 a b) (by omega) (List.replicate (Gr.rank2 a b) 0) (by simp) (by
        rw [List.drop_of_length_le (by simp), List.drop_of_length_le]
        rw [Gr.mxs_length, Gr.pad_length _ _ (by unfold Gr.rank2; omega)]; omega
        rw [Gr.pad_length _ _ (by unfold Gr.rank2; omega), Gr.pad_length _ _ (by unfold Gr.rank2; omega)]) (by
        rw [List.drop_of_length_le (by rw [Gr.pad_length _ _ (by unfold Gr.rank2; omega)]; omega)]; rfl)
      rw [show (((Gr.rank2 a b - Gr.rank2 a b : Nat) : Int) + 1) = 1 by omega] at this
      refine Ev.step (fun k => ?_) this
      rw [spread_Two.l0, if_neg (by omega), hm, if_pos (by omega), if_pos (by unfold Gr.rank2; omega), Int.toNat_natCast]
    · rw [if_neg hb]
      refine Ev.step (fun k => ?_) (Ev.now _)
      rw [spread_Two.l0, if_pos (by omega), if_pos (by omega), if_pos (by simp), r1, shape_check, Option.bind_some, if_neg hb]
  · rw [if_neg ha]
    refine Ev.step (fun k => ?_) (Ev.now _)
    rw [spread_Two.l0, if_pos (by omega), if_pos (by omega), if_pos (by simp), r0, shape_check, Option.bind_some, if_neg ha]
theorem equal_l (a b : List Int) (hl : a.length = b.length) (hn : a.length ≤ 1000000000) : ∀ i, i ≤ a.length →
    Ev (fun k => slices_Equal_int_int.l0 k a b (a.length : Int) (i : Int)) (decide (a.drop i = b.drop i)) := by
  apply down
  · refine Ev.step (f := fun _ => some true) (fun k => ?_) ?_
    · rw [slices_Equal_int_int.l0, if_neg (by omega)]
    · rw [List.drop_length, hl, List.drop_length]; exact Ev.now true
  · intro i hi ih
    rw [dropc a i hi, dropc b i (by omega)]
    by_cases e : rd a (i : Int) = rd b (i : Int)
    · rw [show decide (rd a (i : Int) :: a.drop (i + 1) = rd b (i : Int) :: b.drop (i + 1)) = decide (a.drop (i + 1) = b.drop (i + 1)) by simp [e]]
      refine Ev.step (fun k => ?_) ih
      rw [slices_Equal_int_int.l0, if_pos (by omega), if_pos (by omega), if_pos (by omega), if_pos (by omega), if_pos e, nx i _ hi hn]
    · rw [show decide (rd a (i : Int) :: a.drop (i + 1) = rd b (i : Int) :: b.drop (i + 1)) = false by simp [e]]
      refine Ev.step (fun k => ?_) (Ev.now false)
      rw [slices_Equal_int_int.l0, if_pos (by omega), if_pos (by omega), if_pos (by omega), if_pos (by omega), if_neg e]
theorem equal (a b : List Int) (hn : a.length ≤ 1000000000) : Ev (fun k => slices_Equal_int_int.f k a b) (decide (a = b)) := by
  by_cases hl : a.length = b.length
  · refine Ev.congr (fun k => ?_) (by have := equal_l a b hl hn 0 (by omega); simpa using this)
    rw [slices_Equal_int_int.f, if_pos (by omega)]
  · rw [show decide (a = b) = false from decide_eq_false (fun e => hl (by rw [e]))]
    refine Ev.congr (fun k => ?_) (Ev.now false)
    rw [slices_Equal_int_int.f, if_neg (by omega)]
theorem two_fst_le (a b : List Int) : (Gr.two a b).1.length ≤ 6 := by
  unfold Gr.two
  split
  · split
    · unfold Gr.tw
      split
      · split
        · rename_i h; exact (Gr.chk_ok h).1
        · simp
      · simp
    · simp
  · simp
theorem fits (a b : List Int) : Ev (fun k => spread_Fits.f k a b) (Gr.fts a b) := by
  refine Ev.congr (fun k => by rw [spread_Fits.f]) (Ev.bind (two a b) ?_)
  unfold Gr.fts
  by_cases h : (Gr.two a b).2 = 0
  · simp only [if_pos h]
    rw [decide_eq_true h, Bool.true_and]
    refine Ev.bind (f := fun k t => some t) ?_ (Ev.now _)
    refine Ev.congr (fun k => by rw [shape_Same.f]) (Ev.bind (f := fun k t => some t) (equal _ _ (by have := two_fst_le a b; omega)) (Ev.now _))
  · simp only [if_neg h]
    rw [decide_eq_false h, Bool.false_and]
    exact Ev.now _
theorem mul_bound {a t : Int} (h0 : 0 ≤ a) (h1 : a ≤ 63) (ht : a = 0 ∨ (-64 < t ∧ t < 64)) : -4000 ≤ a * t ∧ a * t ≤ 4000 := by
  rcases ht with rfl | ⟨t0, t1⟩
  · simp
  · have e1 : a * t ≤ a * 63 := Int.mul_le_mul_of_nonneg_left (by omega) h0
    have e2 : a * (-63) ≤ a * t := Int.mul_le_mul_of_nonneg_left (by omega) h0
    omega
theorem right_l (o : Int) (d s : List Int) (room : Int) (hok : Gr.chk d = 0) (hl : s.length = d.length) (hr0 : 1 ≤ room) (hr : room ≤ 64) : ∀ i, i ≤ d.length → ∀ lo hi : Int, -(64 + 4096 * (i : Int)) ≤ lo → lo ≤ 64 + 4096 * (i : Int) → -(64 + 4096 * (i : Int)) ≤ hi → hi ≤ 64 + 4096 * (i : Int) →
    Ev (fun k => view_Right.l0 k room lo hi d (d.length : Int) (i : Int) o d s) (Gr.sok room (d.drop i) (s.drop i) && decide (0 ≤ lo + Gr.low (d.drop i) (s.drop i)) && decide (hi + Gr.hgh (d.drop i) (s.drop i) < room)) := by
  obtain ⟨h6, h1, h2⟩ := Gr.chk_ok hok
  apply down
  · intro lo hi a1 a2 a3 a4
    rw [List.drop_length, ← hl, List.drop_length]
    simp only [Gr.sok, Gr.low, Gr.hgh, Bool.true_and, Int.add_zero]
    by_cases h : lo ≥ 0
    · rw [decide_eq_true (show 0 ≤ lo from h), Bool.true_and]
      refine Ev.step (fun k => ?_) (Ev.now _)
      rw [view_Right.l0, if_neg (by omega), if_pos h]
    · rw [decide_eq_false (show ¬ 0 ≤ lo from h), Bool.false_and]
      refine Ev.step (fun k => ?_) (Ev.now _)
      rw [view_Right.l0, if_neg (by omega), if_neg h]
  · intro i hi ih lo hg a1 a2 a3 a4
    have hx := h1 _ (List.getElem_mem hi)
    have hx2 := Gr.ok_le hok _ (List.getElem_mem hi)
    rw [← rdg d i hi] at hx hx2
    rw [dropc d i hi, dropc s i (by omega)]
    simp only [Gr.sok, Gr.low, Gr.hgh]
    by_cases e1 : rd d (i : Int) = 1
    · have := ih lo hg (by omega) (by omega) (by omega) (by omega)
      rw [e1]
      simp only [Int.le_refl, decide_true, Bool.true_or, Bool.true_and, Int.sub_self, Int.zero_mul, Int.lt_irrefl, if_false, Int.zero_add]
      refine Ev.step (fun k => ?_) this
      rw [view_Right.l0, if_pos (by omega), if_pos (by omega), if_pos (by omega), if_pos (by omega), view_reach.f, if_pos e1, Option.bind_some, if_pos rfl, nx i _ hi (by omega), show mn 0 0 = 0 by decide, show mx 0 0 = 0 by decide, Int.add_zero, Int.add_zero, w64 (by omega) (by omega), w64 (by omega) (by omega)]
    · rw [decide_eq_false (show ¬ rd d (i : Int) ≤ 1 by omega), Bool.false_or]
      have hwr : wrap64 (-room) = -room := w64 (by omega) (by omega)
      by_cases e2 : rd s (i : Int) ≥ room
      · rw [decide_eq_false (show ¬ rd s (i : Int) < room by omega), Bool.and_false, Bool.false_and, Bool.false_and, Bool.false_and]
        refine Ev.step (fun k => ?_) (Ev.now _)
        rw [view_Right.l0, if_pos (by omega), if_pos (by omega), if_pos (by omega), if_pos (by omega), view_reach.f, if_neg e1, if_pos e2, Option.bind_some, if_neg (by simp)]
      · by_cases e3 : rd s (i : Int) ≤ -room
        · rw [decide_eq_false (show ¬ -room < rd s (i : Int) by omega), Bool.false_and, Bool.false_and, Bool.false_and, Bool.false_and]
          refine Ev.step (fun k => ?_) (Ev.now _)
          rw [view_Right.l0, if_pos (by omega), if_pos (by omega), if_pos (by omega), if_pos (by omega), view_reach.f, if_neg e1, if_neg e2, hwr, if_pos e3, Option.bind_some, if_neg (by simp)]
        · obtain ⟨b1, b2⟩ := mul_bound (a := rd d (i : Int) - 1) (t := rd s (i : Int)) (by omega) (by omega) (.inr ⟨by omega, by omega⟩)
          rw [decide_eq_true (show -room < rd s (i : Int) by omega), decide_eq_true (show rd s (i : Int) < room by omega), Bool.true_and, Bool.true_and]
          have hwm : wrap64 (wrap64 (rd d (i : Int) - 1) * rd s (i : Int)) = (rd d (i : Int) - 1) * rd s (i : Int) := by rw [w64 (x := rd d (i : Int) - 1) (by omega) (by omega), w64 (by omega) (by omega)]
          obtain ⟨m, hm⟩ : ∃ m, (rd d (i : Int) - 1) * rd s (i : Int) = m := ⟨_, rfl⟩
          rw [hm] at b1 b2 hwm
          simp only [hm]
          have hmn : mn m 0 = if m < 0 then m else 0 := by unfold mn; split <;> split <;> omega
          have hmx : mx m 0 = if m < 0 then 0 else m := by unfold mx; rfl
          have hlo : wrap64 (lo + mn m 0) = lo + if m < 0 then m else 0 := by rw [hmn, w64] <;> split <;> omega
          have hhg : wrap64 (hg + mx m 0) = hg + if m < 0 then 0 else m := by rw [hmx, w64] <;> split <;> omega
          have := ih (lo + if m < 0 then m else 0) (hg + if m < 0 then 0 else m) (by split <;> omega) (by split <;> omega) (by split <;> omega) (by split <;> omega)
          rw [← Int.add_assoc, ← Int.add_assoc]
          refine Ev.step (fun k => ?_) this
          rw [view_Right.l0, if_pos (by omega), if_pos (by omega), if_pos (by omega), if_pos (by omega), view_reach.f, if_neg e1, if_neg e2, hwr, if_neg e3, hwm, Option.bind_some, if_pos rfl, nx i _ hi (by omega), hlo, hhg]
theorem view_rgt (o : Int) (d s : List Int) (room : Int) : Ev (fun k => view_Right.f k o d s room) (Gr.rgt o d s room) := by
  have no : ¬ Gr.vok o d s room → Gr.rgt o d s room = false := fun h => by unfold Gr.rgt; rw [decide_eq_false h]; rfl
  have stop : ¬ Gr.vok o d s room → Ev (fun k => view_Right.j0 k room true o d s) (Gr.rgt o d s room) := fun h => by
    rw [no h]
    refine Ev.step (fun k => ?_) (Ev.now _)
    rw [view_Right.j0, if_pos rfl]
  refine Ev.congr (fun k => by rw [view_Right.f, shape_check, Option.bind_some]) ?_
  by_cases h1 : Gr.chk d = 0
  · simp only [if_pos h1]
    by_cases h2 : (s.length : Int) = (d.length : Int)
    · simp only [if_pos h2]
      by_cases h3 : room > 64
      · simp only [if_pos h3]; exact stop (fun hv => by have := hv.2.2.1; omega)
      · simp only [if_neg h3]
        by_cases h4 : o < 0
        · simp only [if_pos h4]; exact stop (fun hv => by have := hv.2.2.2.1; omega)
        · simp only [if_neg h4]
          by_cases h5 : o ≥ room
          · rw [decide_eq_true h5]; exact stop (fun hv => by have := hv.2.2.2.2.1; omega)
          · rw [decide_eq_false h5]
            have := right_l o d s room h1 (by omega) (by omega) (by omega) 0 (by omega) o o (by omega) (by omega) (by omega) (by omega)
            rw [List.drop_zero, List.drop_zero] at this
            have e : Gr.rgt o d s room = (Gr.sok room d s && decide (0 ≤ o + Gr.low d s) && decide (o + Gr.hgh d s < room)) := by
              have hd : decide (Gr.vok o d s room) = Gr.sok room d s := by
                by_cases hs : Gr.sok room d s = true
                · exact (decide_eq_true ⟨h1, by omega, by omega, by omega, by omega, hs⟩).trans hs.symm
                · exact (decide_eq_false (fun hv => hs hv.2.2.2.2.2)).trans (Bool.eq_false_iff.2 hs).symm
              unfold Gr.rgt; rw [hd]
            rw [e]
            refine Ev.step (fun k => ?_) this
            rw [view_Right.j0, if_neg (by simp)]; rfl
    · simp only [if_neg h2]; exact stop (fun hv => by have := hv.2.1; omega)
  · simp only [if_neg h1]; exact stop (fun hv => h1 hv.1)
theorem view_rgt64 (o : Int) (d s : List Int) : Ev (fun k => view_right.f k o d s) (Gr.rgt o d s 64) :=
  Ev.congr (fun k => by rw [view_right.f]) (Ev.bind (view_rgt o d s 64) (Ev.now _))
/-- What is asked of a place and steps so that nothing overflows. -/
def Fit (s p : List Int) : Prop := p.length ≤ 6 ∧ p.length = s.length ∧ ∀ i, (h : i < p.length) → 0 ≤ rd p (i : Int) ∧ rd p (i : Int) ≤ 63 ∧ (rd p (i : Int) = 0 ∨ (-64 < rd s (i : Int) ∧ rd s (i : Int) < 64))
theorem fit_of {d s p : List Int} {room : Int} (hok : Gr.chk d = 0) (hl : s.length = d.length) (hs : Gr.sok room d s = true) (hr : room ≤ 64) (hi : Gr.inb d p = true) : Fit s p := by
  have hpl := Gr.inb_length hi
  have h6 := (Gr.chk_ok hok).1
  refine ⟨by omega, by omega, fun i h => ?_⟩
  have hd := Gr.inb_dropn d p hi i
  rw [dropc d i (by omega), dropc p i h] at hd
  simp only [Gr.inb, Bool.and_eq_true, decide_eq_true_eq] at hd
  have hx2 := Gr.ok_le hok _ (List.getElem_mem (show i < d.length by omega))
  have hg := Gr.sok_get hs i (by omega) (by omega)
  rw [← rdg d i (by omega)] at hx2 hg
  rw [← rdg s i (by omega)] at hg
  refine ⟨hd.1.1, by omega, ?_⟩
  rcases hg with hg | hg
  · left; omega
  · right; omega
theorem at_l22 (o : Int) (d s p : List Int) (hf : Fit s p) : ∀ i, i ≤ p.length → ∀ c : Int, -(64 + 4096 * (i : Int)) ≤ c → c ≤ 64 + 4096 * (i : Int) →
    Ev (fun k => view_At.l0 k c p (p.length : Int) (i : Int) o d s) (c + Gr.ofs (p.drop i) (s.drop i), true) := by
  obtain ⟨h6, hl, hb⟩ := hf
  apply down
  · intro c _ _
    rw [List.drop_length, hl, List.drop_length]
    simp only [Gr.ofs, Int.add_zero]
    refine Ev.step (fun k => ?_) (Ev.now _)
    rw [view_At.l0, if_neg (by omega)]
  · intro i hi ih c a1 a2
    obtain ⟨b0, b1, b2⟩ := hb i hi
    obtain ⟨m1, m2⟩ := mul_bound b0 b1 b2
    rw [dropc p i hi, dropc s i (by omega)]
    simp only [Gr.ofs]
    rw [← Int.add_assoc]
    refine Ev.step (fun k => ?_) (ih (c + rd p (i : Int) * rd s (i : Int)) (by omega) (by omega))
    by_cases hp : rd p (i : Int) > 0
    · rw [view_At.l0, if_pos (by omega), if_pos (by omega), if_pos (by omega), if_pos hp, if_pos (by omega), nx i _ hi (by omega), w64 (x := rd p (i : Int) * rd s (i : Int)) (by omega) (by omega), w64 (by omega) (by omega)]
    · rw [view_At.l0, if_pos (by omega), if_pos (by omega), if_pos (by omega), if_neg hp, nx i _ hi (by omega), show rd p (i : Int) = 0 by omega, Int.zero_mul, Int.add_zero]
theorem view_at (o : Int) (d s : List Int) (n : Int) : Ev (fun k => view_At.f k o d s n) (Gr.vat o d s n) := by
  refine Ev.congr (fun k => by rw [view_At.f]) (Ev.bind (view_rgt64 o d s) ?_)
  by_cases h : Gr.rgt o d s 64 = true
  · rw [h]
    simp only [if_true]
    obtain ⟨⟨v1, v2, v3, v4, v5, v6⟩, _, _⟩ := Gr.rgt_ok h
    refine Ev.bind (walk_at d n) ?_
    unfold Gr.att Gr.vat
    by_cases hn : 0 ≤ n ∧ n < Gr.cnt d
    · rw [if_pos hn, if_pos ⟨h, hn⟩]
      simp only [if_true]
      have := at_l22 o d s (Gr.dig d n) (fit_of v1 v2 v6 (by omega) (Gr.inb_dig d (Gr.chk_ok v1).2.1 n)) 0 (by omega) o (by omega) (by omega)
      rw [List.drop_zero, List.drop_zero] at this
      exact this
    · rw [if_neg hn, if_neg (fun hh => hn hh.2)]
      exact Ev.now _
  · rw [Bool.eq_false_iff.2 h]
    unfold Gr.vat
    rw [if_neg (fun hh => h hh.1)]
    exact Ev.now _
theorem cells_2 (o : Int) (d s : List Int) (room : Int) (L acc : List (List Int)) (q : Nat) (hq : q < L.length) (ac : List Int) (hf : Fit s L[q]) (R : List Int) :
    ∀ j, j ≤ L[q].length → ∀ c : Int, -(64 + 4096 * (j : Int)) ≤ c → c ≤ 64 + 4096 * (j : Int) →
    (0 ≤ c + Gr.ofs (L[q].drop j) (s.drop j) → c + Gr.ofs (L[q].drop j) (s.drop j) < room → Ev (fun k => if ac.length < 17592186044416 then gradineref22_Cells.l1 k room L (ac ++ [c + Gr.ofs (L[q].drop j) (s.drop j)]) (L.length : Int) (wrap64 ((q : Int) + 1)) o d s else none) R) →
    Ev (fun k => gradineref22_Cells.l2 k room L ac (q : Int) c (L.length : Int) (q : Int) (L[q].length : Int) (j : Int) o d s) (if 0 ≤ c + Gr.ofs (L[q].drop j) (s.drop j) ∧ c + Gr.ofs (L[q].drop j) (s.drop j) < room then R else []) := by
  obtain ⟨h6, hl, hb⟩ := hf
  apply down
  · intro c _ _
    rw [List.drop_length, hl, List.drop_length]
    simp only [Gr.ofs, Int.add_zero]
    intro h
    by_cases h0 : c < 0
    · rw [if_neg (by omega)]
      refine Ev.step (fun k => ?_) (Ev.now _)
      rw [gradineref22_Cells.l2, if_neg (by omega), if_pos h0]
    · by_cases h1 : c ≥ room
      · rw [if_neg (by omega)]
        refine Ev.step (fun k => ?_) (Ev.now _)
        rw [gradineref22_Cells.l2, if_neg (by omega), if_neg h0, if_pos h1]
      · rw [if_pos (by omega)]
        refine Ev.step (fun k => ?_) (h (by omega) (by omega))
        rw [gradineref22_Cells.l2, if_neg (by omega), if_neg h0, if_neg h1]
  · intro j hj ih c a1 a2
    obtain ⟨b0, b1, b2⟩ := hb j hj
    obtain ⟨m1, m2⟩ := mul_bound b0 b1 b2
    have eo : Gr.ofs (L[q].drop j) (s.drop j) = rd L[q] (j : Int) * rd s (j : Int) + Gr.ofs (L[q].drop (j + 1)) (s.drop (j + 1)) := by rw [dropc L[q] j hj, dropc s j (by omega)]; rfl
    simp only [eo, ← Int.add_assoc]
    intro h
    have := ih (c + rd L[q] (j : Int) * rd s (j : Int)) (by omega) (by omega) h
    refine Ev.step (fun k => ?_) this
    by_cases hp : rd L[q] (j : Int) > 0
    · rw [gradineref22_Cells.l2, if_pos (by omega), if_pos (by omega), if_pos (by omega), if_pos (by omega), rdl L q hq, if_pos (by omega), if_pos hp, if_pos (by omega), nx j _ hj (by omega), w64 (x := rd L[q] (j : Int) * rd s (j : Int)) (by omega) (by omega), w64 (by omega) (by omega)]
    · rw [gradineref22_Cells.l2, if_pos (by omega), if_pos (by omega), if_pos (by omega), if_pos (by omega), rdl L q hq, if_pos (by omega), if_neg hp, nx j _ hj (by omega), show rd L[q] (j : Int) = 0 by omega, Int.zero_mul, Int.add_zero]
theorem cells_1 (o : Int) (ho : 0 ≤ o) (ho2 : o < 64) (d s : List Int) (room : Int) (L : List (List Int)) (hL : L.length ≤ 64) (hf : ∀ p ∈ L, Fit s p) : ∀ q, q ≤ L.length → ∀ ac : List Int, ac.length ≤ q →
    Ev (fun k => gradineref22_Cells.l1 k room L ac (L.length : Int) (q : Int) o d s) (if ∀ p ∈ L.drop q, 0 ≤ o + Gr.ofs p s ∧ o + Gr.ofs p s < room then ac ++ (L.drop q).map (fun p => o + Gr.ofs p s) else []) := by
  apply down
  · intro ac _
    rw [List.drop_length]
    simp only [List.not_mem_nil, false_imp_iff, implies_true, if_true, List.map_nil, List.append_nil]
    refine Ev.step (fun k => ?_) (Ev.now _)
    rw [gradineref22_Cells.l1, if_neg (by omega)]
  · intro q hq ih ac hac
    have hd := List.drop_eq_getElem_cons hq
    have := cells_2 o d s room L L q hq ac (hf _ (List.getElem_mem hq)) (if ∀ p ∈ L.drop (q + 1), 0 ≤ o + Gr.ofs p s ∧ o + Gr.ofs p s < room then (ac ++ [o + Gr.ofs L[q] s]) ++ (L.drop (q + 1)).map (fun p => o + Gr.ofs p s) else []) 0 (by omega) o (by omega) (by omega) (by
      rw [List.drop_zero, List.drop_zero]
      intro _ _
      refine Ev.congr (fun k => ?_) (ih (ac ++ [o + Gr.ofs L[q] s]) (by simp; omega))
      rw [if_pos (by omega), nx q _ hq (by omega)])
    rw [List.drop_zero, List.drop_zero] at this
    have e : (if ∀ p ∈ L.drop q, 0 ≤ o + Gr.ofs p s ∧ o + Gr.ofs p s < room then ac ++ (L.drop q).map (fun p => o + Gr.ofs p s) else []) = (if 0 ≤ o + Gr.ofs L[q] s ∧ o + Gr.ofs L[q] s < room then (if ∀ p ∈ L.drop (q + 1), 0 ≤ o + Gr.ofs p s ∧ o + Gr.ofs p s < room then (ac ++ [o + Gr.ofs L[q] s]) ++ (L.drop (q + 1)).map (fun p => o + Gr.ofs p s) else []) else []) := by
      rw [hd]
      simp only [List.mem_cons, forall_eq_or_imp, List.map_cons, List.append_assoc, List.singleton_append]
      by_cases g1 : 0 ≤ o + Gr.ofs L[q] s ∧ o + Gr.ofs L[q] s < room
      · simp only [g1, and_self, true_and, if_true]
      · simp only [g1, false_and, if_false]
    rw [e]
    refine Ev.step (fun k => ?_) this
    rw [gradineref22_Cells.l1, if_pos (by omega), if_pos (by omega), if_pos (by omega), rdl L q hq]
    rfl
theorem cells_0 (o : Int) (d s : List Int) (room : Int) (hl : s.length = d.length) (h6 : d.length ≤ 6) (hr0 : 1 ≤ room) (hr : room ≤ 64) (R : List Int)
    (h : Gr.sok room d s = true → Ev (fun k => (gradineref20_All.f k d).bind fun t => gradineref22_Cells.l1 k room t [] (t.length : Int) 0 o d s) R) : ∀ i, i ≤ d.length → (Gr.sok room (d.drop i) (s.drop i) = Gr.sok room d s) →
    Ev (fun k => gradineref22_Cells.l0 k room (d.length : Int) (i : Int) o d s) (if Gr.sok room d s = true then R else []) := by
  apply down
  · intro e
    rw [List.drop_length, ← hl, List.drop_length] at e
    have e : Gr.sok room d s = true := by rw [← e]; rfl
    rw [if_pos e]
    refine Ev.step (fun k => ?_) (h e)
    rw [gradineref22_Cells.l0, if_neg (by omega)]
  · intro i hi ih e
    rw [dropc d i hi, dropc s i (by omega)] at e
    simp only [Gr.sok] at e
    have hwr : wrap64 (-room) = -room := w64 (by omega) (by omega)
    by_cases e1 : rd d (i : Int) > 1
    · rw [decide_eq_false (by omega), Bool.false_or] at e
      by_cases e2 : rd s (i : Int) ≥ room
      · rw [decide_eq_false (show ¬ rd s (i : Int) < room by omega), Bool.and_false, Bool.false_and] at e
        rw [← e, if_neg (by simp)]
        refine Ev.step (fun k => ?_) (Ev.now _)
        rw [gradineref22_Cells.l0, if_pos (by omega), if_pos (by omega), if_pos (by omega), if_pos e1, if_pos (by omega), if_pos e2]
      · by_cases e3 : rd s (i : Int) ≤ -room
        · rw [decide_eq_false (show ¬ -room < rd s (i : Int) by omega), Bool.false_and, Bool.false_and] at e
          rw [← e, if_neg (by simp)]
          refine Ev.step (fun k => ?_) (Ev.now _)
          rw [gradineref22_Cells.l0, if_pos (by omega), if_pos (by omega), if_pos (by omega), if_pos e1, if_pos (by omega), if_neg e2, hwr, if_pos e3]
        · rw [decide_eq_true (show -room < rd s (i : Int) by omega), decide_eq_true (show rd s (i : Int) < room by omega), Bool.true_and, Bool.true_and] at e
          refine Ev.step (fun k => ?_) (ih e)
          rw [gradineref22_Cells.l0, if_pos (by omega), if_pos (by omega), if_pos (by omega), if_pos e1, if_pos (by omega), if_neg e2, hwr, if_neg e3, nx i _ hi (by omega)]
    · rw [decide_eq_true (by omega), Bool.true_or, Bool.true_and] at e
      refine Ev.step (fun k => ?_) (ih e)
      rw [gradineref22_Cells.l0, if_pos (by omega), if_pos (by omega), if_pos (by omega), if_neg e1, nx i _ hi (by omega)]
theorem cells_vok (o : Int) (d s : List Int) (room : Int) (hv : Gr.vok o d s room) : Ev (fun k => (gradineref20_All.f k d).bind fun t => gradineref22_Cells.l1 k room t [] (t.length : Int) 0 o d s) (Gr.cls o d s room) := by
  obtain ⟨v1, v2, v3, v4, v5, v6⟩ := hv
  refine Ev.bind (ref_all d) ?_
  have hlen := Gr.alls_length d
  have := (Gr.cnt_ok v1).2.2
  have := cells_1 o v4 (by omega) d s room (Gr.alls d) (by omega) (fun p hp => fit_of v1 v2 v6 v3 ((Gr.mem_alls v1).1 hp)) 0 (by omega) [] (by simp)
  rw [List.drop_zero, List.nil_append] at this
  have e : Gr.cls o d s room = if ∀ p ∈ Gr.alls d, 0 ≤ o + Gr.ofs p s ∧ o + Gr.ofs p s < room then (Gr.alls d).map (fun p => o + Gr.ofs p s) else [] := by
    unfold Gr.cls
    simp only [Gr.rgt_iff ⟨v1, v2, v3, v4, v5, v6⟩]
  rw [e]
  exact this
theorem ref_cells (o : Int) (d s : List Int) (room : Int) : Ev (fun k => gradineref22_Cells.f k o d s room) (Gr.cls o d s room) := by
  have no : ¬ Gr.vok o d s room → Gr.cls o d s room = [] := fun h => Gr.cls_none (fun hh => h (Gr.rgt_ok hh).1)
  have stop : ¬ Gr.vok o d s room → Ev (fun k => gradineref22_Cells.j0 k room true o d s) (Gr.cls o d s room) := fun h => by
    rw [no h]
    refine Ev.step (fun k => ?_) (Ev.now _)
    rw [gradineref22_Cells.j0, if_pos rfl]
  refine Ev.congr (fun k => by rw [gradineref22_Cells.f]) (Ev.bind (ref_check d) ?_)
  by_cases h1 : Gr.chk d = 0
  · simp only [if_pos h1]
    by_cases h2 : (s.length : Int) = (d.length : Int)
    · simp only [if_pos h2]
      by_cases h3 : room > 64
      · simp only [if_pos h3]; exact stop (fun hv => by have := hv.2.2.1; omega)
      · simp only [if_neg h3]
        by_cases h4 : o < 0
        · simp only [if_pos h4]; exact stop (fun hv => by have := hv.2.2.2.1; omega)
        · simp only [if_neg h4]
          by_cases h5 : o ≥ room
          · rw [decide_eq_true h5]; exact stop (fun hv => by have := hv.2.2.2.2.1; omega)
          · rw [decide_eq_false h5]
            have key := cells_0 o d s room (by omega) (Gr.chk_ok h1).1 (by omega) (by omega) (Gr.cls o d s room) (fun hs => cells_vok o d s room ⟨h1, by omega, by omega, by omega, by omega, hs⟩) 0 (by omega) (by simp)
            have e : (if Gr.sok room d s = true then Gr.cls o d s room else []) = Gr.cls o d s room := by
              split
              · rfl
              · rename_i hs; exact (no (fun hv => hs hv.2.2.2.2.2)).symm
            rw [e] at key
            refine Ev.step (fun k => ?_) key
            rw [gradineref22_Cells.j0, if_neg (by simp)]; rfl
    · simp only [if_neg h2]; exact stop (fun hv => by have := hv.2.1; omega)
  · simp only [if_neg h1]; exact stop (fun hv => h1 hv.1)
theorem ref_right (o : Int) (d s : List Int) (room : Int) : Ev (fun k => gradineref22_Right.f k o d s room) (Gr.rgt o d s room) := by
  have := Ev.bind (f := fun k (t : List Int) => some (decide ((t.length : Int) > 0))) (ref_cells o d s room) (Ev.now _)
  have e : decide (((Gr.cls o d s room).length : Int) > 0) = Gr.rgt o d s room := by
    have := Gr.cls_pos o d s room
    rcases hb : Gr.rgt o d s room with _ | _
    · rw [hb] at this; exact decide_eq_false (fun h => by have := this.1 (by omega); cases this)
    · rw [hb] at this; exact decide_eq_true (by have := this.2 rfl; omega)
  rw [e] at this
  exact Ev.congr (fun k => by rw [gradineref22_Right.f]) this
theorem cls_bound (o : Int) (d s : List Int) (room : Int) : (Gr.cls o d s room).length ≤ 64 ∧ ∀ x ∈ Gr.cls o d s room, 0 ≤ x ∧ x < 64 := by
  by_cases h : Gr.rgt o d s room = true
  · have hl := Gr.cls_length o d s room
    have hv := (Gr.rgt_ok h).1
    rw [if_pos h] at hl
    have := (Gr.cnt_ok hv.1).2.2
    refine ⟨by omega, fun x hx => ?_⟩
    rw [Gr.cls_ok h, List.mem_map] at hx
    obtain ⟨p, hp, rfl⟩ := hx
    have := (Gr.rgt_iff hv).1 h p hp
    have := hv.2.2.1
    omega
  · rw [Gr.cls_none h]; simp
theorem rd_at0 (l : List Int) (i : Int) : rd l i = Gr.at0 l i := rfl
theorem copied (o : Int) (d s : List Int) (hd : d.length ≤ 100) (hs : s.length ≤ 100) : view_copied.f o d s = some (o, d, s) := by
  rw [view_copied.f, slices_Clone_int_int.f, if_pos (by omega), Option.bind_some, slices_Clone_int_int.f, if_pos (by omega), Option.bind_some]
theorem steps_bound {o : Int} {d s : List Int} {r : Int} (h : Gr.rgt o d s r = true) (i : Nat) (hi : i < d.length) : 1 ≤ Gr.at0 d (i : Int) ∧ Gr.at0 d (i : Int) ≤ 64 ∧ (1 < Gr.at0 d (i : Int) → -64 < Gr.at0 s (i : Int) ∧ Gr.at0 s (i : Int) < 64) := by
  obtain ⟨v1, v2, v3, v4, v5, v6⟩ := (Gr.rgt_ok h).1
  have hx := (Gr.chk_ok v1).2.1 _ (List.getElem_mem hi)
  have hx2 := Gr.ok_le v1 _ (List.getElem_mem hi)
  have hg := Gr.sok_get v6 i hi (by omega)
  rw [Gr.at0_get d i hi, Gr.at0_get s i (by omega)]
  exact ⟨hx, hx2, fun hlt => by rcases hg with hg | hg <;> omega⟩
theorem view_flip (o : Int) (d s : List Int) (a : Int) : Ev (fun k => view_Flip.f k o d s a) (Gr.flp o d s a) := by
  refine Ev.congr (fun k => by rw [view_Flip.f]) (Ev.bind (view_rgt64 o d s) ?_)
  unfold Gr.flp
  by_cases h : Gr.rgt o d s 64 = true
  · rw [h]
    simp only [if_true]
    obtain ⟨v1, v2, v3, v4, v5, v6⟩ := (Gr.rgt_ok h).1
    have h6 := (Gr.chk_ok v1).1
    by_cases h0 : a < 0
    · rw [if_pos (.inl h0)]
      simp only [if_pos h0]
      refine Ev.step (fun k => ?_) (Ev.now _)
      rw [view_Flip.j0, if_pos rfl]
    · simp only [if_neg h0]
      by_cases h1 : a ≥ (d.length : Int)
      · rw [decide_eq_true h1, if_pos (.inr h1)]
        refine Ev.step (fun k => ?_) (Ev.now _)
        rw [view_Flip.j0, if_pos rfl]
      · rw [decide_eq_false h1, if_neg (by omega)]
        obtain ⟨i, rfl⟩ := Int.eq_ofNat_of_zero_le (show 0 ≤ a by omega)
        obtain ⟨b1, b2, b3⟩ := steps_bound h i (by omega)
        refine Ev.step (f := fun k => some _) (fun k => ?_) (Ev.now _)
        rw [view_Flip.j0, if_neg (by simp), copied o d s (by omega) (by omega), Option.bind_some, if_pos (by omega), if_pos (by omega), rd_at0, rd_at0]
        by_cases h2 : 1 < Gr.at0 d (i : Int)
        · obtain ⟨c1, c2⟩ := b3 h2
          obtain ⟨m1, m2⟩ := mul_bound (a := Gr.at0 d (i : Int) - 1) (t := Gr.at0 s (i : Int)) (by omega) (by omega) (.inr ⟨c1, c2⟩)
          rw [if_pos h2, if_pos h2, if_pos (by omega), if_pos (by simp only; omega), w64 (x := Gr.at0 d (i : Int) - 1) (by omega) (by omega), w64 (x := (Gr.at0 d (i : Int) - 1) * Gr.at0 s (i : Int)) (by omega) (by omega), w64 (by omega) (by omega), w64 (by omega) (by omega)]
        · rw [if_neg h2, if_neg h2]
  · rw [Bool.eq_false_iff.2 h]
    exact Ev.now _
theorem permute_l (o : Int) (d s dims axes : List Int) (hl : axes.length ≤ 1000000000) (hr : ∀ a ∈ axes, 0 ≤ a ∧ a < (s.length : Int)) : ∀ i, i ≤ axes.length → ∀ ac : List Int, ac.length ≤ i →
    Ev (fun k => view_Permute.l0 k dims ac axes (axes.length : Int) (i : Int) o d s) (o, dims, ac ++ Gr.prm s (axes.drop i), 0) := by
  apply down
  · intro ac _
    rw [List.drop_length]
    simp only [Gr.prm, List.map_nil, List.append_nil]
    refine Ev.step (fun k => ?_) (Ev.now _)
    rw [view_Permute.l0, if_neg (by omega)]
  · intro i hi ih ac hac
    have hx := hr _ (List.getElem_mem hi)
    rw [← rdg axes i hi] at hx
    have := ih (ac ++ [rd s (rd axes (i : Int))]) (by simp; omega)
    rw [List.append_assoc] at this
    rw [dropc axes i hi]
    refine Ev.step (fun k => ?_) this
    rw [view_Permute.l0, if_pos (by omega), if_pos (by omega), if_pos (by omega), if_pos hx.1, if_pos hx.2, if_pos (by omega), nx i _ hi hl]
theorem view_permute (o : Int) (d s axes : List Int) (hl : axes.length ≤ 1000000000) : Ev (fun k => view_Permute.f k o d s axes) (Gr.pmt o d s axes) := by
  refine Ev.congr (fun k => by rw [view_Permute.f]) (Ev.bind (view_rgt64 o d s) ?_)
  unfold Gr.pmt
  by_cases h : Gr.rgt o d s 64 = true
  · rw [h]
    simp only [if_true]
    have v2 := (Gr.rgt_ok h).1.2.1
    refine Ev.bind (shape_perm d axes hl) ?_
    by_cases h2 : (Gr.perm d axes).2 = 0
    · obtain ⟨p1, p2, p3, p4, p5⟩ := Gr.perm_ok h2
      simp only [if_pos h2, p5]
      exact permute_l o d s (Gr.prm d axes) axes hl (fun a ha => by have := p2.range a ha; omega) 0 (by omega) [] (by simp)
    · simp only [if_neg h2]
      exact Ev.now _
  · rw [Bool.eq_false_iff.2 h]
    exact Ev.now _
theorem expand_l (o : Int) (d s to_ : List Int) (hl : s.length = d.length) (hd : d.length ≤ 6) (ht : to_.length ≤ 6) (hdt : d.length ≤ to_.length) : ∀ i, i ≤ d.length →
    Ev (fun k => view_Expand.l0 k ((to_.length : Int) - (d.length : Int)) d (d.length : Int) (i : Int) o d s o to_ (Gr.est to_.length d s i)) (o, to_, List.replicate (to_.length - d.length) 0 ++ Gr.exs d s, 0) := by
  have he := Gr.exs_length d s hl
  apply down
  · refine Ev.step (fun k => ?_) (Ev.now _)
    rw [view_Expand.l0, if_neg (by omega)]
    unfold Gr.est
    rw [Nat.sub_self, List.take_of_length_le (by omega)]
    simp
  · intro i hi ih
    have hel := Gr.est_length to_.length d s hl hdt i (by omega)
    by_cases h1 : 1 < Gr.at0 d (i : Int)
    · rw [Gr.est_succ _ _ _ hl i hi, Gr.exs_at d s hl i hi, if_pos h1] at ih
      refine Ev.step (fun k => ?_) ih
      have hw : wrap64 ((to_.length : Int) - (d.length : Int) + (i : Int)) = ((to_.length - d.length + i : Nat) : Int) := by rw [w64 (by omega) (by omega)]; omega
      rw [view_Expand.l0, if_pos (by omega), if_pos (by omega), if_pos (by omega), rd_at0, rd_at0, if_pos h1, if_pos (by omega), hw, if_pos (by omega), if_pos (by omega), Int.toNat_natCast, nx i _ hi (by omega)]
    · rw [Gr.est_keep _ _ _ hl i hi h1] at ih
      refine Ev.step (fun k => ?_) ih
      rw [view_Expand.l0, if_pos (by omega), if_pos (by omega), if_pos (by omega), rd_at0, if_neg h1, nx i _ hi (by omega)]
theorem view_expand (o : Int) (d s to_ : List Int) : Ev (fun k => view_Expand.f k o d s to_) (Gr.vex o d s to_) := by
  refine Ev.congr (fun k => by rw [view_Expand.f]) (Ev.bind (view_rgt64 o d s) ?_)
  unfold Gr.vex
  by_cases h : Gr.rgt o d s 64 = true
  · rw [h]
    simp only [if_true, shape_check, Option.bind_some]
    by_cases h1 : Gr.chk to_ = 0
    · simp only [if_pos h1]
      refine Ev.bind (fits d to_) ?_
      by_cases h2 : Gr.fts d to_ = true
      · rw [h2]
        simp only [if_true]
        obtain ⟨f1, f2, f3, f4⟩ := (Gr.fts_iff d to_).1 h2
        have ht := (Gr.chk_ok h1).1
        have hd := (Gr.chk_ok f1).1
        have := expand_l o d s to_ (Gr.rgt_ok h).1.2.1 hd ht f3 0 (by omega)
        have e0 : Gr.est to_.length d s 0 = List.replicate to_.length 0 := by
          unfold Gr.est
          rw [List.take_zero, List.nil_append, List.replicate_append_replicate]
          congr 1; omega
        rw [e0] at this
        refine Ev.congr (fun k => ?_) this
        rw [slices_Clone_int_int.f, if_pos (by omega), Option.bind_some, if_pos (by omega), if_pos (by omega), Int.toNat_natCast, w64 (by omega) (by omega)]; rfl
      · rw [Bool.eq_false_iff.2 h2]; exact Ev.now _
    · simp only [if_neg h1]; exact Ev.now _
  · rw [Bool.eq_false_iff.2 h]; exact Ev.now _
theorem clist_l (o : Int) (d s : List Int) (h : Gr.rgt o d s 64 = true) : ∀ i, i ≤ (Gr.cls o d s 64).length →
    Ev (fun k => cells_List.l0 k ((Gr.cls o d s 64).take i) ((Gr.cls o d s 64).length : Int) (i : Int) o d s) (Gr.cls o d s 64) := by
  have hb := cls_bound o d s 64
  have hl := Gr.cls_length o d s 64
  rw [if_pos h] at hl
  apply down
  · rw [List.take_length]
    refine Ev.step (fun k => ?_) (Ev.now _)
    rw [cells_List.l0, if_neg (by omega)]
  · intro i hi ih
    rw [List.take_succ_eq_append_getElem hi] at ih
    have hv := view_at o d s (i : Int)
    have e : Gr.vat o d s (i : Int) = ((Gr.cls o d s 64)[i], true) := by
      unfold Gr.vat
      rw [if_pos ⟨h, by omega, by omega⟩, Gr.cls_get h i hi]
    rw [e] at hv
    refine Ev.step (fun k => by rw [cells_List.l0, if_pos (by omega)]) (Ev.bind hv ?_)
    refine Ev.congr (fun k => ?_) ih
    rw [if_pos (by rw [List.length_take]; omega), nx i _ hi (by omega)]
theorem cells_list (o : Int) (d s : List Int) : Ev (fun k => cells_List.f k o d s) (Gr.cls o d s 64) := by
  refine Ev.congr (fun k => by rw [cells_List.f]) (Ev.bind (view_rgt o d s 64) ?_)
  by_cases h : Gr.rgt o d s 64 = true
  · have hl := Gr.cls_length o d s 64
    rw [if_pos h] at hl
    rw [h]
    refine Ev.congr (fun k => by rw [if_pos rfl]) (Ev.bind (shape_count d) ?_)
    have := clist_l o d s h 0 (by omega)
    rw [List.take_zero, hl] at this
    exact this
  · rw [Bool.eq_false_iff.2 h, Gr.cls_none h]
    exact Ev.congr (fun k => by rw [if_neg (by simp)]) (Ev.now _)
/-- Counts, and some more. -/
def more (s l : List Int) : List Int := (List.range 64).map fun i : Nat => rd s (i : Int) + (l.count (i : Int) : Int)
theorem more_nil (s : List Int) (hs : s.length = 64) : more s [] = s := by
  refine List.ext_getElem (by simp [more, hs]) (fun i h1 h2 => ?_)
  simp only [more, List.getElem_map, List.getElem_range, List.count_nil]
  rw [rdg s i h2]
  simp
theorem of_l : ∀ (l s : List Int), s.length = 64 → (∀ c ∈ l, 0 ≤ c ∧ c < 64) → (∀ i : Nat, i < 64 → 0 ≤ rd s (i : Int) ∧ rd s (i : Int) + (l.length : Int) ≤ 1000) → cells_of.l0 l s = some (more s l)
  | [], s, hs, _, _ => by rw [cells_of.l0, more_nil s hs]
  | c :: l, s, hs, hb, hw => by
    have hc := hb c (by simp)
    obtain ⟨n, rfl⟩ := Int.eq_ofNat_of_zero_le hc.1
    have hn : n < 64 := by omega
    have hwn := hw n hn
    simp only [List.length_cons] at hwn hw
    have hrd : ∀ i : Nat, i < 64 → rd (s.set n (rd s (n : Int) + 1)) (i : Int) = if n = i then rd s (n : Int) + 1 else rd s (i : Int) := by
      intro i hi
      rw [rdg _ i (by simp; omega), List.getElem_set, rdg s i (by omega)]
    rw [cells_of.l0, if_pos hc, Int.toNat_natCast, w64 (by omega) (by omega), of_l l _ (by rw [List.length_set]; exact hs) (fun c h => hb c (by simp [h])) (fun i hi => by
      rw [hrd i hi]
      have := hw i hi
      split <;> omega)]
    congr 1
    unfold more
    apply List.map_congr_left
    intro i hi
    rw [List.mem_range] at hi
    rw [hrd i hi, List.count_cons]
    by_cases e : n = i
    · subst e; simp; omega
    · rw [if_neg e, if_neg (by simp; omega)]; simp
theorem zeros_rd (i : Nat) (hi : i < 64) : rd zeros (i : Int) = 0 := by
  unfold rd zeros
  rw [Int.toNat_natCast, List.getD_eq_getElem?_getD, List.getElem?_replicate]
  split <;> rfl
theorem more_zeros (l : List Int) : more zeros l = Gr.tal l := by
  unfold more Gr.tal
  apply List.map_congr_left
  intro i hi
  rw [List.mem_range] at hi
  have : rd zeros (i : Int) = 0 := zeros_rd i hi
  rw [this, Int.zero_add]
theorem cells_of_ (o : Int) (d s : List Int) : Ev (fun k => cells_of.f k o d s) (Gr.tal (Gr.cls o d s 64)) := by
  have hb := cls_bound o d s 64
  refine Ev.congr (fun k => by rw [cells_of.f]) (Ev.bind (cells_list o d s) ?_)
  refine Ev.congr (fun k => ?_) (Ev.now _)
  rw [if_pos (by omega), of_l _ zeros (by decide) hb.2 (fun i hi => by
    have : rd zeros (i : Int) = 0 := zeros_rd i hi
    omega), more_zeros]
theorem cells_span (o : Int) (d s : List Int) : Ev (fun k => cells_Span.f k o d s) (Gr.spn (Gr.tal (Gr.cls o d s 64)) 0 0 0 false) :=
  Ev.congr (fun k => by rw [cells_Span.f]) (Ev.bind (cells_of_ o d s) (Ev.now _))
def onc (o : Int) (d s : List Int) : Bool := if ((Gr.tal (Gr.cls o d s 64)).any fun x => decide (x > 1)) = true then false else Gr.rgt o d s 64
theorem cells_once (o : Int) (d s : List Int) : Ev (fun k => cells_Once.f k o d s) (onc o d s) := by
  refine Ev.congr (fun k => by rw [cells_Once.f]) (Ev.bind (cells_of_ o d s) ?_)
  unfold onc
  by_cases h : ((Gr.tal (Gr.cls o d s 64)).any fun x => decide (x > 1)) = true
  · rw [if_pos h]; exact Ev.congr (fun k => by rw [if_pos h]) (Ev.now _)
  · rw [if_neg h]; exact Ev.congr (fun k => by rw [if_neg h]) (view_rgt o d s 64)
def tms (o : Int) (d s : List Int) (a : Int) : Int := if a < 0 ∨ a ≥ 64 then 0 else rd (Gr.tal (Gr.cls o d s 64)) a
theorem cells_times (o : Int) (d s : List Int) (a : Int) : Ev (fun k => cells_Times.f k o d s a) (tms o d s a) := by
  unfold tms
  by_cases h : a < 0 ∨ a ≥ 64
  · rw [if_pos h]; exact Ev.congr (fun k => by rw [cells_Times.f, if_pos h]) (Ev.now _)
  · rw [if_neg h]; exact Ev.congr (fun k => by rw [cells_Times.f, if_neg h]) (Ev.bind (cells_of_ o d s) (Ev.now _))
end Go.Proofs.Ytjbpekblcecneaa.S
namespace Go.Proofs.Ytjbpekblcecneaa.Pure
open Go.RowKit Go.Proofs.Ytjbpekblcecneaa.Q Go.Proofs.YtjbpekblcecneaaW.PrintWords Go.Proofs.YtjbpekblcecneaaW.PrintLast Go.Proofs.Ytjbpekblcecneaa.S
set_option linter.unusedVariables false

theorem once_two {o : Int} {d s : List Int} (h : Gr.rgt o d s 64 = true) (he : (Gr.vex o d s (2 :: d)).2.2.2 = 0) : onc (Gr.vex o d s (2 :: d)).1 (Gr.vex o d s (2 :: d)).2.1 (Gr.vex o d s (2 :: d)).2.2.1 = false := by
  obtain ⟨L, hL, hb, e⟩ := Gr.vex_two h he
  unfold onc
  rw [e, if_pos (Gr.tal_two hL hb)]
theorem same_end (o : Int) (d s : List Int) (h : Gr.rgt o d s 64 = true) : Ev (fun k => (some (([2] : List Int) : List Int)).bind fun y => (if y.length + d.length < 17592186044416 then ((view_Expand.f k o d s (y ++ d)).bind fun t => (if true = true then (if t.2.2.2 = 0 then ((cells_Once.f k t.1 t.2.1 t.2.2.1).bind fun u => (if u = true then (some false) else ((gradinelaw23_same.f).bind fun v => (some v)))) else ((gradinelaw23_same.f).bind fun v => (some v))) else (some false))) else (none))) true := by
  have hd := (Gr.chk_ok (Gr.rgt_ok h).1.1).1
  have hs : Ev (fun _ : Nat => (gradinelaw23_same.f).bind fun t => some t) true := Ev.now _
  refine Ev.congr (fun k => by rw [Option.bind_some, if_pos (by simp; omega)]) (Ev.bind (view_expand o d s ([2] ++ d)) ?_)
  rw [show ([2] : List Int) ++ d = 2 :: d from rfl]
  by_cases he : (Gr.vex o d s (2 :: d)).2.2.2 = 0
  · refine Ev.congr (fun k => by rw [if_pos rfl, if_pos he]) (Ev.bind (cells_once _ _ _) ?_)
    rw [once_two h he]
    exact Ev.congr (fun k => by rw [if_neg (by simp)]) hs
  · exact Ev.congr (fun k => by rw [if_pos rfl, if_neg he]) hs
theorem once_perm {o o' : Int} {d s d' s' : List Int} (h : Gr.rgt o d s 64 = true) (hp : (Gr.cls o d s 64).Perm (Gr.cls o' d' s' 64)) : Gr.tal (Gr.cls o' d' s' 64) = Gr.tal (Gr.cls o d s 64) ∧ onc o' d' s' = onc o d s := by
  have e := Gr.tal_perm hp
  have hr : Gr.rgt o' d' s' 64 = true := by
    rw [← Gr.cls_pos, ← hp.length_eq, Gr.cls_pos]; exact h
  refine ⟨e.symm, ?_⟩
  unfold onc
  rw [e, h, hr]
theorem CellsSame (o : Int) (d s axes : List Int) (n : Int) : Ev (fun k => gradinelaw23_CellsSame.f k o d s axes n) true := by
  have hs : Ev (fun _ : Nat => (gradinelaw23_same.f).bind fun t => some t) true := Ev.now _
  have stop : Ev (fun k => gradinelaw23_CellsSame.j0 k axes n true o d s) true := by
    refine Ev.step (fun k => ?_) hs
    rw [gradinelaw23_CellsSame.j0, if_pos rfl]
  by_cases h1 : (d.length : Int) > 20
  · exact Ev.congr (fun k => by rw [gradinelaw23_CellsSame.f, gradinelaw22_Many.f, if_pos h1, Option.bind_some, if_pos rfl]) stop
  · by_cases h2 : (s.length : Int) > 20
    · exact Ev.congr (fun k => by rw [gradinelaw23_CellsSame.f, gradinelaw22_Many.f, if_neg h1, Option.bind_some, if_pos (decide_eq_true h2)]) stop
    · by_cases h3 : (axes.length : Int) > 20
      · exact Ev.congr (fun k => by rw [gradinelaw23_CellsSame.f, gradinelaw22_Many.f, if_neg h1, Option.bind_some, if_neg (by simpa using h2), if_pos h3]) stop
      · refine Ev.congr (fun k => by rw [gradinelaw23_CellsSame.f, gradinelaw22_Many.f, if_neg h1, Option.bind_some, if_neg (by simpa using h2), if_neg h3]) (Ev.bind (ref_right o d s 64) ?_)
        by_cases h : Gr.rgt o d s 64 = true
        · rw [h]
          have hne : Gr.cls o d s 64 ≠ [] := fun e => by have := (Gr.cls_pos o d s 64).2 h; rw [e] at this; simp at this
          have hsome : (Gr.spn (Gr.tal (Gr.cls o d s 64)) 0 0 0 false).2.2 = true := by
            rw [Gr.spn_some, Gr.tal_some hne (cls_bound o d s 64).2]; rfl
          have hend := same_end o d s h
          have j2 : Ev (fun k => gradinelaw23_CellsSame.j2 k true false o d s) true := by
            refine Ev.step (fun k => by rw [gradinelaw23_CellsSame.j2, if_neg (by simp)]) hend
          have j1 : Ev (fun k => gradinelaw23_CellsSame.j1 k (Gr.spn (Gr.tal (Gr.cls o d s 64)) 0 0 0 false).1 (Gr.spn (Gr.tal (Gr.cls o d s 64)) 0 0 0 false).2.1 (Gr.spn (Gr.tal (Gr.cls o d s 64)) 0 0 0 false).2.2 (Gr.flp o d s n).2.2.2 o d s (Gr.flp o d s n).1 (Gr.flp o d s n).2.1 (Gr.flp o d s n).2.2.1) true := by
            rw [hsome]
            by_cases he : (Gr.flp o d s n).2.2.2 = 0
            · obtain ⟨et, eo⟩ := once_perm h (Gr.flp_perm h he)
              refine Ev.step (fun k => by rw [gradinelaw23_CellsSame.j1, if_pos he]) (Ev.bind (cells_span _ _ _) ?_)
              rw [et]
              refine Ev.congr (fun k => by rw [if_pos rfl, if_pos rfl, hsome, if_neg (by simp)]) (Ev.bind (cells_once _ _ _) (Ev.bind (cells_once o d s) ?_))
              rw [eo]
              refine Ev.congr (fun k => by rw [if_neg (by simp)]) (Ev.bind (cells_times _ _ _ _) (Ev.bind (cells_times o d s _) ?_))
              have e2 : ∀ a, tms (Gr.flp o d s n).1 (Gr.flp o d s n).2.1 (Gr.flp o d s n).2.2.1 a = tms o d s a := fun a => by unfold tms; rw [et]
              rw [e2, bne_self_eq_false]
              exact j2
            · exact Ev.step (fun k => by rw [gradinelaw23_CellsSame.j1, if_neg he]) hend
          refine Ev.step (fun k => by rw [gradinelaw23_CellsSame.j0, if_neg (by simp)]) (Ev.bind (cells_span o d s) (Ev.bind (view_permute o d s axes (by omega)) (Ev.bind (view_flip o d s n) ?_)))
          by_cases he : (Gr.pmt o d s axes).2.2.2 = 0
          · obtain ⟨et, eo⟩ := once_perm h (Gr.pmt_perm h he)
            refine Ev.congr (fun k => by rw [if_pos he]) (Ev.bind (cells_span _ _ _) ?_)
            rw [et]
            refine Ev.congr (fun k => by rw [if_pos rfl, if_pos rfl, if_neg (by simp)]) (Ev.bind (cells_once _ _ _) (Ev.bind (cells_once o d s) ?_))
            rw [eo]
            refine Ev.congr (fun k => by rw [if_neg (by simp)]) (Ev.bind (cells_times _ _ _ _) (Ev.bind (cells_times o d s _) ?_))
            have e2 : ∀ a, tms (Gr.pmt o d s axes).1 (Gr.pmt o d s axes).2.1 (Gr.pmt o d s axes).2.2.1 a = tms o d s a := fun a => by unfold tms; rw [et]
            rw [e2]
            exact Ev.congr (fun k => by rw [if_pos rfl]) j1
          · exact Ev.congr (fun k => by rw [if_neg he]) j1
        · rw [Bool.eq_false_iff.2 h]
          exact stop
theorem CellsSame_walk (w : World) (o : Int) (_ : (Lit.int .i64 o).wf = true) (A1 : Option Addr) (c1 : Nat) (d : List Int) (hr1 : Kd.C (Kd.int .i64) w A1 d.length d) (hc1 : d.length ≤ c1) (_ : ∀ x ∈ d, (Lit.int .i64 x).wf = true)
    (A2 : Option Addr) (c2 : Nat) (s : List Int) (hr2 : Kd.C (Kd.int .i64) w A2 s.length s) (hc2 : s.length ≤ c2) (_ : ∀ x ∈ s, (Lit.int .i64 x).wf = true)
    (A3 : Option Addr) (c3 : Nat) (axes : List Int) (hr3 : Kd.C (Kd.int .i64) w A3 axes.length axes) (hc3 : axes.length ≤ c3) (_ : ∀ x ∈ axes, (Lit.int .i64 x).wf = true) (n : Int) (_ : (Lit.int .i64 n).wf = true) :
    Calls Try.prog 7 #[.agg #[.int .i64 o, .slice A1 d.length c1, .slice A2 s.length c2], .slice A3 axes.length c3, .int .i64 n] w fun e w' => e = .returned (.bool true) ∧ Below w.heap.size w w' := by
  obtain ⟨k, h⟩ := (CellsSame o d s axes n).rounds
  exact gradinelaw23_CellsSame.calls k o A1 c1 d A2 c2 s A3 c3 axes n w hr1 hc1 hr2 hc2 hr3 hc3 h

end Go.Proofs.Ytjbpekblcecneaa.Pure
