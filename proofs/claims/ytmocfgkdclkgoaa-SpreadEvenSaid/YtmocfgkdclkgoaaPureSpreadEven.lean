/- The law SpreadEven: each element is broadcast to equally many elements, and dims fit the broadcast dims of themselves and others. -/
import Derived.Test.YtmocfgkdclkgoaaQx0
import Derived.Test.YtmocfgkdclkgoaaQxfLaw19Many
import Derived.Test.YtmocfgkdclkgoaaQxfLaw21Same
import Derived.Test.YtmocfgkdclkgoaaQxfRef19Check
import Derived.Test.YtmocfgkdclkgoaaQxfRef19Count
import Derived.Test.YtmocfgkdclkgoaaQxfRef19Same
import Derived.Test.YtmocfgkdclkgoaaQxfRef21Fits
import Derived.Test.YtmocfgkdclkgoaaQxfRef21Two
import Derived.Test.YtmocfgkdclkgoaaQxfShapeCheck
import Derived.Test.YtmocfgkdclkgoaaQxfShapeCount
import Derived.Test.YtmocfgkdclkgoaaQxfShapeSame
import Derived.Test.YtmocfgkdclkgoaaQxfSlicesEqualIntInt
import Derived.Test.YtmocfgkdclkgoaaQxfSpreadFits
import Derived.Test.YtmocfgkdclkgoaaQxfSpreadSize
import Derived.Test.YtmocfgkdclkgoaaQxfSpreadSource
import Derived.Test.YtmocfgkdclkgoaaQxfSpreadTwo
import Derived.Test.YtmocfgkdclkgoaaQxfWalkAt
import Derived.Test.YtmocfgkdclkgoaaQxfWalkIn
import Derived.Test.YtmocfgkdclkgoaaQxfWalkPlace
import Derived.Test.YtmocfgkdclkgoaaMath
namespace Gr
/-- How many elements dims have; 0, if they may not be. -/
def cnt (d : List Int) : Int := if chk d = 0 then prod d else 0
/-- Are axes such as may be, those of 'seen' being taken? -/
def axv (rank : Int) : List Int → List Int → Bool
  | _, [] => true
  | seen, a :: l => decide (0 ≤ a) && decide (a < rank) && !(seen.contains a) && axv rank (seen ++ [a]) l
def mks (rank : Nat) (l : List Int) : List Bool := (List.range rank).map fun i : Nat => l.isEmpty || l.contains (i : Int)
def axs (rank : Int) (l : List Int) : List Bool × Int :=
  if rank < 0 ∨ 6 < rank then ([], 9) else if axv rank [] l = true then (mks rank.toNat l, 0) else ([], 10)
def drp (keep : Bool) : List Bool → List Int → List Int
  | m :: ms, x :: xs => if m = true then (if keep = true then 1 :: drp keep ms xs else drp keep ms xs) else x :: drp keep ms xs
  | _, _ => []
def drop (d axes : List Int) (keep : Bool) : List Int × Int :=
  if chk d = 0 then (if (axs d.length axes).2 = 0 then (drp keep (axs d.length axes).1 d, 0) else ([], (axs d.length axes).2)) else ([], chk d)
theorem chk_ok {d : List Int} (h : chk d = 0) : d.length ≤ 6 ∧ (∀ x ∈ d, 1 ≤ x) ∧ prod d ≤ 64 := by
  unfold chk at h
  split at h
  · omega
  · rename_i h6
    split at h
    · omega
    · rename_i h1
      split at h
      · omega
      · rename_i h2
        refine ⟨by omega, fun x hx => ?_, by omega⟩
        rw [Bool.not_eq_true, List.any_eq_false] at h1
        have := h1 x hx
        simp at this
        omega
theorem ok_le {d : List Int} (h : chk d = 0) : ∀ x ∈ d, x ≤ 64 := by
  obtain ⟨_, h1, h2⟩ := chk_ok h
  intro x hx
  obtain ⟨a, b, rfl⟩ := List.append_of_mem hx
  rw [prod_append] at h2
  simp only [prod] at h2
  have ha := prod_pos a (fun y hy => h1 y (by simp [hy]))
  have hb := prod_pos b (fun y hy => h1 y (by simp [hy]))
  have hx1 := h1 x (by simp)
  have h3 : 1 * (x * prod b) ≤ prod a * (x * prod b) := Int.mul_le_mul_of_nonneg_right ha (Int.mul_nonneg (by omega) (by omega))
  have h4 : x * 1 ≤ x * prod b := Int.mul_le_mul_of_nonneg_left hb (by omega)
  omega
theorem cnt_ok {d : List Int} (h : chk d = 0) : cnt d = prod d ∧ 1 ≤ cnt d ∧ cnt d ≤ 64 := by
  obtain ⟨h6, h1, h2⟩ := chk_ok h
  have := prod_pos d h1
  unfold cnt
  rw [if_pos h]
  exact ⟨rfl, this, h2⟩
/-- The place of the n-th element. -/
def dig : List Int → Int → List Int
  | [], _ => []
  | x :: l, n => n / prod l % x :: dig l n
/-- The number of a place. -/
def num : List Int → List Int → Int
  | _ :: d, a :: r => a * prod d + num d r
  | _, _ => 0
/-- Is it a place of these dims? -/
def inb : List Int → List Int → Bool
  | [], [] => true
  | x :: d, a :: r => decide (0 ≤ a) && decide (a < x) && inb d r
  | _, _ => false
def ind (d at_ : List Int) : Bool := decide (chk d = 0) && inb d at_
def att (d : List Int) (n : Int) : List Int × Bool := if 0 ≤ n ∧ n < cnt d then (dig d n, true) else ([], false)
def plc (d at_ : List Int) : Int × Bool := if ind d at_ = true then (num d at_, true) else (0, false)
def alls (d : List Int) : List (List Int) := if chk d = 0 then (List.range (prod d).toNat).map fun n : Nat => dig d (n : Int) else []
theorem dig_length (d : List Int) (n : Int) : (dig d n).length = d.length := by
  induction d with
  | nil => rfl
  | cons x d ih => simp [dig, ih]
theorem inb_dig (d : List Int) (h : ∀ x ∈ d, 1 ≤ x) (n : Int) : inb d (dig d n) = true := by
  induction d with
  | nil => rfl
  | cons x d ih =>
    have hx := h x (by simp)
    simp only [inb, dig]
    rw [ih (fun y hy => h y (by simp [hy]))]
    have b1 := Int.emod_nonneg (n / prod d) (show x ≠ 0 by omega)
    have b2 := Int.emod_lt_of_pos (n / prod d) (show 0 < x by omega)
    simp [b1, b2]
theorem inb_length {d r : List Int} (h : inb d r = true) : r.length = d.length := by
  induction d generalizing r with
  | nil => cases r <;> simp_all [inb]
  | cons x d ih =>
    cases r with
    | nil => simp [inb] at h
    | cons a r =>
      simp only [inb, Bool.and_eq_true] at h
      simp [ih h.2]
theorem num_lt (d r : List Int) (h : ∀ x ∈ d, 1 ≤ x) (hi : inb d r = true) : 0 ≤ num d r ∧ num d r < prod d := by
  induction d generalizing r with
  | nil => cases r <;> simp [num, prod]
  | cons x d ih =>
    cases r with
    | nil => simp [inb] at hi
    | cons a r =>
      simp only [inb, Bool.and_eq_true, decide_eq_true_eq] at hi
      obtain ⟨i1, i2⟩ := ih r (fun y hy => h y (by simp [hy])) hi.2
      have hp := prod_pos d (fun y hy => h y (by simp [hy]))
      simp only [num, prod]
      have b5 : 0 ≤ a * prod d := Int.mul_nonneg hi.1.1 (by omega)
      have b6 : (a + 1) * prod d ≤ x * prod d := Int.mul_le_mul_of_nonneg_right (by omega) (by omega)
      rw [Int.add_mul] at b6
      omega
theorem dig_add (d : List Int) (h : ∀ x ∈ d, 1 ≤ x) (a m : Int) : dig d (a * prod d + m) = dig d m := by
  induction d generalizing a with
  | nil => rfl
  | cons y d ih =>
    have hy := h y (by simp)
    have hp := prod_pos d (fun z hz => h z (by simp [hz]))
    simp only [dig, prod]
    rw [show a * (y * prod d) = (a * y) * prod d by rw [Int.mul_assoc]]
    rw [ih (fun z hz => h z (by simp [hz])) (a * y)]
    rw [Int.add_comm ((a * y) * prod d) m, Int.add_mul_ediv_right _ _ (by omega), Int.mul_comm a y, Int.add_mul_emod_self_left]
theorem range_mul {α : Type} (f : Nat → α) (P X : Nat) : (List.range (P * X)).map f = (List.range P).flatMap fun n => (List.range X).map fun v => f (n * X + v) := by
  induction P with
  | zero => simp
  | succ P ih =>
    rw [List.range_succ, List.flatMap_append, ← ih, Nat.succ_mul, List.range_add, List.map_append, List.map_map]
    simp only [List.flatMap_cons, List.flatMap_nil, List.append_nil]
    rfl
/-- All places of a prefix. -/
def pre (p : List Int) : List (List Int) := (List.range (prod p).toNat).map fun n : Nat => dig p (n : Int)
theorem alls_ok {d : List Int} (h : chk d = 0) : alls d = pre d := by unfold alls; rw [if_pos h]; rfl
theorem alls_length (d : List Int) : ((alls d).length : Int) = cnt d := by
  unfold alls cnt
  split
  · rename_i h
    have := prod_pos d (chk_ok h).2.1
    simp; omega
  · rfl
theorem alls_get (d : List Int) (n : Nat) (h : n < (alls d).length) : (alls d)[n] = dig d (n : Int) := by
  unfold alls at h ⊢
  split
  · simp
  · rename_i hc; rw [if_neg hc] at h; simp at h
def mx (a b : Int) : Int := if a < b then b else a
/-- Dims with 1 ahead, n in all. -/
def pad (n : Nat) (l : List Int) : List Int := List.replicate (n - l.length) 1 ++ l
/-- Do they go together, one by one? -/
def fitz : List Int → List Int → Bool
  | x :: a, y :: b => (x == y || x == 1 || y == 1) && fitz a b
  | _, _ => true
def mxs : List Int → List Int → List Int
  | x :: a, y :: b => mx x y :: mxs a b
  | _, _ => []
def tw (p q : List Int) : List Int × Int := if fitz p q = true then (if chk (mxs p q) = 0 then (mxs p q, 0) else ([], chk (mxs p q))) else ([], 8)
def rank2 (a b : List Int) : Nat := max a.length b.length
def two (a b : List Int) : List Int × Int :=
  if chk a = 0 then (if chk b = 0 then tw (pad (rank2 a b) a) (pad (rank2 a b) b) else ([], chk b)) else ([], chk a)
def fts (a b : List Int) : Bool := decide ((two a b).2 = 0) && decide ((two a b).1 = b)
/-- The place that is spread to one. -/
def sat : List Int → List Int → List Int
  | x :: f, v :: q => (if x = 1 then 0 else v) :: sat f q
  | _, _ => []
def src (a b : List Int) (n : Int) : Int := num a (sat a ((dig b n).drop (b.length - a.length)))
def srcs (a b : List Int) : List Int := if fts a b = true then (alls b).map fun p => num a (sat a (p.drop (b.length - a.length))) else []
theorem pad_length (n : Nat) (l : List Int) (h : l.length ≤ n) : (pad n l).length = n := by simp [pad]; omega
theorem pad_self (l : List Int) : pad l.length l = l := by simp [pad]
theorem mxs_length (a b : List Int) (h : a.length = b.length) : (mxs a b).length = a.length := by
  induction a generalizing b with
  | nil => cases b <;> simp [mxs]
  | cons x a ih =>
    cases b with
    | nil => simp at h
    | cons y b => simp [mxs, ih b (by simpa using h)]
theorem fitz_drop (a b : List Int) (i : Nat) (h : fitz a b = true) : fitz (a.drop i) (b.drop i) = true := by
  induction i generalizing a b with
  | zero => simpa using h
  | succ i ih =>
    cases a with
    | nil => simp [fitz]
    | cons x a =>
      cases b with
      | nil => simp [fitz]
      | cons y b =>
        simp only [fitz, Bool.and_eq_true] at h
        simpa using ih a b h.2
theorem pad_at (n : Nat) (l : List Int) (h : l.length ≤ n) (i : Nat) (hi : i < n) :
    (pad n l)[i]'(by rw [pad_length n l h]; exact hi) = if h2 : n - l.length ≤ i then l[i - (n - l.length)]'(by omega) else 1 := by
  unfold pad
  split
  · rename_i h2
    rw [List.getElem_append_right (by simpa using h2)]
    simp
  · rename_i h2
    rw [List.getElem_append_left (by simp; omega)]
    simp
theorem mx_comm (x y : Int) : mx x y = mx y x := by unfold mx; split <;> split <;> omega
theorem mxs_comm (a b : List Int) : mxs a b = mxs b a := by
  induction a generalizing b with
  | nil => cases b <;> rfl
  | cons x a ih =>
    cases b with
    | nil => rfl
    | cons y b => simp only [mxs]; rw [ih b, mx_comm]
theorem fitz_comm (a b : List Int) : fitz a b = fitz b a := by
  induction a generalizing b with
  | nil => cases b <;> rfl
  | cons x a ih =>
    cases b with
    | nil => rfl
    | cons y b =>
      simp only [fitz]
      rw [ih b]
      congr 1
      rw [show (x == y) = (y == x) from Bool.eq_iff_iff.2 (by simp; exact ⟨Eq.symm, Eq.symm⟩)]
      cases (y == x) <;> cases (x == 1) <;> cases (y == 1) <;> rfl
/-- f is 1 or t, everywhere. -/
def sub : List Int → List Int → Bool
  | x :: f, y :: t => (x == 1 || x == y) && sub f t
  | [], [] => true
  | _, _ => false
theorem sub_iff (f t : List Int) (hl : f.length = t.length) (hf : ∀ x ∈ f, 1 ≤ x) (ht : ∀ x ∈ t, 1 ≤ x) : sub f t = true ↔ fitz f t = true ∧ mxs f t = t := by
  induction f generalizing t with
  | nil => cases t <;> simp_all [sub, fitz, mxs]
  | cons x f ih =>
    cases t with
    | nil => simp at hl
    | cons y t =>
      have h1 := hf x (by simp)
      have h2 := ht y (by simp)
      have := ih t (by simpa using hl) (fun z hz => hf z (by simp [hz])) (fun z hz => ht z (by simp [hz]))
      simp only [sub, fitz, mxs, Bool.and_eq_true, Bool.or_eq_true, beq_iff_eq, List.cons.injEq, this]
      constructor
      · rintro ⟨h | h, h3, h4⟩
        · exact ⟨⟨.inl (.inr h), h3⟩, by unfold mx; split <;> omega, h4⟩
        · exact ⟨⟨.inl (.inl h), h3⟩, by unfold mx; split <;> omega, h4⟩
      · rintro ⟨⟨h, h3⟩, h5, h4⟩
        unfold mx at h5
        refine ⟨?_, h3, h4⟩
        split at h5
        · rcases h with (h | h) | h
          · exact .inr h
          · exact .inl h
          · omega
        · exact .inr h5
theorem pad_pos (n : Nat) (l : List Int) (h : ∀ x ∈ l, 1 ≤ x) : ∀ x ∈ pad n l, 1 ≤ x := by
  intro x hx
  unfold pad at hx
  rcases List.mem_append.1 hx with hx | hx
  · have := List.eq_of_mem_replicate hx; omega
  · exact h x hx
theorem prod_pad (n : Nat) (l : List Int) : prod (pad n l) = prod l := by
  unfold pad
  rw [prod_append]
  have : ∀ m : Nat, prod (List.replicate m 1) = 1 := by
    intro m
    induction m with
    | zero => rfl
    | succ m ih => simp [List.replicate_succ, prod, ih]
  rw [this, Int.one_mul]
/-- What 'fits' says. -/
theorem fts_iff (a b : List Int) : fts a b = true ↔ chk a = 0 ∧ chk b = 0 ∧ a.length ≤ b.length ∧ sub (pad b.length a) b = true := by
  unfold fts
  simp only [Bool.and_eq_true, decide_eq_true_eq]
  constructor
  · rintro ⟨h1, h2⟩
    unfold two at h1 h2
    split at h1
    · rename_i ha
      rw [if_pos ha] at h2
      split at h1
      · rename_i hb
        rw [if_pos hb] at h2
        unfold tw at h1 h2
        split at h1
        · rename_i hf
          rw [if_pos hf] at h2
          split at h1
          · rename_i hc
            rw [if_pos hc] at h2
            simp only at h2
            have hl := mxs_length (pad (rank2 a b) a) (pad (rank2 a b) b) (by rw [pad_length, pad_length] <;> unfold rank2 <;> omega)
            rw [h2, pad_length _ _ (by unfold rank2; omega)] at hl
            have hle : a.length ≤ b.length := by unfold rank2 at hl; omega
            rw [← hl, pad_self] at hf h2
            refine ⟨ha, hb, hle, (sub_iff _ _ (pad_length _ _ hle) (pad_pos _ _ (chk_ok ha).2.1) (chk_ok hb).2.1).2 ⟨hf, h2⟩⟩
          · rename_i hc; exact absurd h1 hc
        · simp at h1
      · rename_i hb; exact absurd h1 hb
    · rename_i ha; exact absurd h1 ha
  · rintro ⟨ha, hb, hle, hs⟩
    obtain ⟨s1, s2⟩ := (sub_iff _ _ (pad_length _ _ hle) (pad_pos _ _ (chk_ok ha).2.1) (chk_ok hb).2.1).1 hs
    have e : two a b = (b, 0) := by
      unfold two
      have hr : rank2 a b = b.length := by unfold rank2; omega
      rw [if_pos ha, if_pos hb, hr, pad_self]
      unfold tw
      rw [if_pos s1, s2, if_pos hb]
    rw [e]; exact ⟨rfl, rfl⟩
theorem tw_ok {p q x : List Int} (h : tw p q = (x, 0)) : fitz p q = true ∧ chk x = 0 ∧ mxs p q = x := by
  unfold tw at h
  split at h
  · rename_i hf
    split at h
    · rename_i hc
      simp only [Prod.mk.injEq, and_true] at h
      subst h
      exact ⟨hf, hc, rfl⟩
    · rename_i hc
      simp only [Prod.mk.injEq] at h
      exact absurd h.2 hc
  · simp at h
theorem two_ok {a b x : List Int} (h : two a b = (x, 0)) : chk a = 0 ∧ chk b = 0 ∧ fitz (pad (rank2 a b) a) (pad (rank2 a b) b) = true ∧ chk x = 0 ∧ mxs (pad (rank2 a b) a) (pad (rank2 a b) b) = x := by
  unfold two at h
  split at h
  · rename_i ha
    split at h
    · rename_i hb
      obtain ⟨h1, h2, h3⟩ := tw_ok h
      exact ⟨ha, hb, h1, h2, h3⟩
    · rename_i hb
      simp only [Prod.mk.injEq] at h
      exact absurd h.2 hb
  · rename_i ha
    simp only [Prod.mk.injEq] at h
    exact absurd h.2 ha
theorem sub_mxs (p q : List Int) (hl : p.length = q.length) (hp : ∀ x ∈ p, 1 ≤ x) (hq : ∀ x ∈ q, 1 ≤ x) (h : fitz p q = true) : sub p (mxs p q) = true := by
  induction p generalizing q with
  | nil => cases q <;> simp_all [sub, mxs]
  | cons x p ih =>
    cases q with
    | nil => simp at hl
    | cons y q =>
      have h1 := hp x (by simp)
      have h2 := hq y (by simp)
      simp only [fitz, Bool.and_eq_true, Bool.or_eq_true, beq_iff_eq] at h
      simp only [sub, mxs, Bool.and_eq_true, Bool.or_eq_true, beq_iff_eq]
      refine ⟨?_, ih q (by simpa using hl) (fun z hz => hp z (by simp [hz])) (fun z hz => hq z (by simp [hz])) h.2⟩
      unfold mx
      split <;> omega
theorem two_length {a b x : List Int} (h : two a b = (x, 0)) : x.length = rank2 a b := by
  obtain ⟨h1, h2, h3, h4, h5⟩ := two_ok h
  rw [← h5, mxs_length, pad_length _ _ (by unfold rank2; omega)]
  rw [pad_length _ _ (by unfold rank2; omega), pad_length _ _ (by unfold rank2; omega)]
/-- Each fits the dims to which both go together. -/
theorem fts_two {a b x : List Int} (h : two a b = (x, 0)) : fts a x = true ∧ fts b x = true := by
  obtain ⟨h1, h2, h3, h4, h5⟩ := two_ok h
  have hl := two_length h
  have la : (pad (rank2 a b) a).length = rank2 a b := pad_length _ _ (by unfold rank2; omega)
  have lb : (pad (rank2 a b) b).length = rank2 a b := pad_length _ _ (by unfold rank2; omega)
  have pa := pad_pos (rank2 a b) a (chk_ok h1).2.1
  have pb := pad_pos (rank2 a b) b (chk_ok h2).2.1
  refine ⟨(fts_iff a x).2 ⟨h1, h4, by unfold rank2 at hl; omega, ?_⟩, (fts_iff b x).2 ⟨h2, h4, by unfold rank2 at hl; omega, ?_⟩⟩
  · rw [hl, ← h5]; exact sub_mxs _ _ (by rw [la, lb]) pa pb h3
  · rw [hl, ← h5, mxs_comm]; exact sub_mxs _ _ (by rw [la, lb]) pb pa (by rw [fitz_comm]; exact h3)
theorem sub_drop {f t : List Int} (h : sub f t = true) (i : Nat) : sub (f.drop i) (t.drop i) = true := by
  induction i generalizing f t with
  | zero => simpa using h
  | succ i ih =>
    cases f with
    | nil => cases t <;> simp_all [sub]
    | cons x f =>
      cases t with
      | nil => simp [sub] at h
      | cons y t =>
        simp only [sub, Bool.and_eq_true] at h
        simpa using ih h.2
theorem pad_drop (n : Nat) (l : List Int) : (pad n l).drop (n - l.length) = l := by
  unfold pad
  rw [List.drop_append_of_le_length (by simp)]
  simp
theorem inb_sat (f t q : List Int) (hs : sub f t = true) (hf : ∀ x ∈ f, 1 ≤ x) (hq : inb t q = true) : inb f (sat f q) = true := by
  induction f generalizing t q with
  | nil => cases t <;> cases q <;> simp_all [sub, inb, sat]
  | cons x f ih =>
    cases t with
    | nil => simp [sub] at hs
    | cons y t =>
      cases q with
      | nil => simp [inb] at hq
      | cons v q =>
        have h1 := hf x (by simp)
        simp only [sub, Bool.and_eq_true, Bool.or_eq_true, beq_iff_eq] at hs
        simp only [inb, Bool.and_eq_true, decide_eq_true_eq] at hq
        simp only [inb, sat, Bool.and_eq_true, decide_eq_true_eq]
        refine ⟨?_, ih t q hs.2 (fun z hz => hf z (by simp [hz])) hq.2⟩
        split <;> omega
theorem inb_drop {d r : List Int} (h : inb d r = true) (i : Nat) : inb (d.drop i) (r.drop i) = true := by
  induction i generalizing d r with
  | zero => simpa using h
  | succ i ih =>
    cases d with
    | nil => cases r <;> simp_all [inb]
    | cons x d =>
      cases r with
      | nil => simp [inb] at h
      | cons y r =>
        simp only [inb, Bool.and_eq_true] at h
        simpa using ih h.2
theorem src_in {a b : List Int} (h : fts a b = true) (n : Int) : inb a (sat a ((dig b n).drop (b.length - a.length))) = true := by
  obtain ⟨h1, h2, h3, h4⟩ := (fts_iff a b).1 h
  have hs := sub_drop h4 (b.length - a.length)
  rw [pad_drop] at hs
  exact inb_sat a _ _ hs (chk_ok h1).2.1 (inb_drop (inb_dig b (chk_ok h2).2.1 n) _)
theorem srcs_length (a b : List Int) (h : fts a b = true) : ((srcs a b).length : Int) = cnt b := by
  unfold srcs
  rw [if_pos h, List.length_map, alls_length]
theorem srcs_get (a b : List Int) (h : fts a b = true) (n : Nat) (hn : n < (srcs a b).length) : (srcs a b)[n] = src a b (n : Int) := by
  have e : srcs a b = (alls b).map fun p => num a (sat a (p.drop (b.length - a.length))) := by unfold srcs; rw [if_pos h]
  simp only [e, List.getElem_map, alls_get]
  rfl
theorem pre_cons (x : Int) (d : List Int) (h : ∀ y ∈ d, 1 ≤ y) (hx : 1 ≤ x) : pre (x :: d) = (List.range x.toNat).flatMap fun n : Nat => (pre d).map fun q => (n : Int) :: q := by
  have hp := prod_pos d h
  unfold pre
  simp only [prod]
  rw [Int.toNat_mul (by omega) (by omega), range_mul]
  rw [List.flatMap_def, List.flatMap_def]
  congr 1
  apply List.map_congr_left
  intro n hn
  rw [List.mem_range] at hn
  rw [List.map_map]
  apply List.map_congr_left
  intro v hv
  rw [List.mem_range] at hv
  simp only [Function.comp, dig]
  have e : ((n * (prod d).toNat + v : Nat) : Int) = (n : Int) * prod d + (v : Int) := by
    rw [Int.natCast_add, Int.natCast_mul, Int.toNat_of_nonneg (by omega)]
  rw [e, dig_add d h, Int.add_comm, Int.add_mul_ediv_right _ _ (by omega), Int.ediv_eq_zero_of_lt (by omega) (by omega), Int.zero_add, Int.emod_eq_of_lt (by omega) (by omega)]
def tms (f t : List Int) : List Int := (pre t).map fun p => num f (sat f p)
theorem mem_pre {p d : List Int} (h : ∀ y ∈ d, 1 ≤ y) (hp : p ∈ pre d) : inb d p = true := by
  obtain ⟨n, _, rfl⟩ := List.mem_map.1 hp
  exact inb_dig d h _
theorem sum_const (n c : Nat) (g : Nat → Nat) (h : ∀ i, i < n → g i = c) : ((List.range n).map g).sum = n * c := by
  induction n with
  | zero => simp
  | succ n ih => rw [List.range_succ, List.map_append, List.sum_append, ih (fun i hi => h i (by omega))]; simp [h n (by omega), Nat.succ_mul]
theorem sum_one (n c k : Nat) (g : Nat → Nat) (hk : k < n) (h1 : g k = c) (h : ∀ i, i < n → i ≠ k → g i = 0) : ((List.range n).map g).sum = c := by
  induction n with
  | zero => omega
  | succ n ih =>
    rw [List.range_succ, List.map_append, List.sum_append]
    by_cases hn : k = n
    · subst hn
      have := sum_const k 0 g (fun i hi => h i (by omega) (by omega))
      simp only [List.map_cons, List.map_nil, List.sum_cons, List.sum_nil]
      omega
    · rw [ih (by omega) (fun i hi => h i (by omega))]
      have := h n (by omega) (by omega)
      simp only [List.map_cons, List.map_nil, List.sum_cons, List.sum_nil]
      omega
theorem tms_count (f t : List Int) (hs : sub f t = true) (hf : ∀ x ∈ f, 1 ≤ x) (ht : ∀ x ∈ t, 1 ≤ x) (k : Int) (h0 : 0 ≤ k) (h1 : k < prod f) : prod f * ((tms f t).count k : Int) = prod t := by
  induction f generalizing t k with
  | nil =>
    cases t with
    | nil =>
      have : k = 0 := by simp only [prod] at h1; omega
      subst this; decide
    | cons y t => simp [sub] at hs
  | cons x f ih =>
    cases t with
    | nil => simp [sub] at hs
    | cons y t =>
      have hx := hf x (by simp)
      have hy := ht y (by simp)
      have hf' : ∀ z ∈ f, 1 ≤ z := fun z hz => hf z (by simp [hz])
      have ht' : ∀ z ∈ t, 1 ≤ z := fun z hz => ht z (by simp [hz])
      have hp := prod_pos f hf'
      simp only [sub, Bool.and_eq_true, Bool.or_eq_true, beq_iff_eq] at hs
      obtain ⟨hxy, hs⟩ := hs
      simp only [prod] at h1 ⊢
      have e : (tms (x :: f) (y :: t)).count k = ((List.range y.toNat).map fun n : Nat => ((tms f t).map fun z => (if x = 1 then 0 else (n : Int)) * prod f + z).count k).sum := by
        unfold tms
        rw [pre_cons y t ht' hy, List.map_flatMap, List.count_flatMap]
        congr 1
        apply List.map_congr_left
        intro n _
        simp only [Function.comp, List.map_map]
        rfl
      rw [e]
      by_cases hx1 : x = 1
      · subst hx1
        rw [sum_const y.toNat ((tms f t).count k) _ (fun i _ => by simp)]
        have := ih t hs hf' ht' k h0 (by omega)
        rw [Int.natCast_mul, Int.toNat_of_nonneg (by omega), Int.one_mul, ← this, ← Int.mul_assoc, ← Int.mul_assoc, Int.mul_comm (prod f)]
      · have hxy : x = y := hxy.resolve_left hx1
        subst hxy
        have hm0 := Int.emod_nonneg k (show prod f ≠ 0 by omega)
        have hm1 := Int.emod_lt_of_pos k (show 0 < prod f by omega)
        have hk := Int.emod_add_mul_ediv k (prod f)
        have hd0 : 0 ≤ k / prod f := Int.ediv_nonneg h0 (by omega)
        have hd1 : k / prod f < x := Int.ediv_lt_of_lt_mul (by omega) h1
        have hin : ∀ z ∈ tms f t, 0 ≤ z ∧ z < prod f := by
          intro z hz
          obtain ⟨p, hp1, rfl⟩ := List.mem_map.1 hz
          exact num_lt f _ hf' (inb_sat f t p hs hf' (mem_pre ht' hp1))
        have inj : ∀ i : Nat, (if x = 1 then 0 else (i : Int)) = (i : Int) := fun i => if_neg hx1
        rw [sum_one x.toNat ((tms f t).count (k % prod f)) (k / prod f).toNat _ (by omega) ?_ ?_]
        · have := ih t hs hf' ht' (k % prod f) hm0 hm1
          rw [Int.mul_assoc, this]
        · simp only [inj]
          rw [Int.toNat_of_nonneg hd0, List.count_eq_countP, List.count_eq_countP, List.countP_map]
          apply List.countP_congr
          intro z hz
          simp only [Function.comp, beq_iff_eq]
          have : k / prod f * prod f = prod f * (k / prod f) := Int.mul_comm ..
          omega
        · intro i hi hne
          simp only [inj]
          rw [List.count_eq_zero]
          intro hm
          obtain ⟨z, hz, hzk⟩ := List.mem_map.1 hm
          have hz' := hin z hz
          have e1 : k / prod f = (i : Int) := by
            rw [← hzk, Int.add_comm, Int.add_mul_ediv_right _ _ (by omega), Int.ediv_eq_zero_of_lt hz'.1 hz'.2, Int.zero_add]
          omega
theorem num_pad (i : Nat) (a p : List Int) (h : i ≤ p.length) : num (List.replicate i 1 ++ a) (sat (List.replicate i 1 ++ a) p) = num a (sat a (p.drop i)) := by
  induction i generalizing p with
  | zero => simp
  | succ i ih =>
    cases p with
    | nil => simp at h
    | cons v p =>
      rw [List.replicate_succ, List.cons_append, List.drop_succ_cons]
      simp only [sat, num, if_true, Int.zero_mul, Int.zero_add]
      exact ih p (by simpa using h)
theorem even (a b : List Int) (h : fts a b = true) (k : Int) (h0 : 0 ≤ k) (h1 : k < cnt a) : cnt a * ((srcs a b).count k : Int) = cnt b := by
  obtain ⟨ha, hb, hl, hs⟩ := (fts_iff a b).1 h
  have ea : cnt a = prod a := by unfold cnt; rw [if_pos ha]
  have eb : cnt b = prod b := by unfold cnt; rw [if_pos hb]
  have e : srcs a b = tms (pad b.length a) b := by
    unfold srcs tms
    rw [if_pos h, alls_ok hb]
    apply List.map_congr_left
    intro p hp
    unfold pad
    rw [num_pad _ _ _ (by rw [inb_length (mem_pre (chk_ok hb).2.1 hp)]; omega)]
  rw [ea] at h1
  rw [e, ea, eb, ← prod_pad b.length a]
  exact tms_count _ _ hs (pad_pos _ _ (chk_ok ha).2.1) (chk_ok hb).2.1 k h0 (by rw [prod_pad]; exact h1)
theorem sub_trans : ∀ f t x : List Int, sub f t = true → sub t x = true → sub f x = true
  | [], [], x, _, h => h
  | [], _ :: _, _, h, _ => by simp [sub] at h
  | _ :: _, [], _, h, _ => by simp [sub] at h
  | a :: f, b :: t, [], _, h => by simp [sub] at h
  | a :: f, b :: t, c :: x, h1, h2 => by
    simp only [sub, Bool.and_eq_true, Bool.or_eq_true, beq_iff_eq] at h1 h2 ⊢
    refine ⟨?_, sub_trans f t x h1.2 h2.2⟩
    have := h1.1; have := h2.1
    omega
theorem sub_ones (n : Nat) (f t : List Int) (h : sub f t = true) : sub (List.replicate n 1 ++ f) (List.replicate n 1 ++ t) = true := by
  induction n with
  | zero => simpa using h
  | succ n ih => rw [List.replicate_succ, List.cons_append, List.cons_append]; simp [sub, ih]
theorem fts_trans {a b x : List Int} (h1 : fts a b = true) (h2 : fts b x = true) : fts a x = true := by
  obtain ⟨ca, cb, l1, s1⟩ := (fts_iff a b).1 h1
  obtain ⟨_, cx, l2, s2⟩ := (fts_iff b x).1 h2
  refine (fts_iff a x).2 ⟨ca, cx, by omega, ?_⟩
  refine sub_trans _ (pad x.length b) _ ?_ s2
  have e : pad x.length a = List.replicate (x.length - b.length) 1 ++ pad b.length a := by
    unfold pad
    rw [← List.append_assoc, List.replicate_append_replicate]
    congr 2
    omega
  rw [e]
  exact sub_ones _ _ _ s1
end Gr
namespace Go.Proofs.Ytmocfgkdclkgoaa.S
open Go.RowKit Go.Proofs.Ytmocfgkdclkgoaa.Q Go.Proofs.YtmocfgkdclkgoaaW.PrintWords Go.Proofs.YtmocfgkdclkgoaaW.PrintLast Go.Proofs.YtmocfgkdclkgoaaW.PrintMore
set_option linter.unusedVariables false
set_option linter.unusedSimpArgs false
theorem w64 {x : Int} (h0 : -9223372036854775808 ≤ x) (h1 : x ≤ 9223372036854775807) : wrap64 x = x := by
  unfold wrap64; omega
theorem down (P : Nat → Prop) (n : Nat) (h0 : P n) (hs : ∀ i, i < n → P (i + 1) → P i) : ∀ i, i ≤ n → P i := by
  intro i hi
  obtain ⟨d, rfl⟩ : ∃ d, n = i + d := ⟨n - i, by omega⟩
  clear hi
  induction d generalizing i with
  | zero => exact h0
  | succ d ih =>
    apply hs i (by omega)
    exact ih (i + 1) (by rw [show i + 1 + d = i + (d + 1) by omega]; exact h0) (fun j hj hp => hs j (by omega) hp)
theorem rdg (l : List Int) (i : Nat) (h : i < l.length) : rd l (i : Int) = l[i] := by
  simp [rd, List.getD_eq_getElem?_getD, List.getElem?_eq_getElem h]
theorem dropc (l : List Int) (i : Nat) (h : i < l.length) : l.drop i = rd l (i : Int) :: l.drop (i + 1) := by
  rw [rdg l i h]; exact (List.drop_eq_getElem_cons h)
theorem nx (i n : Nat) (h : i < n) (hn : n ≤ 1000000000) : wrap64 ((i : Int) + 1) = ((i + 1 : Nat) : Int) := by
  rw [w64 (by omega) (by omega)]; omega
theorem shape_check (d : List Int) : shape_Check.f d = some (Gr.chk d) := rfl
theorem check_1 (d : List Int) (hok : ∀ x ∈ d, 1 ≤ x) (hn : d.length ≤ 6) : ∀ i, i ≤ d.length → Gr.prod (d.take i) ≤ 64 →
    Ev (fun k => gradineref19_Check.l1 k d (Gr.prod (d.take i)) (d.length : Int) (i : Int)) (if 64 < Gr.prod d then 12 else 0) := by
  apply down
  · intro h
    rw [List.take_length] at h ⊢
    rw [if_neg (by omega)]
    refine Ev.step (fun k => ?_) (Ev.now 0)
    rw [gradineref19_Check.l1, if_neg (by omega)]
  · intro i hi ih h
    have hp := Gr.prod_pos (d.take i) (fun x hx => hok x (List.mem_of_mem_take hx))
    have hs := Gr.prod_take_succ d i hi
    have h1 : 1 ≤ d[i] := hok _ (List.getElem_mem hi)
    have hle := Gr.prod_take_le d hok (i + 1)
    have hge : d[i] ≤ Gr.prod (d.take i) * d[i] := by
      have : 1 * d[i] ≤ Gr.prod (d.take i) * d[i] := Int.mul_le_mul_of_nonneg_right hp (by omega)
      omega
    by_cases e : 64 < d[i]
    · rw [if_pos (by omega)]
      refine Ev.step (fun k => ?_) (Ev.now 12)
      rw [gradineref19_Check.l1, if_pos (by omega), if_pos (by omega), if_pos (by omega), rdg d i hi, if_pos (by omega)]
    · have hb : Gr.prod (d.take i) * d[i] ≤ 64 * 64 := Int.mul_le_mul h (by omega) (by omega) (by omega)
      by_cases e2 : 64 < Gr.prod (d.take i) * d[i]
      · rw [if_pos (by omega)]
        refine Ev.step (fun k => ?_) (Ev.now 12)
        rw [gradineref19_Check.l1, if_pos (by omega), if_pos (by omega), if_pos (by omega), rdg d i hi, if_neg (by omega), w64 (by omega) (by omega), if_pos (by omega)]
      · refine Ev.step (fun k => ?_) (ih (by omega))
        rw [gradineref19_Check.l1, if_pos (by omega), if_pos (by omega), if_pos (by omega), rdg d i hi, if_neg (by omega), w64 (by omega) (by omega), if_neg (by omega), nx i _ hi (by omega), ← hs]
theorem check_0 (d : List Int) (hn : d.length ≤ 6) : ∀ i, i ≤ d.length → (∀ x ∈ d.take i, 1 ≤ x) →
    Ev (fun k => gradineref19_Check.l0 k d (d.length : Int) (i : Int)) (Gr.chk d) := by
  apply down
  · intro h
    rw [List.take_length] at h
    have e : Gr.chk d = if 64 < Gr.prod d then 12 else 0 := by
      unfold Gr.chk
      rw [if_neg (by omega), if_neg]
      rw [Bool.not_eq_true, List.any_eq_false]
      intro x hx
      have := h x hx
      simp; omega
    rw [e]
    refine Ev.step (fun k => ?_) (check_1 d h hn 0 (by omega) (by simp [Gr.prod]))
    rw [gradineref19_Check.l0, if_neg (by omega)]; simp [Gr.prod]
  · intro i hi ih h
    by_cases e : d[i] < 1
    · have e8 : Gr.chk d = 8 := by
        unfold Gr.chk
        rw [if_neg (by omega), if_pos]
        rw [List.any_eq_true]
        exact ⟨d[i], List.getElem_mem hi, by simpa using e⟩
      rw [e8]
      refine Ev.step (fun k => ?_) (Ev.now 8)
      rw [gradineref19_Check.l0, if_pos (by omega), if_pos (by omega), if_pos (by omega), rdg d i hi, if_pos (by omega)]
    · refine Ev.step (fun k => ?_) (ih ?_)
      · rw [gradineref19_Check.l0, if_pos (by omega), if_pos (by omega), if_pos (by omega), rdg d i hi, if_neg (by omega), nx i _ hi (by omega)]
      · intro x hx
        rw [List.take_succ_eq_append_getElem hi, List.mem_append] at hx
        rcases hx with hx | hx
        · exact h x hx
        · simp at hx; omega
theorem ref_check (d : List Int) : Ev (fun k => gradineref19_Check.f k d) (Gr.chk d) := by
  by_cases h : 6 < d.length
  · have e : Gr.chk d = 9 := by unfold Gr.chk; rw [if_pos h]
    rw [e]
    refine Ev.congr (fun k => ?_) (Ev.now 9)
    rw [gradineref19_Check.f, if_pos (by omega)]
  · refine Ev.congr (fun k => ?_) (check_0 d (by omega) 0 (by omega) (by simp))
    rw [gradineref19_Check.f, if_neg (by omega)]; rfl
theorem prod_step {d : List Int} (hok : Gr.chk d = 0) (i : Nat) (hi : i < d.length) :
    1 ≤ Gr.prod (d.take i) ∧ Gr.prod (d.take i) * d[i] = Gr.prod (d.take (i + 1)) ∧ Gr.prod (d.take (i + 1)) ≤ 64 ∧ 1 ≤ Gr.prod (d.take (i + 1)) := by
  obtain ⟨h6, h1, h2⟩ := Gr.chk_ok hok
  have := Gr.prod_take_le d h1 (i + 1)
  exact ⟨Gr.prod_pos _ (fun x hx => h1 x (List.mem_of_mem_take hx)), (Gr.prod_take_succ d i hi).symm, by omega, Gr.prod_pos _ (fun x hx => h1 x (List.mem_of_mem_take hx))⟩
theorem count_l (d : List Int) (hok : Gr.chk d = 0) : ∀ i, i ≤ d.length →
    Ev (fun k => shape_Count.l0 k (Gr.prod (d.take i)) d (d.length : Int) (i : Int)) (Gr.prod d) := by
  obtain ⟨h6, h1, h2⟩ := Gr.chk_ok hok
  apply down
  · rw [List.take_length]
    refine Ev.step (fun k => ?_) (Ev.now _)
    rw [shape_Count.l0, if_neg (by omega)]
  · intro i hi ih
    obtain ⟨p1, p2, p3, p4⟩ := prod_step hok i hi
    refine Ev.step (fun k => ?_) ih
    rw [shape_Count.l0, if_pos (by omega), if_pos (by omega), if_pos (by omega), rdg d i hi, w64 (by omega) (by omega), nx i _ hi (by omega), p2]
theorem shape_count (d : List Int) : Ev (fun k => shape_Count.f k d) (Gr.cnt d) := by
  unfold Gr.cnt
  by_cases h : Gr.chk d = 0
  · rw [if_pos h]
    refine Ev.congr (fun k => ?_) (count_l d h 0 (by omega))
    rw [shape_Count.f, shape_check, Option.bind_some, if_pos h]; simp [Gr.prod]
  · rw [if_neg h]
    refine Ev.congr (fun k => ?_) (Ev.now 0)
    rw [shape_Count.f, shape_check, Option.bind_some, if_neg h]
theorem at_set (d x : List Int) (m : Int) (i : Nat) (hi : i < d.length) (hl : x.length = d.length) (hx : x.drop (i + 1) = Gr.dig (d.drop (i + 1)) m) :
    (x.set i (m / Gr.prod (d.drop (i + 1)) % rd d (i : Int))).drop i = Gr.dig (d.drop i) m := by
  rw [List.drop_eq_getElem_cons (by simp; omega), dropc d i hi]
  simp only [List.getElem_set_self, Gr.dig, List.cons.injEq, true_and]
  rw [List.drop_set_of_lt (by omega)]
  exact hx
theorem at_l (d : List Int) (hok : Gr.chk d = 0) (m : Int) (hm : 0 ≤ m) (hm2 : m ≤ 64) : ∀ i, i ≤ d.length → ∀ x : List Int, x.length = d.length → x.drop i = Gr.dig (d.drop i) m →
    Ev (fun k => walk_At.l0 k d (m / Gr.prod (d.drop i)) x ((i : Int) - 1)) (Gr.dig d m, true) := by
  obtain ⟨h6, h1, h2⟩ := Gr.chk_ok hok
  intro i
  induction i with
  | zero =>
    intro hi x hl hx
    simp at hx
    subst hx
    refine Ev.step (fun k => ?_) (Ev.now _)
    rw [walk_At.l0, if_neg (by omega)]
  | succ i ih =>
    intro hi x hl hx
    have hlt : i < d.length := by omega
    have hd : d.drop i = d[i] :: d.drop (i + 1) := List.drop_eq_getElem_cons hlt
    have hge : 1 ≤ d[i] := h1 _ (List.getElem_mem hlt)
    have hle : d[i] ≤ 64 := Gr.ok_le hok _ (List.getElem_mem hlt)
    have q3 := Gr.prod_pos (d.drop (i + 1)) (fun y hy => h1 y (List.mem_of_mem_drop hy))
    have hp : Gr.prod (d.drop i) = Gr.prod (d.drop (i + 1)) * d[i] := by rw [hd]; simp only [Gr.prod]; rw [Int.mul_comm]
    have h0 : 0 ≤ m / Gr.prod (d.drop (i + 1)) := Int.ediv_nonneg hm (by omega)
    have h64 : m / Gr.prod (d.drop (i + 1)) ≤ m := Int.ediv_le_self _ hm
    have e1 : Int.tdiv (m / Gr.prod (d.drop (i + 1))) d[i] = m / Gr.prod (d.drop i) := by
      rw [Int.tdiv_eq_ediv_of_nonneg h0, hp, Int.ediv_ediv, if_neg (by omega), Int.sub_zero]
    have e2 : Int.tmod (m / Gr.prod (d.drop (i + 1))) d[i] = m / Gr.prod (d.drop (i + 1)) % d[i] := Int.tmod_eq_emod_of_nonneg h0
    have b0 : 0 ≤ m / Gr.prod (d.drop i) := Int.ediv_nonneg hm (by have := Gr.prod_pos (d.drop i) (fun y hy => h1 y (List.mem_of_mem_drop hy)); omega)
    have b1 : m / Gr.prod (d.drop i) ≤ m := Int.ediv_le_self _ hm
    refine Ev.step (fun k => ?_) (ih (by omega) (x.set i (m / Gr.prod (d.drop (i + 1)) % rd d (i : Int))) (by simp [hl]) (at_set d x m i hlt hl hx))
    rw [walk_At.l0, show (((i + 1 : Nat) : Int) - 1) = (i : Int) by omega, if_pos (by omega), if_pos (by omega), if_pos (by omega), rdg d i hlt, if_neg (by omega), if_pos (by omega), e1, e2, w64 (by omega) (by omega), w64 (by omega) (by omega), Int.toNat_natCast]
theorem walk_at (d : List Int) (n : Int) : Ev (fun k => walk_At.f k d n) (Gr.att d n) := by
  unfold Gr.att
  by_cases h0 : n < 0
  · rw [if_neg (by omega)]
    refine Ev.congr (f := fun k => walk_At.j0 k d n true) (fun k => by rw [walk_At.f, if_pos h0]) ?_
    refine Ev.step (fun k => ?_) (Ev.now _)
    rw [walk_At.j0, if_pos rfl]
  · refine Ev.congr (f := fun k => (shape_Count.f k d).bind fun t => walk_At.j0 k d n (decide (n ≥ t))) (fun k => by rw [walk_At.f, if_neg h0]) ?_
    refine Ev.bind (shape_count d) ?_
    by_cases h1 : n < Gr.cnt d
    · rw [if_pos ⟨by omega, h1⟩]
      have hok : Gr.chk d = 0 := by
        apply Decidable.byContradiction
        intro hc; unfold Gr.cnt at h1; rw [if_neg hc] at h1; omega
      obtain ⟨c1, c2, c3⟩ := Gr.cnt_ok hok
      have h6 := (Gr.chk_ok hok).1
      have := at_l d hok n (by omega) (by omega) d.length (by omega) (List.replicate d.length 0) (by simp) (by simp [Gr.dig])
      rw [List.drop_length] at this
      simp only [Gr.prod, Int.ediv_one] at this
      refine Ev.step (fun k => ?_) this
      rw [walk_At.j0, if_neg (by simp; omega), if_pos (by omega), if_pos (by simp; omega), w64 (by omega) (by omega), Int.toNat_natCast]
    · rw [if_neg (by omega)]
      refine Ev.step (fun k => ?_) (Ev.now _)
      rw [walk_At.j0, if_pos (by simp; omega)]
theorem in_l (d r : List Int) (hl : r.length = d.length) (hn : d.length ≤ 6) : ∀ i, i ≤ r.length →
    Ev (fun k => walk_in.l0 k d r (r.length : Int) (i : Int)) (Gr.inb (d.drop i) (r.drop i)) := by
  apply down
  · rw [List.drop_length, hl, List.drop_length]
    refine Ev.step (fun k => ?_) (Ev.now _)
    rw [walk_in.l0, if_neg (by omega)]; rfl
  · intro i hi ih
    rw [dropc d i (by omega), dropc r i hi]
    simp only [Gr.inb]
    by_cases h1 : rd r (i : Int) < 0
    · rw [show decide (0 ≤ rd r (i : Int)) = false by simp; omega, Bool.false_and, Bool.false_and]
      refine Ev.step (fun k => ?_) (Ev.now _)
      rw [walk_in.l0, if_pos (by omega), if_pos (by omega), if_pos (by omega), if_pos h1]
    · rw [show decide (0 ≤ rd r (i : Int)) = true by simp; omega, Bool.true_and]
      by_cases h2 : rd d (i : Int) ≤ rd r (i : Int)
      · rw [show decide (rd r (i : Int) < rd d (i : Int)) = false by simp; omega, Bool.false_and]
        refine Ev.step (fun k => ?_) (Ev.now _)
        rw [walk_in.l0, if_pos (by omega), if_pos (by omega), if_pos (by omega), if_neg h1, if_pos (by omega), if_pos h2]
      · rw [show decide (rd r (i : Int) < rd d (i : Int)) = true by simp; omega, Bool.true_and]
        refine Ev.step (fun k => ?_) ih
        rw [walk_in.l0, if_pos (by omega), if_pos (by omega), if_pos (by omega), if_neg h1, if_pos (by omega), if_neg h2, nx i _ hi (by omega)]
theorem walk_ind (d r : List Int) : Ev (fun k => walk_in.f k d r) (Gr.ind d r) := by
  unfold Gr.ind
  refine Ev.congr (fun k => by rw [walk_in.f, shape_check, Option.bind_some]) ?_
  by_cases h : Gr.chk d = 0
  · have h6 := (Gr.chk_ok h).1
    simp only [if_pos h]
    rw [decide_eq_true h, Bool.true_and]
    by_cases hl : r.length = d.length
    · refine Ev.step (fun k => ?_) (in_l d r hl h6 0 (by omega))
      rw [walk_in.j0, if_neg (by simp; omega)]; rfl
    · rw [show Gr.inb d r = false by
        apply Decidable.byContradiction
        intro hc; exact hl (Gr.inb_length (by simpa using hc))]
      refine Ev.step (fun k => ?_) (Ev.now _)
      rw [walk_in.j0, if_pos (by simp; omega)]
  · simp only [if_neg h]
    rw [decide_eq_false h, Bool.false_and]
    refine Ev.step (fun k => ?_) (Ev.now _)
    rw [walk_in.j0, if_pos rfl]
theorem place_l (d r : List Int) (hok : Gr.chk d = 0) (hi2 : Gr.inb d r = true) : ∀ i, i ≤ r.length → ∀ n : Int, 0 ≤ n → n * Gr.prod (d.drop i) + Gr.num (d.drop i) (r.drop i) ≤ 64 → Gr.inb (d.drop i) (r.drop i) = true →
    Ev (fun k => walk_Place.l0 k d n r (r.length : Int) (i : Int)) (n * Gr.prod (d.drop i) + Gr.num (d.drop i) (r.drop i), true) := by
  obtain ⟨h6, h1, h2⟩ := Gr.chk_ok hok
  have hl := Gr.inb_length hi2
  apply down
  · intro n hn hb _
    rw [hl, List.drop_length, ← hl, List.drop_length]
    simp only [Gr.prod, Gr.num, Int.mul_one, Int.add_zero]
    refine Ev.step (fun k => ?_) (Ev.now _)
    rw [walk_Place.l0, if_neg (by omega)]
  · intro i hi ih n hn hb hin
    have hq := Gr.num_lt (d.drop (i + 1)) (r.drop (i + 1)) (fun x hx => h1 x (List.mem_of_mem_drop hx))
    have hp := Gr.prod_pos (d.drop (i + 1)) (fun x hx => h1 x (List.mem_of_mem_drop hx))
    have hx1 : 1 ≤ rd d (i : Int) := by rw [rdg d i (by omega)]; exact h1 _ (List.getElem_mem _)
    rw [dropc d i (by omega), dropc r i hi] at hin hb ⊢
    simp only [Gr.inb, Bool.and_eq_true, decide_eq_true_eq] at hin
    obtain ⟨q1, q2⟩ := hq hin.2
    simp only [Gr.prod, Gr.num] at hb ⊢
    have e : n * (rd d (i : Int) * Gr.prod (d.drop (i + 1))) + (rd r (i : Int) * Gr.prod (d.drop (i + 1)) + Gr.num (d.drop (i + 1)) (r.drop (i + 1))) = (n * rd d (i : Int) + rd r (i : Int)) * Gr.prod (d.drop (i + 1)) + Gr.num (d.drop (i + 1)) (r.drop (i + 1)) := by
      rw [Int.add_mul, ← Int.mul_assoc]; omega
    rw [e] at hb ⊢
    have b1 : 0 ≤ n * rd d (i : Int) := Int.mul_nonneg hn (by omega)
    have b2 : (n * rd d (i : Int) + rd r (i : Int)) * 1 ≤ (n * rd d (i : Int) + rd r (i : Int)) * Gr.prod (d.drop (i + 1)) := Int.mul_le_mul_of_nonneg_left hp (by omega)
    refine Ev.step (fun k => ?_) (ih _ (by omega) hb hin.2)
    rw [walk_Place.l0, if_pos (by omega), if_pos (by omega), if_pos (by omega), if_pos (by omega), show wrap64 (n * rd d (i : Int)) = n * rd d (i : Int) from w64 (by omega) (by omega), w64 (by omega) (by omega), nx i _ hi (by omega)]
theorem walk_place (d r : List Int) : Ev (fun k => walk_Place.f k d r) (Gr.plc d r) := by
  unfold Gr.plc
  refine Ev.congr (fun k => by rw [walk_Place.f]) (Ev.bind (walk_ind d r) ?_)
  by_cases h : Gr.ind d r = true
  · simp only [if_pos h]
    unfold Gr.ind at h
    simp only [Bool.and_eq_true, decide_eq_true_eq] at h
    obtain ⟨h6, h1, h2⟩ := Gr.chk_ok h.1
    have hb := (Gr.num_lt d r h1 h.2)
    have := place_l d r h.1 h.2 0 (by omega) 0 (by omega) (by simp; omega) (by simpa using h.2)
    rw [List.drop_zero, List.drop_zero, Int.zero_mul, Int.zero_add] at this
    exact this
  · simp only [if_neg h]
    exact Ev.now _
theorem mx_gr (a b : Int) : mx a b = Gr.mx a b := rfl
theorem size_at (l : List Int) (n : Nat) (hl : l.length ≤ n) (hn : n ≤ 6) (i : Nat) (hi : i < n) : spread_size.f l (((n - i : Nat)) : Int) = some ((Gr.pad n l)[i]'(by rw [Gr.pad_length n l hl]; exact hi)) := by
  rw [spread_size.f, Gr.pad_at n l hl i hi]
  by_cases h : n - l.length ≤ i
  · rw [dif_pos h, if_neg (by omega), w64 (by omega) (by omega), if_pos (by omega), if_pos (by omega), show ((l.length : Int) - ((n - i : Nat) : Int)) = ((i - (n - l.length) : Nat) : Int) by omega, rdg l _ (by omega)]
  · rw [dif_neg h, if_pos (by omega)]
theorem mxs_drop (p q : List Int) (i : Nat) (hp : i < p.length) (hq : i < q.length) : (Gr.mxs p q).drop i = Gr.mx p[i] q[i] :: (Gr.mxs p q).drop (i + 1) := by
  induction i generalizing p q with
  | zero =>
    cases p with
    | nil => simp at hp
    | cons x p =>
      cases q with
      | nil => simp at hq
      | cons y q => rfl
  | succ i ih =>
    cases p with
    | nil => simp at hp
    | cons x p =>
      cases q with
      | nil => simp at hq
      | cons y q =>
        have := ih p q (by simpa using hp) (by simpa using hq)
        simpa [Gr.mxs] using this
theorem fitz_at (p q : List Int) (i : Nat) (hp : i < p.length) (hq : i < q.length) (h : Gr.fitz p q = true) : p[i] = q[i] ∨ p[i] = 1 ∨ q[i] = 1 := by
  have := Gr.fitz_drop p q i h
  rw [List.drop_eq_getElem_cons hp, List.drop_eq_getElem_cons hq] at this
  simp only [Gr.fitz, Bool.and_eq_true, Bool.or_eq_true, beq_iff_eq] at this
  rcases this.1 with (h | h) | h
  · exact .inl h
  · exact .inr (.inl h)
  · exact .inr (.inr h)
theorem fitz_drop_of (p q : List Int) (i : Nat) (hp : i < p.length) (hq : i < q.length) (h1 : p[i] = q[i] ∨ p[i] = 1 ∨ q[i] = 1) (h : Gr.fitz (p.drop (i + 1)) (q.drop (i + 1)) = true) : Gr.fitz (p.drop i) (q.drop i) = true := by
  rw [List.drop_eq_getElem_cons hp, List.drop_eq_getElem_cons hq]
  simp only [Gr.fitz, Bool.and_eq_true, Bool.or_eq_true, beq_iff_eq]
  refine ⟨?_, h⟩
  rcases h1 with h | h | h
  · exact .inl (.inl h)
  · exact .inl (.inr h)
  · exact .inr h
theorem two_l1 (a b : List Int) (n : Nat) (ha : a.length ≤ n) (hb : b.length ≤ n) (hn : n ≤ 6) : ∀ i, i ≤ n → ∀ x : List Int, x.length = n → x.drop i = (Gr.mxs (Gr.pad n a) (Gr.pad n b)).drop i →
    Gr.fitz ((Gr.pad n a).drop i) ((Gr.pad n b).drop i) = true →
    Ev (fun k => spread_Two.l1 k a b (n : Int) x (((n - i : Nat) : Int) + 1)) (Gr.tw (Gr.pad n a) (Gr.pad n b)) := by
  have la := Gr.pad_length n a ha
  have lb := Gr.pad_length n b hb
  intro i
  induction i with
  | zero =>
    intro hi x hl hx hf
    simp only [List.drop_zero] at hx hf
    subst hx
    unfold Gr.tw
    rw [if_pos hf]
    by_cases hc : Gr.chk (Gr.mxs (Gr.pad n a) (Gr.pad n b)) = 0
    · rw [if_pos hc]
      refine Ev.step (fun k => ?_) (Ev.now _)
      rw [spread_Two.l1, if_neg (by omega), shape_check, Option.bind_some, if_pos hc]
    · rw [if_neg hc]
      refine Ev.step (fun k => ?_) (Ev.now _)
      rw [spread_Two.l1, if_neg (by omega), shape_check, Option.bind_some, if_neg hc]
  | succ i ih =>
    intro hi x hl hx hf
    have hlt : i < n := by omega
    have sa := size_at a n ha hn i hlt
    have sb := size_at b n hb hn i hlt
    have ei : (((n - (i + 1) : Nat) : Int) + 1) = ((n - i : Nat) : Int) := by omega
    have ei2 : (n : Int) - ((n - i : Nat) : Int) = (i : Int) := by omega
    rw [ei]
    by_cases hfit : (Gr.pad n a)[i] = (Gr.pad n b)[i] ∨ (Gr.pad n a)[i] = 1 ∨ (Gr.pad n b)[i] = 1
    · have hnew := ih (by omega) (x.set i (Gr.mx (Gr.pad n a)[i] (Gr.pad n b)[i])) (by simp [hl]) (by
        rw [List.drop_eq_getElem_cons (by simp; omega), mxs_drop _ _ i (by omega) (by omega)]
        simp only [List.getElem_set_self, List.cons.injEq, true_and]
        rw [List.drop_set_of_lt (by omega)]
        exact hx) (fitz_drop_of _ _ i (by omega) (by omega) hfit hf)
      refine Ev.step (fun k => ?_) hnew
      rw [spread_Two.l1, if_pos (by omega), sa, Option.bind_some, sb, Option.bind_some, ei2, w64 (x := (i : Int)) (by omega) (by omega), w64 (by omega) (by omega)]
      simp only [if_pos (show (0 : Int) ≤ (i : Int) by omega), if_pos (show (i : Int) < (x.length : Int) by omega), Int.toNat_natCast, mx_gr]
      by_cases e1 : (Gr.pad n a)[i] = (Gr.pad n b)[i]
      · rw [if_pos e1]
      · rw [if_neg e1]
        by_cases e2 : (Gr.pad n a)[i] = 1
        · rw [if_pos e2]
        · rw [if_neg e2, if_pos (by rcases hfit with h | h | h <;> first | exact absurd h e1 | exact absurd h e2 | exact h)]
    · unfold Gr.tw
      rw [if_neg (fun h => hfit (fitz_at _ _ i (by omega) (by omega) h))]
      refine Ev.step (fun k => ?_) (Ev.now _)
      rw [spread_Two.l1, if_pos (by omega), sa, Option.bind_some, sb, Option.bind_some, if_neg (fun h => hfit (.inl h)), if_neg (fun h => hfit (.inr (.inl h))), if_neg (fun h => hfit (.inr (.inr h)))]
theorem two (a b : List Int) : Ev (fun k => spread_Two.f k a b) (Gr.two a b) := by
  unfold Gr.two
  refine Ev.congr (f := fun k => spread_Two.l0 k a b [a, b] 2 0) (fun k => by rw [spread_Two.f, Option.bind_some]; rfl) ?_
  have r0 : rd_L1 [a, b] 0 = a := rfl
  have r1 : rd_L1 [a, b] 1 = b := rfl
  by_cases ha : Gr.chk a = 0
  · rw [if_pos ha]
    have h6 := (Gr.chk_ok ha).1
    refine Ev.step (f := fun k => spread_Two.l0 k a b [a, b] 2 1) (fun k => by rw [spread_Two.l0, if_pos (by omega), if_pos (by omega), if_pos (by simp), r0, shape_check, Option.bind_some, if_pos ha, w64 (by omega) (by omega)]; rfl) ?_
    by_cases hb : Gr.chk b = 0
    · rw [if_pos hb]
      have k6 := (Gr.chk_ok hb).1
      refine Ev.step (f := fun k => spread_Two.l0 k a b [a, b] 2 2) (fun k => by rw [spread_Two.l0, if_pos (by omega), if_pos (by omega), if_pos (by simp), r1, shape_check, Option.bind_some, if_pos hb, w64 (by omega) (by omega)]; rfl) ?_
      have hm : mx (a.length : Int) (b.length : Int) = (Gr.rank2 a b : Int) := by unfold mx Gr.rank2; split <;> omega
      have := two_l1 a b (Gr.rank2 a b) (by unfold Gr.rank2; omega) (by unfold Gr.rank2; omega) (by unfold Gr.rank2; omega) (Gr.rank2 a b) (by omega) (List.replicate (Gr.rank2 a b) 0) (by simp) (by
        rw [List.drop_of_length_le (by simp), List.drop_of_length_le]
        rw [Gr.mxs_length, Gr.pad_length _ _ (by unfold Gr.rank2; omega)]; omega
        rw [Gr.pad_length _ _ (by unfold Gr.rank2; omega), Gr.pad_length _ _ (by unfold Gr.rank2; omega)]) (by
        rw [List.drop_of_length_le (by rw [Gr.pad_length _ _ (by unfold Gr.rank2; omega)]; omega)]; rfl)
      rw [show (((Gr.rank2 a b - Gr.rank2 a b : Nat) : Int) + 1) = 1 by omega] at this
      refine Ev.step (fun k => ?_) this
      rw [spread_Two.l0, if_neg (by omega), hm, if_pos (by omega), if_pos (by unfold Gr.rank2; omega), Int.toNat_natCast]
    · rw [if_neg hb]
      refine Ev.step (fun k => ?_) (Ev.now _)
      rw [spread_Two.l0, if_pos (by omega), if_pos (by omega), if_pos (by simp), r1, shape_check, Option.bind_some, if_neg hb]
  · rw [if_neg ha]
    refine Ev.step (fun k => ?_) (Ev.now _)
    rw [spread_Two.l0, if_pos (by omega), if_pos (by omega), if_pos (by simp), r0, shape_check, Option.bind_some, if_neg ha]
theorem ref_two_2 (p q : List Int) (hl : p.length = q.length) (hn : p.length ≤ 6) : ∀ i, i ≤ p.length → Gr.fitz (p.take i) (q.take i) = true →
    Ev (fun k => gradineref21_Two.l2 k p q ((Gr.mxs p q).take i) (p.length : Int) (i : Int)) (Gr.tw p q) := by
  have lm := Gr.mxs_length p q hl
  apply down
  · intro hf
    rw [List.take_length, hl, List.take_length] at hf
    rw [List.take_of_length_le (by omega)]
    refine Ev.step (fun k => by rw [gradineref21_Two.l2, if_neg (by omega)]) (Ev.bind (ref_check _) ?_)
    unfold Gr.tw
    rw [if_pos hf]
    by_cases hc : Gr.chk (Gr.mxs p q) = 0
    · rw [if_pos hc, if_pos hc]; exact Ev.now _
    · rw [if_neg hc, if_neg hc]; exact Ev.now _
  · intro i hi ih hf
    have hq : i < q.length := by omega
    have hd := mxs_drop p q i hi hq
    have hmi : (Gr.mxs p q)[i]'(by omega) = Gr.mx p[i] q[i] := by
      rw [List.drop_eq_getElem_cons (by omega)] at hd
      simp only [List.cons.injEq] at hd
      exact hd.1
    have e : (Gr.mxs p q).take (i + 1) = (Gr.mxs p q).take i ++ [Gr.mx p[i] q[i]] := by
      rw [List.take_succ_eq_append_getElem (by omega), hmi]
    have hlen : ((Gr.mxs p q).take i).length < 17592186044416 := by rw [List.length_take]; omega
    by_cases hfit : p[i] = q[i] ∨ p[i] = 1 ∨ q[i] = 1
    · have hf2 : Gr.fitz (p.take (i + 1)) (q.take (i + 1)) = true := by
        rw [List.take_succ_eq_append_getElem hi, List.take_succ_eq_append_getElem hq]
        have : ∀ (u v : List Int), u.length = v.length → Gr.fitz u v = true → Gr.fitz (u ++ [p[i]]) (v ++ [q[i]]) = true := by
          intro u
          induction u with
          | nil =>
            intro v hv _
            have : v = [] := List.eq_nil_of_length_eq_zero (by simpa using hv.symm)
            subst this
            simp only [List.nil_append, Gr.fitz, Bool.and_true, Bool.or_eq_true, beq_iff_eq]
            rcases hfit with h | h | h
            · exact .inl (.inl h)
            · exact .inl (.inr h)
            · exact .inr h
          | cons y u ihu =>
            intro v hv h
            cases v with
            | nil => simp at hv
            | cons z v =>
              simp only [Gr.fitz, Bool.and_eq_true] at h
              simp only [List.cons_append, Gr.fitz, Bool.and_eq_true]
              exact ⟨h.1, ihu v (by simpa using hv) h.2⟩
        exact this _ _ (by rw [List.length_take, List.length_take]; omega) hf
      have hnew := ih hf2
      rw [e] at hnew
      refine Ev.step (fun k => ?_) hnew
      rw [gradineref21_Two.l2, if_pos (by omega), if_pos (by omega), if_pos (by omega), if_pos (by omega), rdg p i hi, rdg q i hq, nx i _ hi (by omega)]
      simp only [if_pos hlen, mx_gr]
      by_cases e1 : p[i] = q[i]
      · rw [if_pos e1]
      · rw [if_neg e1]
        by_cases e2 : p[i] = 1
        · rw [if_pos e2]
        · rw [if_neg e2, if_pos (by rcases hfit with h | h | h <;> first | exact absurd h e1 | exact absurd h e2 | exact h)]
    · unfold Gr.tw
      rw [if_neg (fun h => hfit (fitz_at _ _ i hi hq h))]
      refine Ev.step (fun k => ?_) (Ev.now _)
      rw [gradineref21_Two.l2, if_pos (by omega), if_pos (by omega), if_pos (by omega), if_pos (by omega), rdg p i hi, rdg q i hq, if_neg (fun h => hfit (.inl h)), if_neg (fun h => hfit (.inr (.inl h))), if_neg (fun h => hfit (.inr (.inr h)))]
theorem pad_one (n : Nat) (l : List Int) (h : l.length < n) : Gr.pad n (1 :: l) = Gr.pad n l := by
  unfold Gr.pad
  rw [show n - l.length = (n - (1 :: l).length) + 1 by simp; omega, List.replicate_succ', List.append_assoc]
  rfl
theorem ref_two_1 (p : List Int) (hp : p.length ≤ 6) : ∀ (d : Nat) (q : List Int), q.length + d = p.length →
    Ev (fun k => gradineref21_Two.l1 k p q) (Gr.tw p (Gr.pad p.length q)) := by
  intro d
  induction d with
  | zero =>
    intro q hq
    rw [show p.length = q.length by omega, Gr.pad_self]
    refine Ev.step (fun k => ?_) (ref_two_2 p q (by omega) hp 0 (by omega) (by simp [Gr.fitz]))
    rw [gradineref21_Two.l1, if_neg (by omega)]; rfl
  | succ d ih =>
    intro q hq
    have := ih (1 :: q) (by simp; omega)
    rw [pad_one _ _ (by omega)] at this
    refine Ev.step (fun k => ?_) this
    rw [gradineref21_Two.l1, if_pos (by omega), Option.bind_some, if_pos (by simp; omega)]; rfl
theorem ref_two_0 (q : List Int) (hq6 : q.length ≤ 6) : ∀ (d : Nat) (p : List Int), p.length + d = q.length →
    Ev (fun k => gradineref21_Two.l0 k p q) (Gr.tw (Gr.pad q.length p) q) := by
  intro d
  induction d with
  | zero =>
    intro p hp
    rw [show q.length = p.length by omega, Gr.pad_self]
    have := ref_two_1 p (by omega) 0 q (by omega)
    rw [show p.length = q.length by omega, Gr.pad_self] at this
    refine Ev.step (fun k => ?_) this
    rw [gradineref21_Two.l0, if_neg (by omega)]
  | succ d ih =>
    intro p hp
    have := ih (1 :: p) (by simp; omega)
    rw [pad_one _ _ (by omega)] at this
    refine Ev.step (fun k => ?_) this
    rw [gradineref21_Two.l0, if_pos (by omega), Option.bind_some, if_pos (by simp; omega)]; rfl
theorem ref_two (a b : List Int) : Ev (fun k => gradineref21_Two.f k a b) (Gr.two a b) := by
  unfold Gr.two
  refine Ev.congr (fun k => by rw [gradineref21_Two.f]) (Ev.bind (ref_check a) (Ev.bind (ref_check b) ?_))
  by_cases ha : Gr.chk a = 0
  · rw [if_pos ha]
    simp only [if_pos ha]
    by_cases hb : Gr.chk b = 0
    · rw [if_pos hb]
      simp only [if_pos hb]
      have h6 := (Gr.chk_ok ha).1
      have k6 := (Gr.chk_ok hb).1
      by_cases hl : a.length ≤ b.length
      · rw [show Gr.rank2 a b = b.length by unfold Gr.rank2; omega, Gr.pad_self]
        exact ref_two_0 b k6 (b.length - a.length) a (by omega)
      · rw [show Gr.rank2 a b = a.length by unfold Gr.rank2; omega, Gr.pad_self]
        refine Ev.step (fun k => ?_) (ref_two_1 a h6 (a.length - b.length) b (by omega))
        rw [gradineref21_Two.l0, if_neg (by omega)]
    · rw [if_neg hb]
      simp only [if_neg hb]
      exact Ev.now _
  · rw [if_neg ha]
    simp only [if_neg ha]
    exact Ev.now _
theorem equal_l (a b : List Int) (hl : a.length = b.length) (hn : a.length ≤ 1000000000) : ∀ i, i ≤ a.length →
    Ev (fun k => slices_Equal_int_int.l0 k a b (a.length : Int) (i : Int)) (decide (a.drop i = b.drop i)) := by
  apply down
  · refine Ev.step (f := fun _ => some true) (fun k => ?_) ?_
    · rw [slices_Equal_int_int.l0, if_neg (by omega)]
    · rw [List.drop_length, hl, List.drop_length]; exact Ev.now true
  · intro i hi ih
    rw [dropc a i hi, dropc b i (by omega)]
    by_cases e : rd a (i : Int) = rd b (i : Int)
    · rw [show decide (rd a (i : Int) :: a.drop (i + 1) = rd b (i : Int) :: b.drop (i + 1)) = decide (a.drop (i + 1) = b.drop (i + 1)) by simp [e]]
      refine Ev.step (fun k => ?_) ih
      rw [slices_Equal_int_int.l0, if_pos (by omega), if_pos (by omega), if_pos (by omega), if_pos (by omega), if_pos e, nx i _ hi hn]
    · rw [show decide (rd a (i : Int) :: a.drop (i + 1) = rd b (i : Int) :: b.drop (i + 1)) = false by simp [e]]
      refine Ev.step (fun k => ?_) (Ev.now false)
      rw [slices_Equal_int_int.l0, if_pos (by omega), if_pos (by omega), if_pos (by omega), if_pos (by omega), if_neg e]
theorem equal (a b : List Int) (hn : a.length ≤ 1000000000) : Ev (fun k => slices_Equal_int_int.f k a b) (decide (a = b)) := by
  by_cases hl : a.length = b.length
  · refine Ev.congr (fun k => ?_) (by have := equal_l a b hl hn 0 (by omega); simpa using this)
    rw [slices_Equal_int_int.f, if_pos (by omega)]
  · rw [show decide (a = b) = false from decide_eq_false (fun e => hl (by rw [e]))]
    refine Ev.congr (fun k => ?_) (Ev.now false)
    rw [slices_Equal_int_int.f, if_neg (by omega)]
theorem rsame_l (a b : List Int) (hl : a.length = b.length) (hn : a.length ≤ 1000000000) : ∀ i, i ≤ a.length →
    Ev (fun k => gradineref19_Same.l0 k a b (a.length : Int) (i : Int)) (decide (a.drop i = b.drop i)) := by
  apply down
  · refine Ev.step (f := fun _ => some true) (fun k => ?_) ?_
    · rw [gradineref19_Same.l0, if_neg (by omega)]
    · rw [List.drop_length, hl, List.drop_length]; exact Ev.now true
  · intro i hi ih
    rw [dropc a i hi, dropc b i (by omega)]
    by_cases e : rd a (i : Int) = rd b (i : Int)
    · rw [show decide (rd a (i : Int) :: a.drop (i + 1) = rd b (i : Int) :: b.drop (i + 1)) = decide (a.drop (i + 1) = b.drop (i + 1)) by simp [e]]
      refine Ev.step (fun k => ?_) ih
      rw [gradineref19_Same.l0, if_pos (by omega), if_pos (by omega), if_pos (by omega), if_pos (by omega), if_pos e, nx i _ hi hn]
    · rw [show decide (rd a (i : Int) :: a.drop (i + 1) = rd b (i : Int) :: b.drop (i + 1)) = false by simp [e]]
      refine Ev.step (fun k => ?_) (Ev.now false)
      rw [gradineref19_Same.l0, if_pos (by omega), if_pos (by omega), if_pos (by omega), if_pos (by omega), if_neg e]
theorem rsame (a b : List Int) (hn : a.length ≤ 1000000000) : Ev (fun k => gradineref19_Same.f k a b) (decide (a = b)) := by
  by_cases hl : a.length = b.length
  · refine Ev.congr (fun k => ?_) (by have := rsame_l a b hl hn 0 (by omega); simpa using this)
    rw [gradineref19_Same.f, if_pos (by omega)]
  · rw [show decide (a = b) = false from decide_eq_false (fun e => hl (by rw [e]))]
    refine Ev.congr (fun k => ?_) (Ev.now false)
    rw [gradineref19_Same.f, if_neg (by omega)]
theorem two_fst_le (a b : List Int) : (Gr.two a b).1.length ≤ 6 := by
  unfold Gr.two
  split
  · split
    · unfold Gr.tw
      split
      · split
        · rename_i h; exact (Gr.chk_ok h).1
        · simp
      · simp
    · simp
  · simp
theorem fits (a b : List Int) : Ev (fun k => spread_Fits.f k a b) (Gr.fts a b) := by
  refine Ev.congr (fun k => by rw [spread_Fits.f]) (Ev.bind (two a b) ?_)
  unfold Gr.fts
  by_cases h : (Gr.two a b).2 = 0
  · simp only [if_pos h]
    rw [decide_eq_true h, Bool.true_and]
    refine Ev.bind (f := fun k t => some t) ?_ (Ev.now _)
    refine Ev.congr (fun k => by rw [shape_Same.f]) (Ev.bind (f := fun k t => some t) (equal _ _ (by have := two_fst_le a b; omega)) (Ev.now _))
  · simp only [if_neg h]
    rw [decide_eq_false h, Bool.false_and]
    exact Ev.now _
theorem ref_fits (a b : List Int) : Ev (fun k => gradineref21_Fits.f k a b) (Gr.fts a b) := by
  refine Ev.congr (fun k => by rw [gradineref21_Fits.f]) (Ev.bind (ref_two a b) ?_)
  unfold Gr.fts
  by_cases h : (Gr.two a b).2 = 0
  · simp only [if_pos h]
    rw [decide_eq_true h, Bool.true_and]
    exact Ev.bind (f := fun k t => some t) (rsame _ _ (by have := two_fst_le a b; omega)) (Ev.now _)
  · simp only [if_neg h]
    rw [decide_eq_false h, Bool.false_and]
    exact Ev.now _
theorem source_l (a : List Int) (hn : a.length ≤ 6) (v : Int × Bool) : ∀ i, i ≤ a.length → ∀ q : List Int, q.length = a.length →
    (∀ k, q.take i = (Gr.sat a k).take i → q.drop i = k.drop i → k.length = a.length → Ev (fun n => walk_Place.f n a (Gr.sat a k)) v →
    Ev (fun n => spread_Source.l0 n a q a (a.length : Int) (i : Int)) v) := by
  have sl : ∀ (a k : List Int), k.length = a.length → (Gr.sat a k).length = a.length := by
    intro a
    induction a with
    | nil => intro k hk; cases k <;> simp [Gr.sat]
    | cons x a ih =>
      intro k hk
      cases k with
      | nil => simp at hk
      | cons y k => simp [Gr.sat, ih k (by simpa using hk)]
  have sg : ∀ (a k : List Int) (hk : k.length = a.length) (i : Nat) (hi : i < a.length), (Gr.sat a k)[i]'(by rw [sl a k hk]; exact hi) = if a[i] = 1 then 0 else k[i]'(by omega) := by
    intro a
    induction a with
    | nil => intro k hk i hi; simp at hi
    | cons x a ih =>
      intro k hk i hi
      cases k with
      | nil => simp at hk
      | cons y k =>
        cases i with
        | zero => simp [Gr.sat]
        | succ i => simpa [Gr.sat] using ih k (by simpa using hk) i (by simpa using hi)
  apply down
  · intro q hq k h1 h2 hk hp
    have : q = Gr.sat a k := by
      rw [List.take_of_length_le (by omega), List.take_of_length_le (by rw [sl a k hk]; omega)] at h1
      exact h1
    subst this
    refine Ev.step (fun n => by rw [spread_Source.l0, if_neg (by omega)]) (Ev.bind hp ?_)
    exact Ev.now _
  · intro i hi ih q hq k h1 h2 hk hp
    have hsg := sg a k hk i hi
    have e : (Gr.sat a k).take (i + 1) = (Gr.sat a k).take i ++ [if a[i] = 1 then 0 else k[i]'(by omega)] := by
      rw [List.take_succ_eq_append_getElem (by rw [sl a k hk]; exact hi), hsg]
    have h3 : q.drop (i + 1) = k.drop (i + 1) := by
      have := congrArg (List.drop 1) h2
      rw [List.drop_drop, List.drop_drop] at this
      exact this
    by_cases h : a[i] = 1
    · rw [if_pos h] at e
      refine Ev.step (fun n => ?_) (ih (q.set i 0) (by simp [hq]) k ?_ ?_ hk hp)
      · rw [spread_Source.l0, if_pos (by omega), if_pos (by omega), if_pos (by omega), rdg a i hi, if_pos h, if_pos (by omega), Int.toNat_natCast, nx i _ hi (by omega)]
      · rw [e, ← h1, List.take_succ_eq_append_getElem (by simp; omega), List.getElem_set_self, List.take_set_of_le (by omega)]
      · rw [List.drop_set_of_lt (by omega)]; exact h3
    · rw [if_neg h] at e
      refine Ev.step (fun n => ?_) (ih q hq k ?_ h3 hk hp)
      · rw [spread_Source.l0, if_pos (by omega), if_pos (by omega), if_pos (by omega), rdg a i hi, if_neg h, nx i _ hi (by omega)]
      · rw [e, ← h1, List.take_succ_eq_append_getElem (by omega)]
        have h4 : q[i]'(by omega) = k[i]'(by omega) := by
          have hq2 : i < q.length := by omega
          have hk2 : i < k.length := by omega
          rw [List.drop_eq_getElem_cons hq2, List.drop_eq_getElem_cons hk2] at h2
          simp only [List.cons.injEq] at h2
          exact h2.1
        rw [h4]
theorem source (a b : List Int) (n : Int) : Ev (fun k => spread_Source.f k a b n) (if Gr.fts a b = true ∧ 0 ≤ n ∧ n < Gr.cnt b then (Gr.src a b n, true) else (0, false)) := by
  refine Ev.congr (fun k => by rw [spread_Source.f]) (Ev.bind (walk_at b n) ?_)
  unfold Gr.att
  by_cases h1 : 0 ≤ n ∧ n < Gr.cnt b
  · rw [if_pos h1]
    simp only [if_true]
    refine Ev.bind (fits a b) ?_
    by_cases h2 : Gr.fts a b = true
    · rw [if_pos ⟨h2, h1⟩, h2]
      obtain ⟨ca, cb, hle, hsub⟩ := (Gr.fts_iff a b).1 h2
      have a6 := (Gr.chk_ok ca).1
      have b6 := (Gr.chk_ok cb).1
      have hin := Gr.src_in h2 n
      have hpl := walk_place a (Gr.sat a ((Gr.dig b n).drop (b.length - a.length)))
      unfold Gr.plc at hpl
      rw [if_pos (by unfold Gr.ind; rw [decide_eq_true ca, hin]; rfl)] at hpl
      have hlen : ((Gr.dig b n).drop (b.length - a.length)).length = a.length := by rw [List.length_drop, Gr.dig_length]; omega
      refine Ev.step (fun k => ?_) (source_l a a6 _ 0 (by omega) ((Gr.dig b n).drop (b.length - a.length)) hlen _ (by simp) rfl hlen hpl)
      rw [spread_Source.j0, if_neg (by simp), w64 (by omega) (by omega), if_pos (by omega), if_pos (by rw [Gr.dig_length]; omega), show ((b.length : Int) - (a.length : Int)).toNat = b.length - a.length by omega]; rfl
    · rw [if_neg (fun h => h2 h.1), show Gr.fts a b = false by simpa using h2]
      refine Ev.step (fun k => ?_) (Ev.now _)
      rw [spread_Source.j0, if_pos (by rfl)]
  · rw [if_neg h1, if_neg (fun h => h1 h.2)]
    simp only [Bool.false_eq_true, if_false]
    refine Ev.step (fun k => ?_) (Ev.now _)
    rw [spread_Source.j0, if_pos rfl]
theorem same21 : Ev (fun k => gradinelaw21_same.f k) true := by
  refine Ev.congr (fun k => by rw [gradinelaw21_same.f]) (Ev.bind (two [2, 1] [3]) (Ev.bind (source [3] [2, 3] 4) ?_))
  rw [show Gr.two [2, 1] [3] = ([2, 3], 0) by decide, show (if Gr.fts [3] [2, 3] = true ∧ (0 : Int) ≤ 4 ∧ 4 < Gr.cnt [2, 3] then (Gr.src [3] [2, 3] 4, true) else (0, false)) = (1, true) by decide]
  exact Ev.congr (fun k => by rfl) (Ev.now true)
theorem ref_count_l (d : List Int) (hok : Gr.chk d = 0) : ∀ i, i ≤ d.length → Ev (fun k => gradineref19_Count.l0 k d (Gr.prod (d.take i)) (d.length : Int) (i : Int)) (Gr.prod d) := by
  obtain ⟨h6, h1, h2⟩ := Gr.chk_ok hok
  apply down
  · rw [List.take_length]
    refine Ev.step (fun k => ?_) (Ev.now _)
    rw [gradineref19_Count.l0, if_neg (by omega)]
  · intro i hi ih
    have hs := Gr.prod_take_succ d i hi
    have hle := Gr.prod_take_le d h1 (i + 1)
    have hp := Gr.prod_pos (d.take (i + 1)) (fun x hx => h1 x (List.mem_of_mem_take hx))
    rw [hs] at ih hle hp
    refine Ev.step (fun k => ?_) ih
    rw [gradineref19_Count.l0, if_pos (by omega), if_pos (by omega), if_pos (by omega), rdg d i hi, w64 (by omega) (by omega), nx i _ hi (by omega)]
theorem ref_count (d : List Int) : Ev (fun k => gradineref19_Count.f k d) (Gr.cnt d) := by
  refine Ev.congr (fun k => by rw [gradineref19_Count.f]) (Ev.bind (ref_check d) ?_)
  unfold Gr.cnt
  by_cases h : Gr.chk d = 0
  · simp only [if_pos h]
    have := ref_count_l d h 0 (by omega)
    exact this
  · simp only [if_neg h]; exact Ev.now _
end Go.Proofs.Ytmocfgkdclkgoaa.S
namespace Go.Proofs.Ytmocfgkdclkgoaa.Q
open Go.RowKit Go.Proofs.YtmocfgkdclkgoaaW.PrintWords Go.Proofs.YtmocfgkdclkgoaaW.PrintLast Go.Proofs.YtmocfgkdclkgoaaW.PrintMore
attribute [local go_sem] max2_int min2_int max_two min_two max_three min_three max_four min_four
set_option linter.unusedVariables false
set_option linter.unusedSimpArgs false

theorem even.drawn {w w' : World} (h : Drawn0 w w') : Below w.heap.size w w' := by
  obtain ⟨nd, rfl⟩ := h
  exact pw_below_drewN (Below.refl _ _) _
/-- The counts: the elements from i on, q of them. -/
def even.l0 (k : Nat) (a b : List Int) (n : Int) : Nat → Nat → List Int → Option (List Int)
  | 0, _, s => some s
  | q + 1, i, s => (spread_Source.f k a b (i : Int)).bind fun t => if t.2 = true ∧ 0 ≤ t.1 ∧ t.1 < n ∧ n ≤ 64 then even.l0 k a b n q (i + 1) (s.set t.1.toNat (wrap64 (rd s t.1 + 1))) else none
theorem even.l0_length (k : Nat) (a b : List Int) (n : Int) : ∀ (q i : Nat) (s r : List Int), even.l0 k a b n q i s = some r → r.length = s.length
  | 0, i, s, r, h => by rw [even.l0] at h; cases h; rfl
  | q + 1, i, s, r, h => by
    rw [even.l0] at h
    obtain ⟨t, _, h⟩ := Option.bind_eq_some_iff.mp h
    split at h
    · rw [even.l0_length k a b n q _ _ r h, List.length_set]
    · cases h
def even.f (k : Nat) (a b c : List Int) : Option Bool :=
  (gradinelaw19_Many.f a b).bind fun m1 => if m1 = true then gradinelaw21_same.f k else
  (gradinelaw19_Many.f c []).bind fun m2 => if m2 = true then gradinelaw21_same.f k else
  (gradineref21_Fits.f k a b).bind fun ft => if ft = true then
    ((gradineref19_Count.f k a).bind fun n => (gradineref19_Count.f k b).bind fun m => if 1 ≤ n ∧ n ≤ 64 ∧ 0 ≤ m ∧ m ≤ 64 then
      ((even.l0 k a b n m.toNat 0 zeros).bind fun s => if (∀ i : Nat, i < n.toNat → rd s (i : Int) = m.tdiv n) then
        ((spread_Two.f k b c).bind fun x => if x.2 = 0 then ((spread_Fits.f k a x.1).bind fun g => if g = true then gradinelaw21_same.f k else none) else gradinelaw21_same.f k) else none) else none)
    else gradinelaw21_same.f k
theorem even.many (A0 : Option Addr) (c0 : Nat) (l0 : List Int) (r : Bool) (w : World) (hr0 : Kd.C (Kd.int .i64) w A0 l0.length l0) (hc0 : l0.length ≤ c0) (h : gradinelaw19_Many.f l0 [] = some r) :
  Calls Try.prog 4 #[.slice A0 l0.length c0, .slice none 0 0] w fun e w' => e = .returned (.bool r) ∧ Drawn0 w w' := gradinelaw19_Many.calls A0 c0 l0 none 0 [] r w hr0 hc0 (Kd.C_nil _ _) (Nat.le_refl _) h
theorem even.quo {m : Int} {q : Nat} (h0 : 0 ≤ m) (h1 : m ≤ 64) (hq : 1 ≤ q) : wrap64 (m.tdiv (q : Int)) = m.tdiv (q : Int) := by
  obtain ⟨a, rfl⟩ := Int.eq_ofNat_of_zero_le h0
  have e : ((a : Int)).tdiv (q : Int) = ((a / q : Nat) : Int) := rfl
  rw [e]
  have := Nat.div_le_self a q
  generalize a / q = z at *
  exact w64o (by omega) (by omega)
theorem even.quo' {m n : Int} (hq : 1 ≤ n) (h0 : 0 ≤ m) (h1 : m ≤ 64) : wrap64 (m.tdiv n) = m.tdiv n := by
  obtain ⟨q, rfl⟩ := Int.eq_ofNat_of_zero_le (show 0 ≤ n by omega)
  exact even.quo h0 h1 (by omega)
theorem even.info : (Try.prog.info? 26).map (·.size) = some 64 := by kernel_rfl
set_option maxHeartbeats 8000000 in
set_option maxRecDepth 100000 in
theorem even.calls (k : Nat) (A0 : Option Addr) (c0 : Nat) (l0 : List Int) (A1 : Option Addr) (c1 : Nat) (l1 : List Int) (A2 : Option Addr) (c2 : Nat) (l2 : List Int) (w : World) (hr0 : Kd.C (Kd.int .i64) w A0 l0.length l0) (hc0 : l0.length ≤ c0) (hr1 : Kd.C (Kd.int .i64) w A1 l1.length l1) (hc1 : l1.length ≤ c1) (hr2 : Kd.C (Kd.int .i64) w A2 l2.length l2) (hc2 : l2.length ≤ c2) (h : even.f k l0 l1 l2 = some true) :
  Calls Try.prog 3 #[.slice A0 l0.length c0, .slice A1 l1.length c1, .slice A2 l2.length c2] w fun e w' => e = .returned (.bool true) ∧ Below w.heap.size w w' := by
 have HR0 := aM hr0
 have HC0 := aM hc0
 have HR1 := aM hr1
 have HC1 := aM hc1
 have HR2 := aM hr2
 have HC2 := aM hc2
 clear hr0 hc0 hr1 hc1 hr2 hc2
 have HB := aM (Below.refl w.heap.size w)
 obtain ⟨m1, E1, H⟩ := Option.bind_eq_some_iff.mp h
 clear h
 have A1_ := aM E1
 clear E1
 cases m1 with
 | true =>
  rw [if_pos rfl] at H
  have A9 := aM H
  clear H
  go_enter Try.func3, Try.ntmps3
  go_wp2_with (first | ((with_reducible refine gate_callee (f := 4) rfl ?_); (try (refine gate_guard (by rfl) ?_; dsimp only)); refine goesL_ (some 18) rfl rfl Try.func4 (by kernel_rfl) rfl #[.slice A0 l0.length c0, .slice A1 l1.length c1] rfl pA ?_; (with_reducible refine (gradinelaw19_Many.calls _ _ l0 _ _ l1 true _ ?s1 ?s2 ?s3 ?s4 A1_.out).mono ?_); (case s1 => exact sC HR0 HB); (case s2 => exact HC0.out); (case s3 => exact sC HR1 HB); (case s4 => exact HC1.out); rintro e w5 ⟨rfl, hd⟩; refine ⟨_, rfl, ?_⟩; replace HB := bS (qB HB) (even.drawn hd); clear hd) | ((with_reducible refine gate_callee (f := 6) rfl ?_); (try (refine gate_guard (by rfl) ?_; dsimp only)); refine goesL_ (some 29) rfl rfl Try.func6 (by kernel_rfl) rfl #[] rfl pA ?_; (with_reducible refine (gradinelaw21_same.calls k true _ A9.out).mono ?_); rintro e w6 ⟨rfl, hb⟩; refine ⟨_, rfl, ?_⟩; replace HB := bS (qB HB) hb; clear hb))
  go_ret
  exact ⟨pE, HB.out⟩
 | false =>
  rw [if_neg (by simp)] at H
  replace H := Option.bind_eq_some_iff.mp H
  obtain ⟨m2, E1, H⟩ := H
  have A2_ := aM E1
  clear E1
  cases m2 with
  | true =>
   rw [if_pos rfl] at H
   have A9 := aM H
   clear H
   go_enter Try.func3, Try.ntmps3
   go_wp2_with (first | ((with_reducible refine gate_callee (f := 4) rfl ?_); (try (refine gate_guard (by rfl) ?_; dsimp only)); refine goesL_ (some 18) rfl rfl Try.func4 (by kernel_rfl) rfl #[.slice A0 l0.length c0, .slice A1 l1.length c1] rfl pA ?_; (with_reducible refine (gradinelaw19_Many.calls _ _ l0 _ _ l1 false _ ?s1 ?s2 ?s3 ?s4 A1_.out).mono ?_); (case s1 => exact sC HR0 HB); (case s2 => exact HC0.out); (case s3 => exact sC HR1 HB); (case s4 => exact HC1.out); rintro e w5 ⟨rfl, hd⟩; refine ⟨_, rfl, ?_⟩; replace HB := bS (qB HB) (even.drawn hd); clear hd) | (go_at_call 4; (with_reducible refine (even.many _ _ l2 true _ ?s1 ?s2 A2_.out).mono ?_); (case s1 => exact sC HR2 HB); (case s2 => exact HC2.out); rintro e w6 ⟨rfl, hd⟩; replace HB := bS (qB HB) (even.drawn hd); clear hd) | ((with_reducible refine gate_callee (f := 6) rfl ?_); (try (refine gate_guard (by rfl) ?_; dsimp only)); refine goesL_ (some 29) rfl rfl Try.func6 (by kernel_rfl) rfl #[] rfl pA ?_; (with_reducible refine (gradinelaw21_same.calls k true _ A9.out).mono ?_); rintro e w7 ⟨rfl, hb⟩; refine ⟨_, rfl, ?_⟩; replace HB := bS (qB HB) hb; clear hb))
   go_ret
   exact ⟨pE, HB.out⟩
  | false =>
   rw [if_neg (by simp)] at H
   replace H := Option.bind_eq_some_iff.mp H
   obtain ⟨ft, E1, H⟩ := H
   have A3_ := aM E1
   clear E1
   cases ft with
   | false =>
    rw [if_neg (by simp)] at H
    have A9 := aM H
    clear H
    go_enter Try.func3, Try.ntmps3
    go_wp2_with (first | ((with_reducible refine gate_callee (f := 4) rfl ?_); (try (refine gate_guard (by rfl) ?_; dsimp only)); refine goesL_ (some 18) rfl rfl Try.func4 (by kernel_rfl) rfl #[.slice A0 l0.length c0, .slice A1 l1.length c1] rfl pA ?_; (with_reducible refine (gradinelaw19_Many.calls _ _ l0 _ _ l1 false _ ?s1 ?s2 ?s3 ?s4 A1_.out).mono ?_); (case s1 => exact sC HR0 HB); (case s2 => exact HC0.out); (case s3 => exact sC HR1 HB); (case s4 => exact HC1.out); rintro e w5 ⟨rfl, hd⟩; refine ⟨_, rfl, ?_⟩; replace HB := bS (qB HB) (even.drawn hd); clear hd) | (go_at_call 4; (with_reducible refine (even.many _ _ l2 false _ ?s1 ?s2 A2_.out).mono ?_); (case s1 => exact sC HR2 HB); (case s2 => exact HC2.out); rintro e w6 ⟨rfl, hd⟩; replace HB := bS (qB HB) (even.drawn hd); clear hd) | (go_at_call 5; (with_reducible refine (gradineref21_Fits.calls k _ _ l0 _ _ l1 false _ ?s1 ?s2 ?s3 ?s4 A3_.out).mono ?_); (case s1 => exact sC HR0 HB); (case s2 => exact HC0.out); (case s3 => exact sC HR1 HB); (case s4 => exact HC1.out); rintro e w7 ⟨rfl, hb⟩; replace HB := bS (qB HB) hb; clear hb) | ((with_reducible refine gate_callee (f := 6) rfl ?_); (try (refine gate_guard (by rfl) ?_; dsimp only)); refine goesL_ (some 29) rfl rfl Try.func6 (by kernel_rfl) rfl #[] rfl pA ?_; (with_reducible refine (gradinelaw21_same.calls k true _ A9.out).mono ?_); rintro e w8 ⟨rfl, hb⟩; refine ⟨_, rfl, ?_⟩; replace HB := bS (qB HB) hb; clear hb))
    go_ret
    exact ⟨pE, HB.out⟩
   | true =>
    rw [if_pos rfl] at H
    replace H := Option.bind_eq_some_iff.mp H
    obtain ⟨n, E1, H⟩ := H
    have A4_ := aM E1
    clear E1
    replace H := Option.bind_eq_some_iff.mp H
    obtain ⟨m, E1, H⟩ := H
    have A5_ := aM E1
    clear E1
    split at H
    rotate_left
    · cases H
    rename_i hnm_
    have HN := aM hnm_
    clear hnm_
    replace H := Option.bind_eq_some_iff.mp H
    obtain ⟨S, E1, H⟩ := H
    have HS := aM (show S.length = 64 from (even.l0_length _ _ _ _ _ _ _ _ E1).trans (by decide))
    have A6_ := aM E1
    clear E1
    split at H
    rotate_left
    · cases H
    rename_i hck_
    have HC := aM hck_
    clear hck_
    have H' := aM H
    clear H
    go_enter Try.func3, Try.ntmps3
    go_upto_region 4 with (first | ((with_reducible refine gate_callee (f := 4) rfl ?_); (try (refine gate_guard (by rfl) ?_; dsimp only)); refine goesL_ (some 18) rfl rfl Try.func4 (by kernel_rfl) rfl #[.slice A0 l0.length c0, .slice A1 l1.length c1] rfl pA ?_; (with_reducible refine (gradinelaw19_Many.calls _ _ l0 _ _ l1 false _ ?s1 ?s2 ?s3 ?s4 A1_.out).mono ?_); (case s1 => exact sC HR0 HB); (case s2 => exact HC0.out); (case s3 => exact sC HR1 HB); (case s4 => exact HC1.out); rintro e w5 ⟨rfl, hd⟩; refine ⟨_, rfl, ?_⟩; replace HB := bS (qB HB) (even.drawn hd); clear hd) | (go_at_call 4; (with_reducible refine (even.many _ _ l2 false _ ?s1 ?s2 A2_.out).mono ?_); (case s1 => exact sC HR2 HB); (case s2 => exact HC2.out); rintro e w6 ⟨rfl, hd⟩; replace HB := bS (qB HB) (even.drawn hd); clear hd) | (go_at_call 5; (with_reducible refine (gradineref21_Fits.calls k _ _ l0 _ _ l1 true _ ?s1 ?s2 ?s3 ?s4 A3_.out).mono ?_); (case s1 => exact sC HR0 HB); (case s2 => exact HC0.out); (case s3 => exact sC HR1 HB); (case s4 => exact HC1.out); rintro e w7 ⟨rfl, hb⟩; replace HB := bS (qB HB) hb; clear hb) | ((with_reducible refine gate_callee (f := 7) rfl ?_); (try (refine gate_guard (by rfl) ?_; dsimp only)); refine goesL_ (some 31) rfl rfl Try.func7 (by kernel_rfl) rfl #[.slice A0 l0.length c0] rfl pA ?_; (with_reducible refine (gradineref19_Count.calls k _ _ l0 n _ ?s1 ?s2 A4_.out).mono ?_); (case s1 => exact sC HR0 HB); (case s2 => exact HC0.out); rintro e w8 ⟨rfl, hd⟩; refine ⟨_, rfl, ?_⟩; replace HB := bS (qB HB) (even.drawn hd); clear hd) | ((with_reducible refine gate_callee (f := 7) rfl ?_); (try (refine gate_guard (by rfl) ?_; dsimp only)); refine goesL_ (some 33) rfl rfl Try.func7 (by kernel_rfl) rfl #[.slice A1 l1.length c1] rfl pA ?_; (with_reducible refine (gradineref19_Count.calls k _ _ l1 m _ ?s1 ?s2 A5_.out).mono ?_); (case s1 => exact sC HR1 HB); (case s2 => exact HC1.out); rintro e w9 ⟨rfl, hd⟩; refine ⟨_, rfl, ?_⟩; replace HB := bS (qB HB) (even.drawn hd); clear hd))
    refine wp_region_lit ?_
    refine box_event ?hg (N := 9) ?hd (cs := vals zeros) (t := 26) ?hr ?_
    (case hd => rfl)
    (case hg => rfl)
    (case hr => first | (go_simp; done) | (go_simp; rfl))
    intro g9 hg w10 hbox hb
    have BK9 := aM (hbox)
    have GE9 := gE (w := w) hg (qB HB)
    replace HB := bS (qB HB) hb
    clear hb hbox hg
    go_wp2
    go_loopg [35] m.toNat (fun kq v35 w' => ∃ (i : Nat) (s : List Int), v35 = .int .i64 (i : Int) ∧ Aside0 (i + kq = m.toNat) ∧ Aside0 (even.l0 k l0 l1 n kq i s = some S) ∧ Aside0 (s.length = 64) ∧ Aside0 (w'.heap[g9]? = some (.cells (vals s) 26 (0, 0))) ∧ Aside0 (Below w.heap.size w w'))
    case atStart => exact ⟨0, zeros, rfl, ⟨by omega⟩, A6_, ⟨by decide⟩, BK9, HB⟩
    case round =>
     clear A6_ BK9 HB
     obtain ⟨i, s, rfl, HK, HA, HL, BK9, HB⟩ := hrel
     cases gk with
     | succ kq =>
      have HA1 := HA.out
      rw [even.l0] at HA1
      obtain ⟨⟨j, ok⟩, E1, HA2⟩ := Option.bind_eq_some_iff.mp HA1
      split at HA2
      rotate_left
      · cases HA2
      rename_i hj_
      obtain ⟨rfl, j0, j1, n64⟩ := hj_
      simp only at j0 j1 HA2
      have H1 := aM HA2
      have A7_ := aM E1
      have d1 : decide ((i : Int) < m) = true := decide_eq_true (by have := HK.out; omega)
      have hx2 := vals_cell BK9.out j j0 (by have := HL.out; omega)
      have hf2 := blk_frozen BK9.out j.toNat
      have q2 : (0 ≤ j) = True := eq_true j0
      have q3 : (j < 64) = True := eq_true (by omega)
      have d2 : decide (j < 0) = false := decide_eq_false (by omega)
      have d3 : decide (n ≤ j) = false := decide_eq_false (by omega)
      have HJ := aM (show 0 ≤ j ∧ j < n from ⟨j0, j1⟩)
      clear HA HA1 HA2 E1 j0 j1 n64
      go_wp2_with (first | ((with_reducible refine gate_callee (f := 8) rfl ?_); refine goesL_ (some 42) rfl rfl Try.func8 (by kernel_rfl) rfl #[.slice A0 l0.length c0, .slice A1 l1.length c1, .int .i64 (i : Int)] rfl pA ?_; (with_reducible refine (spread_Source.calls k _ _ l0 _ _ l1 (i : Int) j true _ ?s1 ?s2 ?s3 ?s4 A7_.out).mono ?_); (case s1 => exact sC HR0 HB); (case s2 => exact HC0.out); (case s3 => exact sC HR1 HB); (case s4 => exact HC1.out); rintro e w11 ⟨rfl, hb⟩; refine ⟨_, rfl, ?_⟩; replace BK9 := bK BK9 hb; replace HB := bS (qB1 HB GE9) hb; clear hb hx2 hf2; have hx2 := vals_cell BK9.out j HJ.out.1 (by have := HL.out; have := HN.out; have := HJ.out; omega); have hf2 := blk_frozen BK9.out j.toNat))
      go_roundg kq
      case measure => omega
      case rel => exact ⟨i + 1, _, by first | rfl | (rw [w64o (by have := HK.out; have := HN.out; omega) (by have := HK.out; have := HN.out; omega)]; rfl), ⟨by have := HK.out; omega⟩, H1, ⟨by rw [List.length_set]; exact HL.out⟩, ⟨blk_put BK9.out _ _ (vals_set _ _ _)⟩, ⟨below_set HB.out GE9.out⟩⟩
     | zero =>
      have HA1 := HA.out
      rw [even.l0] at HA1
      obtain rfl := Option.some.inj HA1
      have d1 : decide ((i : Int) < m) = false := decide_eq_false (by have := HK.out; have := HN.out; omega)
      clear HA HA1
      have HK1 := aM (show True from trivial)
      go_wp2
      go_loopg [64] n.toNat (fun kq v64 w' => ∃ (j : Nat), v64 = .int .i64 (j : Int) ∧ Aside0 (j + kq = n.toNat) ∧ Aside0 (w'.heap[g9]? = some (.cells (vals s) 26 (0, 0))) ∧ Aside0 (Below w.heap.size w w'))
      case atStart => exact ⟨0, rfl, ⟨by omega⟩, BK9, HB⟩
      case round =>
       clear BK9 HB
       obtain ⟨j, rfl, HJ, BK9, HB⟩ := hrel
       cases gk with
       | succ kq =>
        have HV := aM (HC.out j (by have := HJ.out; omega))
        have d2 : decide ((j : Int) < n) = true := decide_eq_true (by have := HJ.out; omega)
        have hx2 := vals_cell BK9.out (j : Int) (by omega) (by have := HL.out; have := HJ.out; have := HN.out; omega)
        rw [Int.toNat_natCast, HV.out] at hx2
        have q2 : (0 ≤ (j : Int)) = True := eq_true (by omega)
        have q3 : ((j : Int) < 64) = True := eq_true (by have := HJ.out; have := HN.out; omega)
        have hn0 : ¬ (n = 0) := by have := HN.out; omega
        have hn1 : (n == 0) = false := beq_eq_false_iff_ne.mpr hn0
        have hn2 : (n != 0) = true := bne_iff_ne.mpr hn0
        have hdv : wrap64 (m.tdiv n) = m.tdiv n := even.quo' HN.out.1 HN.out.2.2.1 HN.out.2.2.2
        go_wp2
        go_quiet (fail)
        go_wp2
        go_roundg kq
        case measure => omega
        case rel => exact ⟨j + 1, by first | rfl | (rw [w64o (by have := HJ.out; have := HN.out; omega) (by have := HJ.out; have := HN.out; omega)]; rfl), ⟨by have := HJ.out; omega⟩, ⟨blk_drewN BK9.out _⟩, ⟨pw_below_drewN HB.out _⟩⟩
       | zero =>
        have d2 : decide ((j : Int) < n) = false := decide_eq_false (by have := HJ.out; have := HN.out; omega)
        have H := H'.out
        clear H' HC
        replace H := Option.bind_eq_some_iff.mp H
        obtain ⟨⟨x, e⟩, E1, H⟩ := H
        have A10_ := aM E1
        clear E1
        dsimp only at H
        by_cases he : e = 0
        · rw [if_pos he] at H
          subst he
          replace H := Option.bind_eq_some_iff.mp H
          obtain ⟨g, E1, H⟩ := H
          have A11_ := aM E1
          clear E1
          cases g with
          | false => rw [if_neg (by simp)] at H; cases H
          | true =>
           rw [if_pos rfl] at H
           have A9 := aM H
           clear H
           go_wp2_with (first | ((with_reducible refine gate_callee (f := 9) rfl ?_); (try (refine gate_guard (by rfl) ?_; dsimp only)); refine goesL_ (some 78) rfl rfl Try.func9 (by kernel_rfl) rfl #[.slice A1 l1.length c1, .slice A2 l2.length c2] rfl pA ?_; (with_reducible refine (spread_Two.calls k (fun k_ => k_ < w.heap.size) _ _ l1 (fun k_ => k_ < w.heap.size) _ _ l2 x 0 _ ?s1 ?s2 A10_.out).mono ?_); (case s1 => exact Kd.V_mk HC1.out (Kd.F_below (Kd.C_F (Kd.heap_int .i64) HR1.out) (qB HB))); (case s2 => exact Kd.V_mk HC2.out (Kd.F_below (Kd.C_F (Kd.heap_int .i64) HR2.out) (qB HB))); rintro e w21 ⟨v21, rfl, ho0, hb⟩; refine ⟨_, rfl, ?_⟩; have HO := aM (Kd.R_lower ho0 (below_size (qB HB))); replace HB := bS (qB HB) hb; clear hb ho0; obtain ⟨Ao, co, eo⟩ := Kd.R_slice HO.out; subst eo) | (go_at_call 10; (with_reducible refine (spread_Fits.calls k _ _ l0 _ _ x true _ ?s1 ?s2 ?s3 ?s4 A11_.out).mono ?_); (case s1 => exact sC HR0 HB); (case s2 => exact HC0.out); (case s3 => exact sR HO); (case s4 => exact sL HO); rintro e w22 ⟨rfl, hb⟩; replace HB := bS (qB HB) hb; clear hb) | (go_at_call 6; (with_reducible refine (gradinelaw21_same.calls k true _ A9.out).mono ?_); skip; rintro e w23 ⟨rfl, hb⟩; replace HB := bS (qB HB) hb; clear hb))
           go_ret
           exact ⟨pE, HB.out⟩
        · rw [if_neg he] at H
          have A9 := aM H
          clear H
          have he1 : (e == 0) = false := beq_eq_false_iff_ne.mpr he
          have he2 : (e != 0) = true := bne_iff_ne.mpr he
          go_wp2_with (first | ((with_reducible refine gate_callee (f := 9) rfl ?_); (try (refine gate_guard (by rfl) ?_; dsimp only)); refine goesL_ (some 78) rfl rfl Try.func9 (by kernel_rfl) rfl #[.slice A1 l1.length c1, .slice A2 l2.length c2] rfl pA ?_; (with_reducible refine (spread_Two.calls k (fun k_ => k_ < w.heap.size) _ _ l1 (fun k_ => k_ < w.heap.size) _ _ l2 x e _ ?s1 ?s2 A10_.out).mono ?_); (case s1 => exact Kd.V_mk HC1.out (Kd.F_below (Kd.C_F (Kd.heap_int .i64) HR1.out) (qB HB))); (case s2 => exact Kd.V_mk HC2.out (Kd.F_below (Kd.C_F (Kd.heap_int .i64) HR2.out) (qB HB))); rintro e w21 ⟨v21, rfl, ho0, hb⟩; refine ⟨_, rfl, ?_⟩; have HO := aM (Kd.R_lower ho0 (below_size (qB HB))); replace HB := bS (qB HB) hb; clear hb ho0; obtain ⟨Ao, co, eo⟩ := Kd.R_slice HO.out; subst eo) | (go_at_call 6; (with_reducible refine (gradinelaw21_same.calls k true _ A9.out).mono ?_); skip; rintro e w23 ⟨rfl, hb⟩; replace HB := bS (qB HB) hb; clear hb))
          go_ret
          exact ⟨pE, HB.out⟩
end Go.Proofs.Ytmocfgkdclkgoaa.Q
namespace Go.Proofs.Ytmocfgkdclkgoaa.Pure
open Go.RowKit Go.Proofs.Ytmocfgkdclkgoaa.Q Go.Proofs.YtmocfgkdclkgoaaW.PrintWords Go.Proofs.YtmocfgkdclkgoaaW.PrintLast Go.Proofs.Ytmocfgkdclkgoaa.S
set_option linter.unusedVariables false

/-- Counts, and some more. -/
def more (s l : List Int) : List Int := (List.range 64).map fun i : Nat => rd s (i : Int) + (l.count (i : Int) : Int)
theorem more_nil (s : List Int) (hs : s.length = 64) : more s [] = s := by
  refine List.ext_getElem (by simp [more, hs]) (fun i h1 h2 => ?_)
  simp only [more, List.getElem_map, List.getElem_range, List.count_nil]
  rw [rdg s i h2]
  simp
theorem zeros_rd (i : Nat) (hi : i < 64) : rd zeros (i : Int) = 0 := by
  unfold rd zeros
  rw [Int.toNat_natCast, List.getD_eq_getElem?_getD, List.getElem?_replicate]
  split <;> rfl
theorem more_cons (s l : List Int) (hs : s.length = 64) (n : Nat) (hn : n < 64) : more (s.set n (rd s (n : Int) + 1)) l = more s ((n : Int) :: l) := by
  unfold more
  apply List.map_congr_left
  intro i hi
  rw [List.mem_range] at hi
  rw [rdg _ i (by simp; omega), List.getElem_set, List.count_cons]
  by_cases e : n = i
  · subst e; simp; omega
  · rw [if_neg e, if_neg (by simp; omega), rdg s i (by omega)]; simp
theorem even_l (a b : List Int) (h : Gr.fts a b = true) : ∀ q i : Nat, i + q = (Gr.srcs a b).length → ∀ s : List Int, s.length = 64 → (∀ j : Nat, j < 64 → 0 ≤ rd s (j : Int) ∧ rd s (j : Int) ≤ (i : Int)) →
    Ev (fun k => even.l0 k a b (Gr.cnt a) q i s) (more s ((Gr.srcs a b).drop i))
  | 0, i, hi, s, hs, hb => by
    rw [List.drop_eq_nil_of_le (by omega), more_nil s hs]
    exact Ev.congr (fun k => by rw [even.l0]) (Ev.now _)
  | q + 1, i, hi, s, hs, hb => by
    obtain ⟨f1, f2, f3, f4⟩ := (Gr.fts_iff a b).1 h
    have hl := Gr.srcs_length a b h
    have hc := Gr.cnt_ok f2
    have hca := Gr.cnt_ok f1
    have hii : i < (Gr.srcs a b).length := by omega
    have hsrc := source a b (i : Int)
    rw [if_pos ⟨h, by omega, by omega⟩] at hsrc
    have hb2 := Gr.num_lt a _ (Gr.chk_ok f1).2.1 (Gr.src_in h (i : Int))
    have e : Gr.src a b (i : Int) = Gr.num a (Gr.sat a ((Gr.dig b (i : Int)).drop (b.length - a.length))) := rfl
    rw [← e] at hb2
    obtain ⟨n, hn⟩ := Int.eq_ofNat_of_zero_le hb2.1
    have hn64 : n < 64 := by omega
    have hbn := hb n hn64
    rw [List.drop_eq_getElem_cons hii, Gr.srcs_get a b h i hii, hn, ← more_cons s _ hs n hn64]
    refine Ev.congr (fun k => by rw [even.l0]) (Ev.bind hsrc ?_)
    have ih := even_l a b h q (i + 1) (by omega) (s.set n (rd s (n : Int) + 1)) (by rw [List.length_set]; exact hs) (fun j hj => by
      rw [rdg _ j (by simp; omega), List.getElem_set]
      have := hb j hj
      rw [rdg s j (by omega)] at this
      split <;> omega)
    refine Ev.congr (fun k => ?_) ih
    rw [if_pos ⟨rfl, by simp only [hn]; omega, by simp only [hn]; omega, by omega⟩]
    simp only [hn, Int.toNat_natCast]
    rw [w64 (by omega) (by omega)]
theorem SpreadEven (a b c : List Int) : Ev (fun k => even.f k a b c) true := by
  have hs : Ev (fun k => gradinelaw21_same.f k) true := same21
  have hmany : ∀ x y : List Int, ∃ r, gradinelaw19_Many.f x y = some r := fun x y => by
    unfold gradinelaw19_Many.f
    split <;> exact ⟨_, rfl⟩
  obtain ⟨r1, e1⟩ := hmany a b
  obtain ⟨r2, e2⟩ := hmany c []
  cases r1 with
  | true => exact Ev.congr (fun k => by rw [even.f, e1, Option.bind_some, if_pos rfl]) hs
  | false =>
    cases r2 with
    | true => exact Ev.congr (fun k => by rw [even.f, e1, Option.bind_some, if_neg (by simp), e2, Option.bind_some, if_pos rfl]) hs
    | false =>
      refine Ev.congr (fun k => by rw [even.f, e1, Option.bind_some, if_neg (by simp), e2, Option.bind_some, if_neg (by simp)]) (Ev.bind (ref_fits a b) ?_)
      by_cases h : Gr.fts a b = true
      · obtain ⟨f1, f2, f3, f4⟩ := (Gr.fts_iff a b).1 h
        have hca := Gr.cnt_ok f1
        have hcb := Gr.cnt_ok f2
        have hl := Gr.srcs_length a b h
        rw [h]
        refine Ev.congr (fun k => by rw [if_pos rfl]) (Ev.bind (ref_count a) (Ev.bind (ref_count b) ?_))
        have hev := even_l a b h (Gr.cnt b).toNat 0 (by omega) zeros (by decide) (fun j hj => by rw [zeros_rd j hj]; omega)
        rw [List.drop_zero] at hev
        refine Ev.congr (fun k => by rw [if_pos ⟨by omega, by omega, by omega, by omega⟩]) (Ev.bind hev ?_)
        have hck : ∀ i : Nat, i < (Gr.cnt a).toNat → rd (more zeros (Gr.srcs a b)) (i : Int) = (Gr.cnt b).tdiv (Gr.cnt a) := by
          intro i hi
          have he := Gr.even a b h (i : Int) (by omega) (by omega)
          rw [← he, Int.mul_tdiv_cancel_left _ (by omega), rdg _ i (by simp [more]; omega)]
          simp only [more, List.getElem_map, List.getElem_range]
          rw [zeros_rd i (by omega), Int.zero_add]
        refine Ev.congr (fun k => by rw [if_pos hck]) (Ev.bind (two b c) ?_)
        by_cases h2 : (Gr.two b c).2 = 0
        · refine Ev.congr (fun k => by rw [if_pos h2]) (Ev.bind (fits a _) ?_)
          have e : Gr.two b c = ((Gr.two b c).1, 0) := by rw [← h2]
          rw [Gr.fts_trans h (Gr.fts_two e).1]
          exact Ev.congr (fun k => by rw [if_pos rfl]) hs
        · exact Ev.congr (fun k => by rw [if_neg h2]) hs
      · rw [Bool.eq_false_iff.2 h]
        exact Ev.congr (fun k => by rw [if_neg (by simp)]) hs
theorem SpreadEven_walk (w : World) (A1 : Option Addr) (c1 : Nat) (a : List Int) (hr1 : Kd.C (Kd.int .i64) w A1 a.length a) (hc1 : a.length ≤ c1) (_ : ∀ x ∈ a, (Lit.int .i64 x).wf = true)
    (A2 : Option Addr) (c2 : Nat) (b : List Int) (hr2 : Kd.C (Kd.int .i64) w A2 b.length b) (hc2 : b.length ≤ c2) (_ : ∀ x ∈ b, (Lit.int .i64 x).wf = true)
    (A3 : Option Addr) (c3 : Nat) (c : List Int) (hr3 : Kd.C (Kd.int .i64) w A3 c.length c) (hc3 : c.length ≤ c3) (_ : ∀ x ∈ c, (Lit.int .i64 x).wf = true) :
    Calls Try.prog 3 #[.slice A1 a.length c1, .slice A2 b.length c2, .slice A3 c.length c3] w fun e w' => e = .returned (.bool true) ∧ Below w.heap.size w w' := by
  obtain ⟨k, h⟩ := (SpreadEven a b c).rounds
  exact even.calls k A1 c1 a A2 c2 b A3 c3 c w hr1 hc1 hr2 hc2 hr3 hc3 h

end Go.Proofs.Ytmocfgkdclkgoaa.Pure
