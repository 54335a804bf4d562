/- The law SpreadMany: All tells the dims to which any number of dims go together, from left to right, as the reference does. -/
import Derived.Test.YtpoldofghcmfnaaQx0
import Derived.Test.YtpoldofghcmfnaaQxfLaw19Many
import Derived.Test.YtpoldofghcmfnaaQxfLaw21Same
import Derived.Test.YtpoldofghcmfnaaQxfLaw21SpreadMany
import Derived.Test.YtpoldofghcmfnaaQxfPlainInts
import Derived.Test.YtpoldofghcmfnaaQxfRef19Check
import Derived.Test.YtpoldofghcmfnaaQxfRef21All
import Derived.Test.YtpoldofghcmfnaaQxfRef21Two
import Derived.Test.YtpoldofghcmfnaaQxfShapeAxes
import Derived.Test.YtpoldofghcmfnaaQxfShapeCheck
import Derived.Test.YtpoldofghcmfnaaQxfShapeCount
import Derived.Test.YtpoldofghcmfnaaQxfShapeDrop
import Derived.Test.YtpoldofghcmfnaaQxfShapeSame
import Derived.Test.YtpoldofghcmfnaaQxfSlicesEqualIntInt
import Derived.Test.YtpoldofghcmfnaaQxfSpreadAll
import Derived.Test.YtpoldofghcmfnaaQxfSpreadFits
import Derived.Test.YtpoldofghcmfnaaQxfSpreadSize
import Derived.Test.YtpoldofghcmfnaaQxfSpreadSource
import Derived.Test.YtpoldofghcmfnaaQxfSpreadTwo
import Derived.Test.YtpoldofghcmfnaaQxfWalkAt
import Derived.Test.YtpoldofghcmfnaaQxfWalkIn
import Derived.Test.YtpoldofghcmfnaaQxfWalkPlace
import Derived.Test.YtpoldofghcmfnaaMath
namespace Gr
/-- How many elements dims have; 0, if they may not be. -/
def cnt (d : List Int) : Int := if chk d = 0 then prod d else 0
/-- Are axes such as may be, those of 'seen' being taken? -/
def axv (rank : Int) : List Int → List Int → Bool
  | _, [] => true
  | seen, a :: l => decide (0 ≤ a) && decide (a < rank) && !(seen.contains a) && axv rank (seen ++ [a]) l
def marks (rank : Nat) (l : List Int) : List Bool := (List.range rank).map fun i : Nat => l.contains (i : Int)
def mks (rank : Nat) (l : List Int) : List Bool := (List.range rank).map fun i : Nat => l.isEmpty || l.contains (i : Int)
def axs (rank : Int) (l : List Int) : List Bool × Int :=
  if rank < 0 ∨ 6 < rank then ([], 9) else if axv rank [] l = true then (mks rank.toNat l, 0) else ([], 10)
def drp (keep : Bool) : List Bool → List Int → List Int
  | m :: ms, x :: xs => if m = true then (if keep = true then 1 :: drp keep ms xs else drp keep ms xs) else x :: drp keep ms xs
  | _, _ => []
def drop (d axes : List Int) (keep : Bool) : List Int × Int :=
  if chk d = 0 then (if (axs d.length axes).2 = 0 then (drp keep (axs d.length axes).1 d, 0) else ([], (axs d.length axes).2)) else ([], chk d)
theorem chk_ok {d : List Int} (h : chk d = 0) : d.length ≤ 6 ∧ (∀ x ∈ d, 1 ≤ x) ∧ prod d ≤ 64 := by
  unfold chk at h
  split at h
  · omega
  · rename_i h6
    split at h
    · omega
    · rename_i h1
      split at h
      · omega
      · rename_i h2
        refine ⟨by omega, fun x hx => ?_, by omega⟩
        rw [Bool.not_eq_true, List.any_eq_false] at h1
        have := h1 x hx
        simp at this
        omega
theorem ok_le {d : List Int} (h : chk d = 0) : ∀ x ∈ d, x ≤ 64 := by
  obtain ⟨_, h1, h2⟩ := chk_ok h
  intro x hx
  obtain ⟨a, b, rfl⟩ := List.append_of_mem hx
  rw [prod_append] at h2
  simp only [prod] at h2
  have ha := prod_pos a (fun y hy => h1 y (by simp [hy]))
  have hb := prod_pos b (fun y hy => h1 y (by simp [hy]))
  have hx1 := h1 x (by simp)
  have h3 : 1 * (x * prod b) ≤ prod a * (x * prod b) := Int.mul_le_mul_of_nonneg_right ha (Int.mul_nonneg (by omega) (by omega))
  have h4 : x * 1 ≤ x * prod b := Int.mul_le_mul_of_nonneg_left hb (by omega)
  omega
theorem cnt_ok {d : List Int} (h : chk d = 0) : cnt d = prod d ∧ 1 ≤ cnt d ∧ cnt d ≤ 64 := by
  obtain ⟨h6, h1, h2⟩ := chk_ok h
  have := prod_pos d h1
  unfold cnt
  rw [if_pos h]
  exact ⟨rfl, this, h2⟩
/-- The place of the n-th element. -/
def dig : List Int → Int → List Int
  | [], _ => []
  | x :: l, n => n / prod l % x :: dig l n
/-- The number of a place. -/
def num : List Int → List Int → Int
  | _ :: d, a :: r => a * prod d + num d r
  | _, _ => 0
/-- Is it a place of these dims? -/
def inb : List Int → List Int → Bool
  | [], [] => true
  | x :: d, a :: r => decide (0 ≤ a) && decide (a < x) && inb d r
  | _, _ => false
def ind (d at_ : List Int) : Bool := decide (chk d = 0) && inb d at_
def att (d : List Int) (n : Int) : List Int × Bool := if 0 ≤ n ∧ n < cnt d then (dig d n, true) else ([], false)
def plc (d at_ : List Int) : Int × Bool := if ind d at_ = true then (num d at_, true) else (0, false)
theorem dig_length (d : List Int) (n : Int) : (dig d n).length = d.length := by
  induction d with
  | nil => rfl
  | cons x d ih => simp [dig, ih]
theorem inb_dig (d : List Int) (h : ∀ x ∈ d, 1 ≤ x) (n : Int) : inb d (dig d n) = true := by
  induction d with
  | nil => rfl
  | cons x d ih =>
    have hx := h x (by simp)
    simp only [inb, dig]
    rw [ih (fun y hy => h y (by simp [hy]))]
    have b1 := Int.emod_nonneg (n / prod d) (show x ≠ 0 by omega)
    have b2 := Int.emod_lt_of_pos (n / prod d) (show 0 < x by omega)
    simp [b1, b2]
theorem inb_length {d r : List Int} (h : inb d r = true) : r.length = d.length := by
  induction d generalizing r with
  | nil => cases r <;> simp_all [inb]
  | cons x d ih =>
    cases r with
    | nil => simp [inb] at h
    | cons a r =>
      simp only [inb, Bool.and_eq_true] at h
      simp [ih h.2]
theorem num_lt (d r : List Int) (h : ∀ x ∈ d, 1 ≤ x) (hi : inb d r = true) : 0 ≤ num d r ∧ num d r < prod d := by
  induction d generalizing r with
  | nil => cases r <;> simp [num, prod]
  | cons x d ih =>
    cases r with
    | nil => simp [inb] at hi
    | cons a r =>
      simp only [inb, Bool.and_eq_true, decide_eq_true_eq] at hi
      obtain ⟨i1, i2⟩ := ih r (fun y hy => h y (by simp [hy])) hi.2
      have hp := prod_pos d (fun y hy => h y (by simp [hy]))
      simp only [num, prod]
      have b5 : 0 ≤ a * prod d := Int.mul_nonneg hi.1.1 (by omega)
      have b6 : (a + 1) * prod d ≤ x * prod d := Int.mul_le_mul_of_nonneg_right (by omega) (by omega)
      rw [Int.add_mul] at b6
      omega
def mx (a b : Int) : Int := if a < b then b else a
/-- Dims with 1 ahead, n in all. -/
def pad (n : Nat) (l : List Int) : List Int := List.replicate (n - l.length) 1 ++ l
/-- Do they go together, one by one? -/
def fitz : List Int → List Int → Bool
  | x :: a, y :: b => (x == y || x == 1 || y == 1) && fitz a b
  | _, _ => true
def mxs : List Int → List Int → List Int
  | x :: a, y :: b => mx x y :: mxs a b
  | _, _ => []
def tw (p q : List Int) : List Int × Int := if fitz p q = true then (if chk (mxs p q) = 0 then (mxs p q, 0) else ([], chk (mxs p q))) else ([], 8)
def rank2 (a b : List Int) : Nat := max a.length b.length
def two (a b : List Int) : List Int × Int :=
  if chk a = 0 then (if chk b = 0 then tw (pad (rank2 a b) a) (pad (rank2 a b) b) else ([], chk b)) else ([], chk a)
def fts (a b : List Int) : Bool := decide ((two a b).2 = 0) && decide ((two a b).1 = b)
/-- The place that is spread to one. -/
def sat : List Int → List Int → List Int
  | x :: f, v :: q => (if x = 1 then 0 else v) :: sat f q
  | _, _ => []
def src (a b : List Int) (n : Int) : Int := num a (sat a ((dig b n).drop (b.length - a.length)))
theorem pad_length (n : Nat) (l : List Int) (h : l.length ≤ n) : (pad n l).length = n := by simp [pad]; omega
theorem pad_self (l : List Int) : pad l.length l = l := by simp [pad]
theorem mxs_length (a b : List Int) (h : a.length = b.length) : (mxs a b).length = a.length := by
  induction a generalizing b with
  | nil => cases b <;> simp [mxs]
  | cons x a ih =>
    cases b with
    | nil => simp at h
    | cons y b => simp [mxs, ih b (by simpa using h)]
theorem fitz_drop (a b : List Int) (i : Nat) (h : fitz a b = true) : fitz (a.drop i) (b.drop i) = true := by
  induction i generalizing a b with
  | zero => simpa using h
  | succ i ih =>
    cases a with
    | nil => simp [fitz]
    | cons x a =>
      cases b with
      | nil => simp [fitz]
      | cons y b =>
        simp only [fitz, Bool.and_eq_true] at h
        simpa using ih a b h.2
theorem pad_at (n : Nat) (l : List Int) (h : l.length ≤ n) (i : Nat) (hi : i < n) :
    (pad n l)[i]'(by rw [pad_length n l h]; exact hi) = if h2 : n - l.length ≤ i then l[i - (n - l.length)]'(by omega) else 1 := by
  unfold pad
  split
  · rename_i h2
    rw [List.getElem_append_right (by simpa using h2)]
    simp
  · rename_i h2
    rw [List.getElem_append_left (by simp; omega)]
    simp
/-- f is 1 or t, everywhere. -/
def sub : List Int → List Int → Bool
  | x :: f, y :: t => (x == 1 || x == y) && sub f t
  | [], [] => true
  | _, _ => false
theorem sub_iff (f t : List Int) (hl : f.length = t.length) (hf : ∀ x ∈ f, 1 ≤ x) (ht : ∀ x ∈ t, 1 ≤ x) : sub f t = true ↔ fitz f t = true ∧ mxs f t = t := by
  induction f generalizing t with
  | nil => cases t <;> simp_all [sub, fitz, mxs]
  | cons x f ih =>
    cases t with
    | nil => simp at hl
    | cons y t =>
      have h1 := hf x (by simp)
      have h2 := ht y (by simp)
      have := ih t (by simpa using hl) (fun z hz => hf z (by simp [hz])) (fun z hz => ht z (by simp [hz]))
      simp only [sub, fitz, mxs, Bool.and_eq_true, Bool.or_eq_true, beq_iff_eq, List.cons.injEq, this]
      constructor
      · rintro ⟨h | h, h3, h4⟩
        · exact ⟨⟨.inl (.inr h), h3⟩, by unfold mx; split <;> omega, h4⟩
        · exact ⟨⟨.inl (.inl h), h3⟩, by unfold mx; split <;> omega, h4⟩
      · rintro ⟨⟨h, h3⟩, h5, h4⟩
        unfold mx at h5
        refine ⟨?_, h3, h4⟩
        split at h5
        · rcases h with (h | h) | h
          · exact .inr h
          · exact .inl h
          · omega
        · exact .inr h5
theorem pad_pos (n : Nat) (l : List Int) (h : ∀ x ∈ l, 1 ≤ x) : ∀ x ∈ pad n l, 1 ≤ x := by
  intro x hx
  unfold pad at hx
  rcases List.mem_append.1 hx with hx | hx
  · have := List.eq_of_mem_replicate hx; omega
  · exact h x hx
/-- What 'fits' says. -/
theorem fts_iff (a b : List Int) : fts a b = true ↔ chk a = 0 ∧ chk b = 0 ∧ a.length ≤ b.length ∧ sub (pad b.length a) b = true := by
  unfold fts
  simp only [Bool.and_eq_true, decide_eq_true_eq]
  constructor
  · rintro ⟨h1, h2⟩
    unfold two at h1 h2
    split at h1
    · rename_i ha
      rw [if_pos ha] at h2
      split at h1
      · rename_i hb
        rw [if_pos hb] at h2
        unfold tw at h1 h2
        split at h1
        · rename_i hf
          rw [if_pos hf] at h2
          split at h1
          · rename_i hc
            rw [if_pos hc] at h2
            simp only at h2
            have hl := mxs_length (pad (rank2 a b) a) (pad (rank2 a b) b) (by rw [pad_length, pad_length] <;> unfold rank2 <;> omega)
            rw [h2, pad_length _ _ (by unfold rank2; omega)] at hl
            have hle : a.length ≤ b.length := by unfold rank2 at hl; omega
            rw [← hl, pad_self] at hf h2
            refine ⟨ha, hb, hle, (sub_iff _ _ (pad_length _ _ hle) (pad_pos _ _ (chk_ok ha).2.1) (chk_ok hb).2.1).2 ⟨hf, h2⟩⟩
          · rename_i hc; exact absurd h1 hc
        · simp at h1
      · rename_i hb; exact absurd h1 hb
    · rename_i ha; exact absurd h1 ha
  · rintro ⟨ha, hb, hle, hs⟩
    obtain ⟨s1, s2⟩ := (sub_iff _ _ (pad_length _ _ hle) (pad_pos _ _ (chk_ok ha).2.1) (chk_ok hb).2.1).1 hs
    have e : two a b = (b, 0) := by
      unfold two
      have hr : rank2 a b = b.length := by unfold rank2; omega
      rw [if_pos ha, if_pos hb, hr, pad_self]
      unfold tw
      rw [if_pos s1, s2, if_pos hb]
    rw [e]; exact ⟨rfl, rfl⟩
theorem sub_drop {f t : List Int} (h : sub f t = true) (i : Nat) : sub (f.drop i) (t.drop i) = true := by
  induction i generalizing f t with
  | zero => simpa using h
  | succ i ih =>
    cases f with
    | nil => cases t <;> simp_all [sub]
    | cons x f =>
      cases t with
      | nil => simp [sub] at h
      | cons y t =>
        simp only [sub, Bool.and_eq_true] at h
        simpa using ih h.2
theorem pad_drop (n : Nat) (l : List Int) : (pad n l).drop (n - l.length) = l := by
  unfold pad
  rw [List.drop_append_of_le_length (by simp)]
  simp
theorem inb_sat (f t q : List Int) (hs : sub f t = true) (hf : ∀ x ∈ f, 1 ≤ x) (hq : inb t q = true) : inb f (sat f q) = true := by
  induction f generalizing t q with
  | nil => cases t <;> cases q <;> simp_all [sub, inb, sat]
  | cons x f ih =>
    cases t with
    | nil => simp [sub] at hs
    | cons y t =>
      cases q with
      | nil => simp [inb] at hq
      | cons v q =>
        have h1 := hf x (by simp)
        simp only [sub, Bool.and_eq_true, Bool.or_eq_true, beq_iff_eq] at hs
        simp only [inb, Bool.and_eq_true, decide_eq_true_eq] at hq
        simp only [inb, sat, Bool.and_eq_true, decide_eq_true_eq]
        refine ⟨?_, ih t q hs.2 (fun z hz => hf z (by simp [hz])) hq.2⟩
        split <;> omega
theorem inb_drop {d r : List Int} (h : inb d r = true) (i : Nat) : inb (d.drop i) (r.drop i) = true := by
  induction i generalizing d r with
  | zero => simpa using h
  | succ i ih =>
    cases d with
    | nil => cases r <;> simp_all [inb]
    | cons x d =>
      cases r with
      | nil => simp [inb] at h
      | cons y r =>
        simp only [inb, Bool.and_eq_true] at h
        simpa using ih h.2
theorem src_in {a b : List Int} (h : fts a b = true) (n : Int) : inb a (sat a ((dig b n).drop (b.length - a.length))) = true := by
  obtain ⟨h1, h2, h3, h4⟩ := (fts_iff a b).1 h
  have hs := sub_drop h4 (b.length - a.length)
  rw [pad_drop] at hs
  exact inb_sat a _ _ hs (chk_ok h1).2.1 (inb_drop (inb_dig b (chk_ok h2).2.1 n) _)
end Gr
namespace Go.Proofs.Ytpoldofghcmfnaa.S
open Go.RowKit Go.Proofs.Ytpoldofghcmfnaa.Q Go.Proofs.YtpoldofghcmfnaaW.PrintWords Go.Proofs.YtpoldofghcmfnaaW.PrintLast Go.Proofs.YtpoldofghcmfnaaW.PrintMore
set_option linter.unusedVariables false
set_option linter.unusedSimpArgs false
theorem w64 {x : Int} (h0 : -9223372036854775808 ≤ x) (h1 : x ≤ 9223372036854775807) : wrap64 x = x := by
  unfold wrap64; omega
theorem down (P : Nat → Prop) (n : Nat) (h0 : P n) (hs : ∀ i, i < n → P (i + 1) → P i) : ∀ i, i ≤ n → P i := by
  intro i hi
  obtain ⟨d, rfl⟩ : ∃ d, n = i + d := ⟨n - i, by omega⟩
  clear hi
  induction d generalizing i with
  | zero => exact h0
  | succ d ih =>
    apply hs i (by omega)
    exact ih (i + 1) (by rw [show i + 1 + d = i + (d + 1) by omega]; exact h0) (fun j hj hp => hs j (by omega) hp)
theorem rdg (l : List Int) (i : Nat) (h : i < l.length) : rd l (i : Int) = l[i] := by
  simp [rd, List.getD_eq_getElem?_getD, List.getElem?_eq_getElem h]
theorem rdb (l : List Bool) (i : Nat) (h : i < l.length) : rdOf false l (i : Int) = l[i] := by
  simp [rdOf, List.getD_eq_getElem?_getD, List.getElem?_eq_getElem h]
theorem dropc (l : List Int) (i : Nat) (h : i < l.length) : l.drop i = rd l (i : Int) :: l.drop (i + 1) := by
  rw [rdg l i h]; exact (List.drop_eq_getElem_cons h)
theorem nx (i n : Nat) (h : i < n) (hn : n ≤ 1000000000) : wrap64 ((i : Int) + 1) = ((i + 1 : Nat) : Int) := by
  rw [w64 (by omega) (by omega)]; omega
theorem ints_l (a b : List Int) (hl : a.length = b.length) (hn : a.length ≤ 1000000000) : ∀ i, i ≤ a.length →
    Ev (fun k => gradineplain_Ints.l0 k a b (a.length : Int) (i : Int)) (decide (a.drop i = b.drop i)) := by
  apply down
  · refine Ev.step (f := fun _ => some true) (fun k => ?_) ?_
    · rw [gradineplain_Ints.l0, if_neg (by omega)]
    · rw [List.drop_length, hl, List.drop_length]; exact Ev.now true
  · intro i hi ih
    rw [dropc a i hi, dropc b i (by omega)]
    by_cases e : rd a (i : Int) = rd b (i : Int)
    · rw [show decide (rd a (i : Int) :: a.drop (i + 1) = rd b (i : Int) :: b.drop (i + 1)) = decide (a.drop (i + 1) = b.drop (i + 1)) by simp [e]]
      refine Ev.step (fun k => ?_) ih
      rw [gradineplain_Ints.l0, if_pos (by omega), if_pos (by omega), if_pos (by omega), if_pos (by omega), if_pos e, nx i _ hi hn]
    · rw [show decide (rd a (i : Int) :: a.drop (i + 1) = rd b (i : Int) :: b.drop (i + 1)) = false by simp [e]]
      refine Ev.step (fun k => ?_) (Ev.now false)
      rw [gradineplain_Ints.l0, if_pos (by omega), if_pos (by omega), if_pos (by omega), if_pos (by omega), if_neg e]
theorem ints (a b : List Int) (hn : a.length ≤ 1000000000) : Ev (fun k => gradineplain_Ints.f k a b) (decide (a = b)) := by
  by_cases hl : a.length = b.length
  · refine Ev.congr (fun k => ?_) (by have := ints_l a b hl hn 0 (by omega); simpa using this)
    rw [gradineplain_Ints.f, if_pos (by omega)]
  · rw [show decide (a = b) = false from decide_eq_false (fun e => hl (by rw [e]))]
    refine Ev.congr (fun k => ?_) (Ev.now false)
    rw [gradineplain_Ints.f, if_neg (by omega)]
theorem ints_eq {a b : List Int} (h : a = b) (hn : a.length ≤ 1000000000) : Ev (fun k => gradineplain_Ints.f k a b) true := by
  have := ints a b hn
  rwa [show decide (a = b) = true by simp [h]] at this
theorem shape_check (d : List Int) : shape_Check.f d = some (Gr.chk d) := rfl
theorem check_1 (d : List Int) (hok : ∀ x ∈ d, 1 ≤ x) (hn : d.length ≤ 6) : ∀ i, i ≤ d.length → Gr.prod (d.take i) ≤ 64 →
    Ev (fun k => gradineref19_Check.l1 k d (Gr.prod (d.take i)) (d.length : Int) (i : Int)) (if 64 < Gr.prod d then 12 else 0) := by
  apply down
  · intro h
    rw [List.take_length] at h ⊢
    rw [if_neg (by omega)]
    refine Ev.step (fun k => ?_) (Ev.now 0)
    rw [gradineref19_Check.l1, if_neg (by omega)]
  · intro i hi ih h
    have hp := Gr.prod_pos (d.take i) (fun x hx => hok x (List.mem_of_mem_take hx))
    have hs := Gr.prod_take_succ d i hi
    have h1 : 1 ≤ d[i] := hok _ (List.getElem_mem hi)
    have hle := Gr.prod_take_le d hok (i + 1)
    have hge : d[i] ≤ Gr.prod (d.take i) * d[i] := by
      have : 1 * d[i] ≤ Gr.prod (d.take i) * d[i] := Int.mul_le_mul_of_nonneg_right hp (by omega)
      omega
    by_cases e : 64 < d[i]
    · rw [if_pos (by omega)]
      refine Ev.step (fun k => ?_) (Ev.now 12)
      rw [gradineref19_Check.l1, if_pos (by omega), if_pos (by omega), if_pos (by omega), rdg d i hi, if_pos (by omega)]
    · have hb : Gr.prod (d.take i) * d[i] ≤ 64 * 64 := Int.mul_le_mul h (by omega) (by omega) (by omega)
      by_cases e2 : 64 < Gr.prod (d.take i) * d[i]
      · rw [if_pos (by omega)]
        refine Ev.step (fun k => ?_) (Ev.now 12)
        rw [gradineref19_Check.l1, if_pos (by omega), if_pos (by omega), if_pos (by omega), rdg d i hi, if_neg (by omega), w64 (by omega) (by omega), if_pos (by omega)]
      · refine Ev.step (fun k => ?_) (ih (by omega))
        rw [gradineref19_Check.l1, if_pos (by omega), if_pos (by omega), if_pos (by omega), rdg d i hi, if_neg (by omega), w64 (by omega) (by omega), if_neg (by omega), nx i _ hi (by omega), ← hs]
theorem check_0 (d : List Int) (hn : d.length ≤ 6) : ∀ i, i ≤ d.length → (∀ x ∈ d.take i, 1 ≤ x) →
    Ev (fun k => gradineref19_Check.l0 k d (d.length : Int) (i : Int)) (Gr.chk d) := by
  apply down
  · intro h
    rw [List.take_length] at h
    have e : Gr.chk d = if 64 < Gr.prod d then 12 else 0 := by
      unfold Gr.chk
      rw [if_neg (by omega), if_neg]
      rw [Bool.not_eq_true, List.any_eq_false]
      intro x hx
      have := h x hx
      simp; omega
    rw [e]
    refine Ev.step (fun k => ?_) (check_1 d h hn 0 (by omega) (by simp [Gr.prod]))
    rw [gradineref19_Check.l0, if_neg (by omega)]; simp [Gr.prod]
  · intro i hi ih h
    by_cases e : d[i] < 1
    · have e8 : Gr.chk d = 8 := by
        unfold Gr.chk
        rw [if_neg (by omega), if_pos]
        rw [List.any_eq_true]
        exact ⟨d[i], List.getElem_mem hi, by simpa using e⟩
      rw [e8]
      refine Ev.step (fun k => ?_) (Ev.now 8)
      rw [gradineref19_Check.l0, if_pos (by omega), if_pos (by omega), if_pos (by omega), rdg d i hi, if_pos (by omega)]
    · refine Ev.step (fun k => ?_) (ih ?_)
      · rw [gradineref19_Check.l0, if_pos (by omega), if_pos (by omega), if_pos (by omega), rdg d i hi, if_neg (by omega), nx i _ hi (by omega)]
      · intro x hx
        rw [List.take_succ_eq_append_getElem hi, List.mem_append] at hx
        rcases hx with hx | hx
        · exact h x hx
        · simp at hx; omega
theorem ref_check (d : List Int) : Ev (fun k => gradineref19_Check.f k d) (Gr.chk d) := by
  by_cases h : 6 < d.length
  · have e : Gr.chk d = 9 := by unfold Gr.chk; rw [if_pos h]
    rw [e]
    refine Ev.congr (fun k => ?_) (Ev.now 9)
    rw [gradineref19_Check.f, if_pos (by omega)]
  · refine Ev.congr (fun k => ?_) (check_0 d (by omega) 0 (by omega) (by simp))
    rw [gradineref19_Check.f, if_neg (by omega)]; rfl
theorem prod_step {d : List Int} (hok : Gr.chk d = 0) (i : Nat) (hi : i < d.length) :
    1 ≤ Gr.prod (d.take i) ∧ Gr.prod (d.take i) * d[i] = Gr.prod (d.take (i + 1)) ∧ Gr.prod (d.take (i + 1)) ≤ 64 ∧ 1 ≤ Gr.prod (d.take (i + 1)) := by
  obtain ⟨h6, h1, h2⟩ := Gr.chk_ok hok
  have := Gr.prod_take_le d h1 (i + 1)
  exact ⟨Gr.prod_pos _ (fun x hx => h1 x (List.mem_of_mem_take hx)), (Gr.prod_take_succ d i hi).symm, by omega, Gr.prod_pos _ (fun x hx => h1 x (List.mem_of_mem_take hx))⟩
theorem count_l (d : List Int) (hok : Gr.chk d = 0) : ∀ i, i ≤ d.length →
    Ev (fun k => shape_Count.l0 k (Gr.prod (d.take i)) d (d.length : Int) (i : Int)) (Gr.prod d) := by
  obtain ⟨h6, h1, h2⟩ := Gr.chk_ok hok
  apply down
  · rw [List.take_length]
    refine Ev.step (fun k => ?_) (Ev.now _)
    rw [shape_Count.l0, if_neg (by omega)]
  · intro i hi ih
    obtain ⟨p1, p2, p3, p4⟩ := prod_step hok i hi
    refine Ev.step (fun k => ?_) ih
    rw [shape_Count.l0, if_pos (by omega), if_pos (by omega), if_pos (by omega), rdg d i hi, w64 (by omega) (by omega), nx i _ hi (by omega), p2]
theorem count (d : List Int) : Ev (fun k => shape_Count.f k d) (Gr.cnt d) := by
  unfold Gr.cnt
  by_cases h : Gr.chk d = 0
  · rw [if_pos h]
    refine Ev.congr (fun k => ?_) (count_l d h 0 (by omega))
    rw [shape_Count.f, shape_check, Option.bind_some, if_pos h]; simp [Gr.prod]
  · rw [if_neg h]
    refine Ev.congr (fun k => ?_) (Ev.now 0)
    rw [shape_Count.f, shape_check, Option.bind_some, if_neg h]
theorem contains_snoc (s : List Int) (a x : Int) : (s ++ [a]).contains x = (s.contains x || x == a) := by
  simp [List.contains_eq_mem, List.mem_append, Bool.decide_or]
  rfl
theorem marks_set (r : Nat) (s : List Int) (a : Int) (h0 : 0 ≤ a) (h1 : a < r) : (Gr.marks r s).set a.toNat true = Gr.marks r (s ++ [a]) := by
  apply List.ext_getElem (by simp [Gr.marks])
  intro j hj hj2
  simp only [Gr.marks, List.getElem_set, List.getElem_map, List.getElem_range, contains_snoc]
  by_cases e : a.toNat = j
  · rw [if_pos e, show ((j : Int) == a) = true by simp; omega, Bool.or_true]
  · rw [if_neg e, show ((j : Int) == a) = false by simp; omega, Bool.or_false]
theorem marks_at (r : Nat) (s : List Int) (a : Int) (h0 : 0 ≤ a) (h1 : a < r) : rdOf false (Gr.marks r s) a = s.contains a := by
  obtain ⟨n, rfl⟩ := Int.eq_ofNat_of_zero_le h0
  rw [rdb _ n (by simp [Gr.marks]; omega)]
  simp [Gr.marks]
theorem marks_length (r : Nat) (s : List Int) : (Gr.marks r s).length = r := by simp [Gr.marks]
theorem mks_length (r : Nat) (s : List Int) : (Gr.mks r s).length = r := by simp [Gr.mks]
theorem mks_of_ne (r : Nat) (l : List Int) (h : l ≠ []) : Gr.mks r l = Gr.marks r l := by
  unfold Gr.mks Gr.marks
  rw [show l.isEmpty = false by cases l <;> simp_all]
  simp
theorem axes_1 (r : Nat) (hr : r ≤ 6) (x : List Bool) (hx : x.length = r) : ∀ i, i ≤ r → (x.take i = List.replicate i true) →
    Ev (fun k => shape_Axes.l1 k x (r : Int) (i : Int)) (List.replicate r true, 0) := by
  intro i hi
  obtain ⟨d, hd⟩ : ∃ d, r = i + d := ⟨r - i, by omega⟩
  induction d generalizing i x with
  | zero =>
    intro h
    have : i = x.length := by omega
    subst this
    rw [List.take_length] at h
    refine Ev.step (fun k => ?_) (Ev.now _)
    rw [shape_Axes.l1, if_neg (by omega), h, hx]
  | succ d ih =>
    intro h
    refine Ev.step (fun k => ?_) (ih (x.set i true) (by simp [hx]) (i + 1) (by omega) (by omega) ?_)
    · rw [shape_Axes.l1, if_pos (by omega), if_pos (by omega), if_pos (by omega), Int.toNat_natCast, nx i r (by omega) (by omega)]
    · rw [List.take_succ_eq_append_getElem (by simp; omega), List.take_set_of_le (by omega), h, List.getElem_set_self, List.replicate_succ']
theorem axes_0 (r : Nat) (hr : r ≤ 6) (l : List Int) (hn : l.length ≤ 1000000000) : ∀ i, i ≤ l.length →
    Ev (fun k => shape_Axes.l0 k (r : Int) l (Gr.marks r (l.take i)) l (l.length : Int) (i : Int)) (if Gr.axv r (l.take i) (l.drop i) = true then (Gr.mks r l, 0) else ([], 10)) := by
  apply down
  · rw [List.take_length, List.drop_length]
    rw [if_pos (by rfl)]
    by_cases e : l = []
    · subst e
      have := axes_1 r hr (Gr.marks r []) (marks_length _ _) 0 (by omega) (by simp)
      rw [show Gr.mks r [] = List.replicate r true by
        unfold Gr.mks
        apply List.ext_getElem (by simp)
        intro j _ _; simp]
      refine Ev.step (fun k => ?_) this
      rw [shape_Axes.l0, if_neg (by simp), if_pos (by simp), marks_length]; rfl
    · rw [mks_of_ne r l e]
      have h0 : ¬ ((l.length : Int) = 0) := by
        intro h; apply e; apply List.eq_nil_of_length_eq_zero; omega
      refine Ev.step (fun k => ?_) (Ev.now _)
      rw [shape_Axes.l0, if_neg (by omega), if_neg h0]
  · intro i hi ih
    rw [dropc l i hi, Gr.axv]
    by_cases h1 : rd l (i : Int) < 0
    · rw [if_neg (by simp; omega)]
      refine Ev.step (fun k => ?_) (Ev.now _)
      rw [shape_Axes.l0, if_pos (by omega), if_pos (by omega), if_pos (by omega), if_pos h1]
    · by_cases h2 : (r : Int) ≤ rd l (i : Int)
      · rw [if_neg (by simp; omega)]
        refine Ev.step (fun k => ?_) (Ev.now _)
        rw [shape_Axes.l0, if_pos (by omega), if_pos (by omega), if_pos (by omega), if_neg h1, if_pos h2]
      · have ha := marks_at r (l.take i) (rd l (i : Int)) (by omega) (by omega)
        by_cases h3 : (l.take i).contains (rd l (i : Int)) = true
        · rw [h3, if_neg (by simp)]
          refine Ev.step (fun k => ?_) (Ev.now _)
          rw [shape_Axes.l0, if_pos (by omega), if_pos (by omega), if_pos (by omega), if_neg h1, if_neg h2, if_pos (by omega), if_pos (by rw [marks_length]; omega), ha, if_pos h3]
        · have e : l.take (i + 1) = l.take i ++ [rd l (i : Int)] := by rw [List.take_succ_eq_append_getElem hi, rdg l i hi]
          rw [e] at ih
          rw [show (decide (0 ≤ rd l (i : Int)) && decide (rd l (i : Int) < (r : Int)) && !((l.take i).contains (rd l (i : Int)))) = true by simp [h3]; simp at h3; exact ⟨by omega, h3⟩, Bool.true_and]
          refine Ev.step (fun k => ?_) ih
          rw [shape_Axes.l0, if_pos (by omega), if_pos (by omega), if_pos (by omega), if_neg h1, if_neg h2, if_pos (by omega), if_pos (by rw [marks_length]; omega), ha, if_neg h3, marks_set r _ _ (by omega) (by omega), nx i _ hi hn]
theorem axes (r : Int) (l : List Int) (hn : l.length ≤ 1000000000) : Ev (fun k => shape_Axes.f k r l) (Gr.axs r l) := by
  unfold Gr.axs
  by_cases h0 : r < 0
  · rw [if_pos (.inl h0)]
    refine Ev.congr (f := fun k => shape_Axes.j0 k r l true) (fun k => by rw [shape_Axes.f, if_pos h0]) ?_
    refine Ev.step (fun k => ?_) (Ev.now _)
    rw [shape_Axes.j0, if_pos rfl]
  · refine Ev.congr (f := fun k => shape_Axes.j0 k r l (decide (r > 6))) (fun k => by rw [shape_Axes.f, if_neg h0]) ?_
    by_cases h6 : 6 < r
    · rw [if_pos (.inr h6)]
      refine Ev.step (fun k => ?_) (Ev.now _)
      rw [shape_Axes.j0, if_pos (by simpa using h6)]
    · rw [if_neg (by omega)]
      obtain ⟨n, rfl⟩ := Int.eq_ofNat_of_zero_le (show 0 ≤ r by omega)
      have := axes_0 n (by omega) l hn 0 (by omega)
      rw [List.take_zero, List.drop_zero] at this
      refine Ev.step (fun k => ?_) this
      rw [shape_Axes.j0, if_neg (by simp; omega), if_pos (by omega), if_pos (by simp; omega), Int.toNat_natCast]
      rw [show Gr.marks n [] = List.replicate n false by
        unfold Gr.marks
        apply List.ext_getElem (by simp)
        intro j _ _; simp]
      rfl
theorem axs_length (d l : List Int) (h : (Gr.axs d.length l).2 = 0) : (Gr.axs d.length l).1.length = d.length := by
  unfold Gr.axs at h ⊢
  split at h
  · simp at h
  · rename_i h1
    split at h
    · rename_i h2
      rw [if_neg h1, if_pos h2]
      simp [mks_length]
    · simp at h
theorem drop_l (keep : Bool) (m : List Bool) (d : List Int) (hm : m.length = d.length) (hn : d.length ≤ 6) : ∀ i, i ≤ d.length → ∀ o : List Int, o.length ≤ i →
    Ev (fun k => shape_Drop.l0 k keep m o d (d.length : Int) (i : Int)) (o ++ Gr.drp keep (m.drop i) (d.drop i), 0) := by
  apply down
  · intro o ho
    rw [List.drop_length, ← hm, List.drop_length]
    simp only [Gr.drp, List.append_nil]
    refine Ev.step (fun k => ?_) (Ev.now _)
    rw [shape_Drop.l0, if_neg (by omega)]
  · intro i hi ih o ho
    rw [dropc d i hi, List.drop_eq_getElem_cons (show i < m.length by omega)]
    simp only [Gr.drp]
    have hb := rdb m i (by omega)
    by_cases h1 : m[i] = true
    · rw [if_pos h1]
      by_cases h2 : keep = true
      · rw [if_pos h2]
        have := ih (o ++ [1]) (by simp; omega)
        rw [List.append_assoc, List.singleton_append] at this
        refine Ev.step (fun k => ?_) this
        rw [shape_Drop.l0, if_pos (by omega), if_pos (by omega), if_pos (by omega), if_pos (by omega), hb, if_pos h1, if_pos h2, if_pos (by omega), nx i _ hi (by omega)]
      · rw [if_neg h2]
        refine Ev.step (fun k => ?_) (ih o (by omega))
        rw [shape_Drop.l0, if_pos (by omega), if_pos (by omega), if_pos (by omega), if_pos (by omega), hb, if_pos h1, if_neg h2, nx i _ hi (by omega)]
    · rw [if_neg h1]
      have := ih (o ++ [rd d (i : Int)]) (by simp; omega)
      rw [List.append_assoc, List.singleton_append] at this
      refine Ev.step (fun k => ?_) this
      rw [shape_Drop.l0, if_pos (by omega), if_pos (by omega), if_pos (by omega), if_pos (by omega), hb, if_neg h1, if_pos (by omega), nx i _ hi (by omega)]
theorem drop (d l : List Int) (keep : Bool) (hn : l.length ≤ 1000000000) : Ev (fun k => shape_Drop.f k d l keep) (Gr.drop d l keep) := by
  unfold Gr.drop
  by_cases h : Gr.chk d = 0
  · rw [if_pos h]
    refine Ev.congr (f := fun k => (shape_Axes.f k (d.length : Int) l).bind fun bt149 => if bt149.2 = 0 then shape_Drop.l0 k keep bt149.1 ([] : List Int) d (d.length : Int) 0 else some (([] : List Int), bt149.2)) (fun k => by rw [shape_Drop.f, shape_check, Option.bind_some, if_pos h]) ?_
    refine Ev.bind (axes d.length l hn) ?_
    by_cases h2 : (Gr.axs d.length l).2 = 0
    · simp only [if_pos h2]
      have := drop_l keep (Gr.axs d.length l).1 d (axs_length d l h2) (Gr.chk_ok h).1 0 (by omega) [] (by simp)
      rw [List.drop_zero, List.drop_zero, List.nil_append] at this
      exact this
    · simp only [if_neg h2]
      exact Ev.now _
  · rw [if_neg h]
    refine Ev.congr (fun k => ?_) (Ev.now _)
    rw [shape_Drop.f, shape_check, Option.bind_some, if_neg h]
theorem rdl (l : List (List Int)) (i : Nat) (h : i < l.length) : rd_L1 l (i : Int) = l[i] := by
  simp [rd_L1, List.getD_eq_getElem?_getD, List.getElem?_eq_getElem h]
theorem at_set (d x : List Int) (m : Int) (i : Nat) (hi : i < d.length) (hl : x.length = d.length) (hx : x.drop (i + 1) = Gr.dig (d.drop (i + 1)) m) :
    (x.set i (m / Gr.prod (d.drop (i + 1)) % rd d (i : Int))).drop i = Gr.dig (d.drop i) m := by
  rw [List.drop_eq_getElem_cons (by simp; omega), dropc d i hi]
  simp only [List.getElem_set_self, Gr.dig, List.cons.injEq, true_and]
  rw [List.drop_set_of_lt (by omega)]
  exact hx
theorem at_l (d : List Int) (hok : Gr.chk d = 0) (m : Int) (hm : 0 ≤ m) (hm2 : m ≤ 64) : ∀ i, i ≤ d.length → ∀ x : List Int, x.length = d.length → x.drop i = Gr.dig (d.drop i) m →
    Ev (fun k => walk_At.l0 k d (m / Gr.prod (d.drop i)) x ((i : Int) - 1)) (Gr.dig d m, true) := by
  obtain ⟨h6, h1, h2⟩ := Gr.chk_ok hok
  intro i
  induction i with
  | zero =>
    intro hi x hl hx
    simp at hx
    subst hx
    refine Ev.step (fun k => ?_) (Ev.now _)
    rw [walk_At.l0, if_neg (by omega)]
  | succ i ih =>
    intro hi x hl hx
    have hlt : i < d.length := by omega
    have hd : d.drop i = d[i] :: d.drop (i + 1) := List.drop_eq_getElem_cons hlt
    have hge : 1 ≤ d[i] := h1 _ (List.getElem_mem hlt)
    have hle : d[i] ≤ 64 := Gr.ok_le hok _ (List.getElem_mem hlt)
    have q3 := Gr.prod_pos (d.drop (i + 1)) (fun y hy => h1 y (List.mem_of_mem_drop hy))
    have hp : Gr.prod (d.drop i) = Gr.prod (d.drop (i + 1)) * d[i] := by rw [hd]; simp only [Gr.prod]; rw [Int.mul_comm]
    have h0 : 0 ≤ m / Gr.prod (d.drop (i + 1)) := Int.ediv_nonneg hm (by omega)
    have h64 : m / Gr.prod (d.drop (i + 1)) ≤ m := Int.ediv_le_self _ hm
    have e1 : Int.tdiv (m / Gr.prod (d.drop (i + 1))) d[i] = m / Gr.prod (d.drop i) := by
      rw [Int.tdiv_eq_ediv_of_nonneg h0, hp, Int.ediv_ediv, if_neg (by omega), Int.sub_zero]
    have e2 : Int.tmod (m / Gr.prod (d.drop (i + 1))) d[i] = m / Gr.prod (d.drop (i + 1)) % d[i] := Int.tmod_eq_emod_of_nonneg h0
    have b0 : 0 ≤ m / Gr.prod (d.drop i) := Int.ediv_nonneg hm (by have := Gr.prod_pos (d.drop i) (fun y hy => h1 y (List.mem_of_mem_drop hy)); omega)
    have b1 : m / Gr.prod (d.drop i) ≤ m := Int.ediv_le_self _ hm
    refine Ev.step (fun k => ?_) (ih (by omega) (x.set i (m / Gr.prod (d.drop (i + 1)) % rd d (i : Int))) (by simp [hl]) (at_set d x m i hlt hl hx))
    rw [walk_At.l0, show (((i + 1 : Nat) : Int) - 1) = (i : Int) by omega, if_pos (by omega), if_pos (by omega), if_pos (by omega), rdg d i hlt, if_neg (by omega), if_pos (by omega), e1, e2, w64 (by omega) (by omega), w64 (by omega) (by omega), Int.toNat_natCast]
theorem walk_at (d : List Int) (n : Int) : Ev (fun k => walk_At.f k d n) (Gr.att d n) := by
  unfold Gr.att
  by_cases h0 : n < 0
  · rw [if_neg (by omega)]
    refine Ev.congr (f := fun k => walk_At.j0 k d n true) (fun k => by rw [walk_At.f, if_pos h0]) ?_
    refine Ev.step (fun k => ?_) (Ev.now _)
    rw [walk_At.j0, if_pos rfl]
  · refine Ev.congr (f := fun k => (shape_Count.f k d).bind fun t => walk_At.j0 k d n (decide (n ≥ t))) (fun k => by rw [walk_At.f, if_neg h0]) ?_
    refine Ev.bind (count d) ?_
    by_cases h1 : n < Gr.cnt d
    · rw [if_pos ⟨by omega, h1⟩]
      have hok : Gr.chk d = 0 := by
        apply Decidable.byContradiction
        intro hc; unfold Gr.cnt at h1; rw [if_neg hc] at h1; omega
      obtain ⟨c1, c2, c3⟩ := Gr.cnt_ok hok
      have h6 := (Gr.chk_ok hok).1
      have := at_l d hok n (by omega) (by omega) d.length (by omega) (List.replicate d.length 0) (by simp) (by simp [Gr.dig])
      rw [List.drop_length] at this
      simp only [Gr.prod, Int.ediv_one] at this
      refine Ev.step (fun k => ?_) this
      rw [walk_At.j0, if_neg (by simp; omega), if_pos (by omega), if_pos (by simp; omega), w64 (by omega) (by omega), Int.toNat_natCast]
    · rw [if_neg (by omega)]
      refine Ev.step (fun k => ?_) (Ev.now _)
      rw [walk_At.j0, if_pos (by simp; omega)]
theorem in_l (d r : List Int) (hl : r.length = d.length) (hn : d.length ≤ 6) : ∀ i, i ≤ r.length →
    Ev (fun k => walk_in.l0 k d r (r.length : Int) (i : Int)) (Gr.inb (d.drop i) (r.drop i)) := by
  apply down
  · rw [List.drop_length, hl, List.drop_length]
    refine Ev.step (fun k => ?_) (Ev.now _)
    rw [walk_in.l0, if_neg (by omega)]; rfl
  · intro i hi ih
    rw [dropc d i (by omega), dropc r i hi]
    simp only [Gr.inb]
    by_cases h1 : rd r (i : Int) < 0
    · rw [show decide (0 ≤ rd r (i : Int)) = false by simp; omega, Bool.false_and, Bool.false_and]
      refine Ev.step (fun k => ?_) (Ev.now _)
      rw [walk_in.l0, if_pos (by omega), if_pos (by omega), if_pos (by omega), if_pos h1]
    · rw [show decide (0 ≤ rd r (i : Int)) = true by simp; omega, Bool.true_and]
      by_cases h2 : rd d (i : Int) ≤ rd r (i : Int)
      · rw [show decide (rd r (i : Int) < rd d (i : Int)) = false by simp; omega, Bool.false_and]
        refine Ev.step (fun k => ?_) (Ev.now _)
        rw [walk_in.l0, if_pos (by omega), if_pos (by omega), if_pos (by omega), if_neg h1, if_pos (by omega), if_pos h2]
      · rw [show decide (rd r (i : Int) < rd d (i : Int)) = true by simp; omega, Bool.true_and]
        refine Ev.step (fun k => ?_) ih
        rw [walk_in.l0, if_pos (by omega), if_pos (by omega), if_pos (by omega), if_neg h1, if_pos (by omega), if_neg h2, nx i _ hi (by omega)]
theorem walk_ind (d r : List Int) : Ev (fun k => walk_in.f k d r) (Gr.ind d r) := by
  unfold Gr.ind
  refine Ev.congr (fun k => by rw [walk_in.f, shape_check, Option.bind_some]) ?_
  by_cases h : Gr.chk d = 0
  · have h6 := (Gr.chk_ok h).1
    simp only [if_pos h]
    rw [decide_eq_true h, Bool.true_and]
    by_cases hl : r.length = d.length
    · refine Ev.step (fun k => ?_) (in_l d r hl h6 0 (by omega))
      rw [walk_in.j0, if_neg (by simp; omega)]; rfl
    · rw [show Gr.inb d r = false by
        apply Decidable.byContradiction
        intro hc; exact hl (Gr.inb_length (by simpa using hc))]
      refine Ev.step (fun k => ?_) (Ev.now _)
      rw [walk_in.j0, if_pos (by simp; omega)]
  · simp only [if_neg h]
    rw [decide_eq_false h, Bool.false_and]
    refine Ev.step (fun k => ?_) (Ev.now _)
    rw [walk_in.j0, if_pos rfl]
theorem place_l (d r : List Int) (hok : Gr.chk d = 0) (hi2 : Gr.inb d r = true) : ∀ i, i ≤ r.length → ∀ n : Int, 0 ≤ n → n * Gr.prod (d.drop i) + Gr.num (d.drop i) (r.drop i) ≤ 64 → Gr.inb (d.drop i) (r.drop i) = true →
    Ev (fun k => walk_Place.l0 k d n r (r.length : Int) (i : Int)) (n * Gr.prod (d.drop i) + Gr.num (d.drop i) (r.drop i), true) := by
  obtain ⟨h6, h1, h2⟩ := Gr.chk_ok hok
  have hl := Gr.inb_length hi2
  apply down
  · intro n hn hb _
    rw [hl, List.drop_length, ← hl, List.drop_length]
    simp only [Gr.prod, Gr.num, Int.mul_one, Int.add_zero]
    refine Ev.step (fun k => ?_) (Ev.now _)
    rw [walk_Place.l0, if_neg (by omega)]
  · intro i hi ih n hn hb hin
    have hq := Gr.num_lt (d.drop (i + 1)) (r.drop (i + 1)) (fun x hx => h1 x (List.mem_of_mem_drop hx))
    have hp := Gr.prod_pos (d.drop (i + 1)) (fun x hx => h1 x (List.mem_of_mem_drop hx))
    have hx1 : 1 ≤ rd d (i : Int) := by rw [rdg d i (by omega)]; exact h1 _ (List.getElem_mem _)
    rw [dropc d i (by omega), dropc r i hi] at hin hb ⊢
    simp only [Gr.inb, Bool.and_eq_true, decide_eq_true_eq] at hin
    obtain ⟨q1, q2⟩ := hq hin.2
    simp only [Gr.prod, Gr.num] at hb ⊢
    have e : n * (rd d (i : Int) * Gr.prod (d.drop (i + 1))) + (rd r (i : Int) * Gr.prod (d.drop (i + 1)) + Gr.num (d.drop (i + 1)) (r.drop (i + 1))) = (n * rd d (i : Int) + rd r (i : Int)) * Gr.prod (d.drop (i + 1)) + Gr.num (d.drop (i + 1)) (r.drop (i + 1)) := by
      rw [Int.add_mul, ← Int.mul_assoc]; omega
    rw [e] at hb ⊢
    have b1 : 0 ≤ n * rd d (i : Int) := Int.mul_nonneg hn (by omega)
    have b2 : (n * rd d (i : Int) + rd r (i : Int)) * 1 ≤ (n * rd d (i : Int) + rd r (i : Int)) * Gr.prod (d.drop (i + 1)) := Int.mul_le_mul_of_nonneg_left hp (by omega)
    refine Ev.step (fun k => ?_) (ih _ (by omega) hb hin.2)
    rw [walk_Place.l0, if_pos (by omega), if_pos (by omega), if_pos (by omega), if_pos (by omega), show wrap64 (n * rd d (i : Int)) = n * rd d (i : Int) from w64 (by omega) (by omega), w64 (by omega) (by omega), nx i _ hi (by omega)]
theorem walk_place (d r : List Int) : Ev (fun k => walk_Place.f k d r) (Gr.plc d r) := by
  unfold Gr.plc
  refine Ev.congr (fun k => by rw [walk_Place.f]) (Ev.bind (walk_ind d r) ?_)
  by_cases h : Gr.ind d r = true
  · simp only [if_pos h]
    unfold Gr.ind at h
    simp only [Bool.and_eq_true, decide_eq_true_eq] at h
    obtain ⟨h6, h1, h2⟩ := Gr.chk_ok h.1
    have hb := (Gr.num_lt d r h1 h.2)
    have := place_l d r h.1 h.2 0 (by omega) 0 (by omega) (by simp; omega) (by simpa using h.2)
    rw [List.drop_zero, List.drop_zero, Int.zero_mul, Int.zero_add] at this
    exact this
  · simp only [if_neg h]
    exact Ev.now _
theorem mx_gr (a b : Int) : mx a b = Gr.mx a b := rfl
theorem size_at (l : List Int) (n : Nat) (hl : l.length ≤ n) (hn : n ≤ 6) (i : Nat) (hi : i < n) : spread_size.f l (((n - i : Nat)) : Int) = some ((Gr.pad n l)[i]'(by rw [Gr.pad_length n l hl]; exact hi)) := by
  rw [spread_size.f, Gr.pad_at n l hl i hi]
  by_cases h : n - l.length ≤ i
  · rw [dif_pos h, if_neg (by omega), w64 (by omega) (by omega), if_pos (by omega), if_pos (by omega), show ((l.length : Int) - ((n - i : Nat) : Int)) = ((i - (n - l.length) : Nat) : Int) by omega, rdg l _ (by omega)]
  · rw [dif_neg h, if_pos (by omega)]
theorem mxs_drop (p q : List Int) (i : Nat) (hp : i < p.length) (hq : i < q.length) : (Gr.mxs p q).drop i = Gr.mx p[i] q[i] :: (Gr.mxs p q).drop (i + 1) := by
  induction i generalizing p q with
  | zero =>
    cases p with
    | nil => simp at hp
    | cons x p =>
      cases q with
      | nil => simp at hq
      | cons y q => rfl
  | succ i ih =>
    cases p with
    | nil => simp at hp
    | cons x p =>
      cases q with
      | nil => simp at hq
      | cons y q =>
        have := ih p q (by simpa using hp) (by simpa using hq)
        simpa [Gr.mxs] using this
theorem fitz_at (p q : List Int) (i : Nat) (hp : i < p.length) (hq : i < q.length) (h : Gr.fitz p q = true) : p[i] = q[i] ∨ p[i] = 1 ∨ q[i] = 1 := by
  have := Gr.fitz_drop p q i h
  rw [List.drop_eq_getElem_cons hp, List.drop_eq_getElem_cons hq] at this
  simp only [Gr.fitz, Bool.and_eq_true, Bool.or_eq_true, beq_iff_eq] at this
  rcases this.1 with (h | h) | h
  · exact .inl h
  · exact .inr (.inl h)
  · exact .inr (.inr h)
theorem fitz_drop_of (p q : List Int) (i : Nat) (hp : i < p.length) (hq : i < q.length) (h1 : p[i] = q[i] ∨ p[i] = 1 ∨ q[i] = 1) (h : Gr.fitz (p.drop (i + 1)) (q.drop (i + 1)) = true) : Gr.fitz (p.drop i) (q.drop i) = true := by
  rw [List.drop_eq_getElem_cons hp, List.drop_eq_getElem_cons hq]
  simp only [Gr.fitz, Bool.and_eq_true, Bool.or_eq_true, beq_iff_eq]
  refine ⟨?_, h⟩
  rcases h1 with h | h | h
  · exact .inl (.inl h)
  · exact .inl (.inr h)
  · exact .inr h
theorem two_l1 (a b : List Int) (n : Nat) (ha : a.length ≤ n) (hb : b.length ≤ n) (hn : n ≤ 6) : ∀ i, i ≤ n → ∀ x : List Int, x.length = n → x.drop i = (Gr.mxs (Gr.pad n a) (Gr.pad n b)).drop i →
    Gr.fitz ((Gr.pad n a).drop i) ((Gr.pad n b).drop i) = true →
    Ev (fun k => spread_Two.l1 k a b (n : Int) x (((n - i : Nat) : Int) + 1)) (Gr.tw (Gr.pad n a) (Gr.pad n b)) := by
  have la := Gr.pad_length n a ha
  have lb := Gr.pad_length n b hb
  intro i
  induction i with
  | zero =>
    intro hi x hl hx hf
    simp only [List.drop_zero] at hx hf
    subst hx
    unfold Gr.tw
    rw [if_pos hf]
    by_cases hc : Gr.chk (Gr.mxs (Gr.pad n a) (Gr.pad n b)) = 0
    · rw [if_pos hc]
      refine Ev.step (fun k => ?_) (Ev.now _)
      rw [spread_Two.l1, if_neg (by omega), shape_check, Option.bind_some, if_pos hc]
    · rw [if_neg hc]
      refine Ev.step (fun k => ?_) (Ev.now _)
      rw [spread_Two.l1, if_neg (by omega), shape_check, Option.bind_some, if_neg hc]
  | succ i ih =>
    intro hi x hl hx hf
    have hlt : i < n := by omega
    have sa := size_at a n ha hn i hlt
    have sb := size_at b n hb hn i hlt
    have ei : (((n - (i + 1) : Nat) : Int) + 1) = ((n - i : Nat) : Int) := by omega
    have ei2 : (n : Int) - ((n - i : Nat) : Int) = (i : Int) := by omega
    rw [ei]
    by_cases hfit : (Gr.pad n a)[i] = (Gr.pad n b)[i] ∨ (Gr.pad n a)[i] = 1 ∨ (Gr.pad n b)[i] = 1
    · have hnew := ih (by omega) (x.set i (Gr.mx (Gr.pad n a)[i] (Gr.pad n b)[i])) (by simp [hl]) (by
        rw [List.drop_eq_getElem_cons (by simp; omega), mxs_drop _ _ i (by omega) (by omega)]
        simp only [List.getElem_set_self, List.cons.injEq, true_and]
        rw [List.drop_set_of_lt (by omega)]
        exact hx) (fitz_drop_of _ _ i (by omega) (by omega) hfit hf)
      refine Ev.step (fun k => ?_) hnew
      rw [spread_Two.l1, if_pos (by omega), sa, Option.bind_some, sb, Option.bind_some, ei2, w64 (x := (i : Int)) (by omega) (by omega), w64 (by omega) (by omega)]
      simp only [if_pos (show (0 : Int) ≤ (i : Int) by omega), if_pos (show (i : Int) < (x.length : Int) by omega), Int.toNat_natCast, mx_gr]
      by_cases e1 : (Gr.pad n a)[i] = (Gr.pad n b)[i]
      · rw [if_pos e1]
      · rw [if_neg e1]
        by_cases e2 : (Gr.pad n a)[i] = 1
        · rw [if_pos e2]
        · rw [if_neg e2, if_pos (by rcases hfit with h | h | h <;> first | exact absurd h e1 | exact absurd h e2 | exact h)]
    · unfold Gr.tw
      rw [if_neg (fun h => hfit (fitz_at _ _ i (by omega) (by omega) h))]
      refine Ev.step (fun k => ?_) (Ev.now _)
      rw [spread_Two.l1, if_pos (by omega), sa, Option.bind_some, sb, Option.bind_some, if_neg (fun h => hfit (.inl h)), if_neg (fun h => hfit (.inr (.inl h))), if_neg (fun h => hfit (.inr (.inr h)))]
theorem two (a b : List Int) : Ev (fun k => spread_Two.f k a b) (Gr.two a b) := by
  unfold Gr.two
  refine Ev.congr (f := fun k => spread_Two.l0 k a b [a, b] 2 0) (fun k => by rw [spread_Two.f, Option.bind_some]; rfl) ?_
  have r0 : rd_L1 [a, b] 0 = a := rfl
  have r1 : rd_L1 [a, b] 1 = b := rfl
  by_cases ha : Gr.chk a = 0
  · rw [if_pos ha]
    have h6 := (Gr.chk_ok ha).1
    refine Ev.step (f := fun k => spread_Two.l0 k a b [a, b] 2 1) (fun k => by rw [spread_Two.l0, if_pos (by omega), if_pos (by omega), if_pos (by simp), r0, shape_check, Option.bind_some, if_pos ha, w64 (by omega) (by omega)]; rfl) ?_
    by_cases hb : Gr.chk b = 0
    · rw [if_pos hb]
      have k6 := (Gr.chk_ok hb).1
      refine Ev.step (f := fun k => spread_Two.l0 k a b [a, b] 2 2) (fun k => by rw [spread_Two.l0, if_pos (by omega), if_pos (by omega), if_pos (by simp), r1, shape_check, Option.bind_some, if_pos hb, w64 (by omega) (by omega)]; rfl) ?_
      have hm : mx (a.length : Int) (b.length : Int) = (Gr.rank2 a b : Int) := by unfold mx Gr.rank2; split <;> omega
      have := two_l1 a b (Gr.rank2 a b) (by unfold Gr.rank2; omega) (by unfold Gr.rank2; omega) (by unfold Gr.rank2; omega) (Gr.rank2 a b) (by omega) (List.replicate (Gr.rank2 a b) 0) (by simp) (by
        rw [List.drop_of_length_le (by simp), List.drop_of_length_le]
        rw [Gr.mxs_length, Gr.pad_length _ _ (by unfold Gr.rank2; omega)]; omega
        rw [Gr.pad_length _ _ (by unfold Gr.rank2; omega), Gr.pad_length _ _ (by unfold Gr.rank2; omega)]) (by
        rw [List.drop_of_length_le (by rw [Gr.pad_length _ _ (by unfold Gr.rank2; omega)]; omega)]; rfl)
      rw [show (((Gr.rank2 a b - Gr.rank2 a b : Nat) : Int) + 1) = 1 by omega] at this
      refine Ev.step (fun k => ?_) this
      rw [spread_Two.l0, if_neg (by omega), hm, if_pos (by omega), if_pos (by unfold Gr.rank2; omega), Int.toNat_natCast]
    · rw [if_neg hb]
      refine Ev.step (fun k => ?_) (Ev.now _)
      rw [spread_Two.l0, if_pos (by omega), if_pos (by omega), if_pos (by simp), r1, shape_check, Option.bind_some, if_neg hb]
  · rw [if_neg ha]
    refine Ev.step (fun k => ?_) (Ev.now _)
    rw [spread_Two.l0, if_pos (by omega), if_pos (by omega), if_pos (by simp), r0, shape_check, Option.bind_some, if_neg ha]
theorem ref_two_2 (p q : List Int) (hl : p.length = q.length) (hn : p.length ≤ 6) : ∀ i, i ≤ p.length → Gr.fitz (p.take i) (q.take i) = true →
    Ev (fun k => gradineref21_Two.l2 k p q ((Gr.mxs p q).take i) (p.length : Int) (i : Int)) (Gr.tw p q) := by
  have lm := Gr.mxs_length p q hl
  apply down
  · intro hf
    rw [List.take_length, hl, List.take_length] at hf
    rw [List.take_of_length_le (by omega)]
    refine Ev.step (fun k => by rw [gradineref21_Two.l2, if_neg (by omega)]) (Ev.bind (ref_check _) ?_)
    unfold Gr.tw
    rw [if_pos hf]
    by_cases hc : Gr.chk (Gr.mxs p q) = 0
    · rw [if_pos hc, if_pos hc]; exact Ev.now _
    · rw [if_neg hc, if_neg hc]; exact Ev.now _
  · intro i hi ih hf
    have hq : i < q.length := by omega
    have hd := mxs_drop p q i hi hq
    have hmi : (Gr.mxs p q)[i]'(by omega) = Gr.mx p[i] q[i] := by
      rw [List.drop_eq_getElem_cons (by omega)] at hd
      simp only [List.cons.injEq] at hd
      exact hd.1
    have e : (Gr.mxs p q).take (i + 1) = (Gr.mxs p q).take i ++ [Gr.mx p[i] q[i]] := by
      rw [List.take_succ_eq_append_getElem (by omega), hmi]
    have hlen : ((Gr.mxs p q).take i).length < 17592186044416 := by rw [List.length_take]; omega
    by_cases hfit : p[i] = q[i] ∨ p[i] = 1 ∨ q[i] = 1
    · have hf2 : Gr.fitz (p.take (i + 1)) (q.take (i + 1)) = true := by
        rw [List.take_succ_eq_append_getElem hi, List.take_succ_eq_append_getElem hq]
        have : ∀ (u v : List Int), u.length = v.length → Gr.fitz u v = true → Gr.fitz (u ++ [p[i]]) (v ++ [q[i]]) = true := by
          intro u
          induction u with
          | nil =>
            intro v hv _
            have : v = [] := List.eq_nil_of_length_eq_zero (by simpa using hv.symm)
            subst this
            simp only [List.nil_append, Gr.fitz, Bool.and_true, Bool.or_eq_true, beq_iff_eq]
            rcases hfit with h | h | h
            · exact .inl (.inl h)
            · exact .inl (.inr h)
            · exact .inr h
          | cons y u ihu =>
            intro v hv h
            cases v with
            | nil => simp at hv
            | cons z v =>
              simp only [Gr.fitz, Bool.and_eq_true] at h
              simp only [List.cons_append, Gr.fitz, Bool.and_eq_true]
              exact ⟨h.1, ihu v (by simpa using hv) h.2⟩
        exact this _ _ (by rw [List.length_take, List.length_take]; omega) hf
      have hnew := ih hf2
      rw [e] at hnew
      refine Ev.step (fun k => ?_) hnew
      rw [gradineref21_Two.l2, if_pos (by omega), if_pos (by omega), if_pos (by omega), if_pos (by omega), rdg p i hi, rdg q i hq, nx i _ hi (by omega)]
      simp only [if_pos hlen, mx_gr]
      by_cases e1 : p[i] = q[i]
      · rw [if_pos e1]
      · rw [if_neg e1]
        by_cases e2 : p[i] = 1
        · rw [if_pos e2]
        · rw [if_neg e2, if_pos (by rcases hfit with h | h | h <;> first | exact absurd h e1 | exact absurd h e2 | exact h)]
    · unfold Gr.tw
      rw [if_neg (fun h => hfit (fitz_at _ _ i hi hq h))]
      refine Ev.step (fun k => ?_) (Ev.now _)
      rw [gradineref21_Two.l2, if_pos (by omega), if_pos (by omega), if_pos (by omega), if_pos (by omega), rdg p i hi, rdg q i hq, if_neg (fun h => hfit (.inl h)), if_neg (fun h => hfit (.inr (.inl h))), if_neg (fun h => hfit (.inr (.inr h)))]
theorem pad_one (n : Nat) (l : List Int) (h : l.length < n) : Gr.pad n (1 :: l) = Gr.pad n l := by
  unfold Gr.pad
  rw [show n - l.length = (n - (1 :: l).length) + 1 by simp; omega, List.replicate_succ', List.append_assoc]
  rfl
theorem ref_two_1 (p : List Int) (hp : p.length ≤ 6) : ∀ (d : Nat) (q : List Int), q.length + d = p.length →
    Ev (fun k => gradineref21_Two.l1 k p q) (Gr.tw p (Gr.pad p.length q)) := by
  intro d
  induction d with
  | zero =>
    intro q hq
    rw [show p.length = q.length by omega, Gr.pad_self]
    refine Ev.step (fun k => ?_) (ref_two_2 p q (by omega) hp 0 (by omega) (by simp [Gr.fitz]))
    rw [gradineref21_Two.l1, if_neg (by omega)]; rfl
  | succ d ih =>
    intro q hq
    have := ih (1 :: q) (by simp; omega)
    rw [pad_one _ _ (by omega)] at this
    refine Ev.step (fun k => ?_) this
    rw [gradineref21_Two.l1, if_pos (by omega), Option.bind_some, if_pos (by simp; omega)]; rfl
theorem ref_two_0 (q : List Int) (hq6 : q.length ≤ 6) : ∀ (d : Nat) (p : List Int), p.length + d = q.length →
    Ev (fun k => gradineref21_Two.l0 k p q) (Gr.tw (Gr.pad q.length p) q) := by
  intro d
  induction d with
  | zero =>
    intro p hp
    rw [show q.length = p.length by omega, Gr.pad_self]
    have := ref_two_1 p (by omega) 0 q (by omega)
    rw [show p.length = q.length by omega, Gr.pad_self] at this
    refine Ev.step (fun k => ?_) this
    rw [gradineref21_Two.l0, if_neg (by omega)]
  | succ d ih =>
    intro p hp
    have := ih (1 :: p) (by simp; omega)
    rw [pad_one _ _ (by omega)] at this
    refine Ev.step (fun k => ?_) this
    rw [gradineref21_Two.l0, if_pos (by omega), Option.bind_some, if_pos (by simp; omega)]; rfl
theorem ref_two (a b : List Int) : Ev (fun k => gradineref21_Two.f k a b) (Gr.two a b) := by
  unfold Gr.two
  refine Ev.congr (fun k => by rw [gradineref21_Two.f]) (Ev.bind (ref_check a) (Ev.bind (ref_check b) ?_))
  by_cases ha : Gr.chk a = 0
  · rw [if_pos ha]
    simp only [if_pos ha]
    by_cases hb : Gr.chk b = 0
    · rw [if_pos hb]
      simp only [if_pos hb]
      have h6 := (Gr.chk_ok ha).1
      have k6 := (Gr.chk_ok hb).1
      by_cases hl : a.length ≤ b.length
      · rw [show Gr.rank2 a b = b.length by unfold Gr.rank2; omega, Gr.pad_self]
        exact ref_two_0 b k6 (b.length - a.length) a (by omega)
      · rw [show Gr.rank2 a b = a.length by unfold Gr.rank2; omega, Gr.pad_self]
        refine Ev.step (fun k => ?_) (ref_two_1 a h6 (a.length - b.length) b (by omega))
        rw [gradineref21_Two.l0, if_neg (by omega)]
    · rw [if_neg hb]
      simp only [if_neg hb]
      exact Ev.now _
  · rw [if_neg ha]
    simp only [if_neg ha]
    exact Ev.now _
theorem equal_l (a b : List Int) (hl : a.length = b.length) (hn : a.length ≤ 1000000000) : ∀ i, i ≤ a.length →
    Ev (fun k => slices_Equal_int_int.l0 k a b (a.length : Int) (i : Int)) (decide (a.drop i = b.drop i)) := by
  apply down
  · refine Ev.step (f := fun _ => some true) (fun k => ?_) ?_
    · rw [slices_Equal_int_int.l0, if_neg (by omega)]
    · rw [List.drop_length, hl, List.drop_length]; exact Ev.now true
  · intro i hi ih
    rw [dropc a i hi, dropc b i (by omega)]
    by_cases e : rd a (i : Int) = rd b (i : Int)
    · rw [show decide (rd a (i : Int) :: a.drop (i + 1) = rd b (i : Int) :: b.drop (i + 1)) = decide (a.drop (i + 1) = b.drop (i + 1)) by simp [e]]
      refine Ev.step (fun k => ?_) ih
      rw [slices_Equal_int_int.l0, if_pos (by omega), if_pos (by omega), if_pos (by omega), if_pos (by omega), if_pos e, nx i _ hi hn]
    · rw [show decide (rd a (i : Int) :: a.drop (i + 1) = rd b (i : Int) :: b.drop (i + 1)) = false by simp [e]]
      refine Ev.step (fun k => ?_) (Ev.now false)
      rw [slices_Equal_int_int.l0, if_pos (by omega), if_pos (by omega), if_pos (by omega), if_pos (by omega), if_neg e]
theorem equal (a b : List Int) (hn : a.length ≤ 1000000000) : Ev (fun k => slices_Equal_int_int.f k a b) (decide (a = b)) := by
  by_cases hl : a.length = b.length
  · refine Ev.congr (fun k => ?_) (by have := equal_l a b hl hn 0 (by omega); simpa using this)
    rw [slices_Equal_int_int.f, if_pos (by omega)]
  · rw [show decide (a = b) = false from decide_eq_false (fun e => hl (by rw [e]))]
    refine Ev.congr (fun k => ?_) (Ev.now false)
    rw [slices_Equal_int_int.f, if_neg (by omega)]
theorem two_fst_le (a b : List Int) : (Gr.two a b).1.length ≤ 6 := by
  unfold Gr.two
  split
  · split
    · unfold Gr.tw
      split
      · split
        · rename_i h; exact (Gr.chk_ok h).1
        · simp
      · simp
    · simp
  · simp
theorem fits (a b : List Int) : Ev (fun k => spread_Fits.f k a b) (Gr.fts a b) := by
  refine Ev.congr (fun k => by rw [spread_Fits.f]) (Ev.bind (two a b) ?_)
  unfold Gr.fts
  by_cases h : (Gr.two a b).2 = 0
  · simp only [if_pos h]
    rw [decide_eq_true h, Bool.true_and]
    refine Ev.bind (f := fun k t => some t) ?_ (Ev.now _)
    refine Ev.congr (fun k => by rw [shape_Same.f]) (Ev.bind (f := fun k t => some t) (equal _ _ (by have := two_fst_le a b; omega)) (Ev.now _))
  · simp only [if_neg h]
    rw [decide_eq_false h, Bool.false_and]
    exact Ev.now _
theorem source_l (a : List Int) (hn : a.length ≤ 6) (v : Int × Bool) : ∀ i, i ≤ a.length → ∀ q : List Int, q.length = a.length →
    (∀ k, q.take i = (Gr.sat a k).take i → q.drop i = k.drop i → k.length = a.length → Ev (fun n => walk_Place.f n a (Gr.sat a k)) v →
    Ev (fun n => spread_Source.l0 n a q a (a.length : Int) (i : Int)) v) := by
  have sl : ∀ (a k : List Int), k.length = a.length → (Gr.sat a k).length = a.length := by
    intro a
    induction a with
    | nil => intro k hk; cases k <;> simp [Gr.sat]
    | cons x a ih =>
      intro k hk
      cases k with
      | nil => simp at hk
      | cons y k => simp [Gr.sat, ih k (by simpa using hk)]
  have sg : ∀ (a k : List Int) (hk : k.length = a.length) (i : Nat) (hi : i < a.length), (Gr.sat a k)[i]'(by rw [sl a k hk]; exact hi) = if a[i] = 1 then 0 else k[i]'(by omega) := by
    intro a
    induction a with
    | nil => intro k hk i hi; simp at hi
    | cons x a ih =>
      intro k hk i hi
      cases k with
      | nil => simp at hk
      | cons y k =>
        cases i with
        | zero => simp [Gr.sat]
        | succ i => simpa [Gr.sat] using ih k (by simpa using hk) i (by simpa using hi)
  apply down
  · intro q hq k h1 h2 hk hp
    have : q = Gr.sat a k := by
      rw [List.take_of_length_le (by omega), List.take_of_length_le (by rw [sl a k hk]; omega)] at h1
      exact h1
    subst this
    refine Ev.step (fun n => by rw [spread_Source.l0, if_neg (by omega)]) (Ev.bind hp ?_)
    exact Ev.now _
  · intro i hi ih q hq k h1 h2 hk hp
    have hsg := sg a k hk i hi
    have e : (Gr.sat a k).take (i + 1) = (Gr.sat a k).take i ++ [if a[i] = 1 then 0 else k[i]'(by omega)] := by
      rw [List.take_succ_eq_append_getElem (by rw [sl a k hk]; exact hi), hsg]
    have h3 : q.drop (i + 1) = k.drop (i + 1) := by
      have := congrArg (List.drop 1) h2
      rw [List.drop_drop, List.drop_drop] at this
      exact this
    by_cases h : a[i] = 1
    · rw [if_pos h] at e
      refine Ev.step (fun n => ?_) (ih (q.set i 0) (by simp [hq]) k ?_ ?_ hk hp)
      · rw [spread_Source.l0, if_pos (by omega), if_pos (by omega), if_pos (by omega), rdg a i hi, if_pos h, if_pos (by omega), Int.toNat_natCast, nx i _ hi (by omega)]
      · rw [e, ← h1, List.take_succ_eq_append_getElem (by simp; omega), List.getElem_set_self, List.take_set_of_le (by omega)]
      · rw [List.drop_set_of_lt (by omega)]; exact h3
    · rw [if_neg h] at e
      refine Ev.step (fun n => ?_) (ih q hq k ?_ h3 hk hp)
      · rw [spread_Source.l0, if_pos (by omega), if_pos (by omega), if_pos (by omega), rdg a i hi, if_neg h, nx i _ hi (by omega)]
      · rw [e, ← h1, List.take_succ_eq_append_getElem (by omega)]
        have h4 : q[i]'(by omega) = k[i]'(by omega) := by
          have hq2 : i < q.length := by omega
          have hk2 : i < k.length := by omega
          rw [List.drop_eq_getElem_cons hq2, List.drop_eq_getElem_cons hk2] at h2
          simp only [List.cons.injEq] at h2
          exact h2.1
        rw [h4]
theorem source (a b : List Int) (n : Int) : Ev (fun k => spread_Source.f k a b n) (if Gr.fts a b = true ∧ 0 ≤ n ∧ n < Gr.cnt b then (Gr.src a b n, true) else (0, false)) := by
  refine Ev.congr (fun k => by rw [spread_Source.f]) (Ev.bind (walk_at b n) ?_)
  unfold Gr.att
  by_cases h1 : 0 ≤ n ∧ n < Gr.cnt b
  · rw [if_pos h1]
    simp only [if_true]
    refine Ev.bind (fits a b) ?_
    by_cases h2 : Gr.fts a b = true
    · rw [if_pos ⟨h2, h1⟩, h2]
      obtain ⟨ca, cb, hle, hsub⟩ := (Gr.fts_iff a b).1 h2
      have a6 := (Gr.chk_ok ca).1
      have b6 := (Gr.chk_ok cb).1
      have hin := Gr.src_in h2 n
      have hpl := walk_place a (Gr.sat a ((Gr.dig b n).drop (b.length - a.length)))
      unfold Gr.plc at hpl
      rw [if_pos (by unfold Gr.ind; rw [decide_eq_true ca, hin]; rfl)] at hpl
      have hlen : ((Gr.dig b n).drop (b.length - a.length)).length = a.length := by rw [List.length_drop, Gr.dig_length]; omega
      refine Ev.step (fun k => ?_) (source_l a a6 _ 0 (by omega) ((Gr.dig b n).drop (b.length - a.length)) hlen _ (by simp) rfl hlen hpl)
      rw [spread_Source.j0, if_neg (by simp), w64 (by omega) (by omega), if_pos (by omega), if_pos (by rw [Gr.dig_length]; omega), show ((b.length : Int) - (a.length : Int)).toNat = b.length - a.length by omega]; rfl
    · rw [if_neg (fun h => h2 h.1), show Gr.fts a b = false by simpa using h2]
      refine Ev.step (fun k => ?_) (Ev.now _)
      rw [spread_Source.j0, if_pos (by rfl)]
  · rw [if_neg h1, if_neg (fun h => h1 h.2)]
    simp only [Bool.false_eq_true, if_false]
    refine Ev.step (fun k => ?_) (Ev.now _)
    rw [spread_Source.j0, if_pos rfl]
theorem same21 : Ev (fun k => gradinelaw21_same.f k) true := by
  refine Ev.congr (fun k => by rw [gradinelaw21_same.f]) (Ev.bind (two [2, 1] [3]) (Ev.bind (source [3] [2, 3] 4) ?_))
  rw [show Gr.two [2, 1] [3] = ([2, 3], 0) by decide, show (if Gr.fts [3] [2, 3] = true ∧ (0 : Int) ≤ 4 ∧ 4 < Gr.cnt [2, 3] then (Gr.src [3] [2, 3] 4, true) else (0, false)) = (1, true) by decide]
  exact Ev.congr (fun k => by rfl) (Ev.now true)
end Go.Proofs.Ytpoldofghcmfnaa.S
namespace Go.Proofs.Ytpoldofghcmfnaa.Pure
open Go.RowKit Go.Proofs.Ytpoldofghcmfnaa.Q Go.Proofs.YtpoldofghcmfnaaW.PrintWords Go.Proofs.YtpoldofghcmfnaaW.PrintLast Go.Proofs.Ytpoldofghcmfnaa.S

/-- All, one behind the other. -/
def many : List Int → List (List Int) → List Int × Int
  | o, [] => (o, 0)
  | o, d :: l => if (Gr.two o d).2 = 0 then many (Gr.two o d).1 l else ([], (Gr.two o d).2)
theorem many_le (l : List (List Int)) : ∀ o : List Int, o.length ≤ 6 → (many o l).1.length ≤ 6 := by
  induction l with
  | nil => intro o h; exact h
  | cons d l ih =>
    intro o h
    unfold many
    split
    · exact ih _ (two_fst_le o d)
    · simp
theorem all_l (l : List (List Int)) (hn : l.length ≤ 20) : ∀ i, i ≤ l.length → ∀ o, Ev (fun k => spread_All.l0 k o l (l.length : Int) (i : Int)) (many o (l.drop i)) := by
  apply down
  · intro o
    rw [List.drop_length]
    refine Ev.step (fun k => ?_) (Ev.now _)
    rw [spread_All.l0, if_neg (by omega)]; rfl
  · intro i hi ih o
    rw [List.drop_eq_getElem_cons hi]
    refine Ev.step (fun k => by rw [spread_All.l0, if_pos (by omega), if_pos (by omega), if_pos (by omega), rdl l i hi]) (Ev.bind (two o l[i]) ?_)
    unfold many
    by_cases h : (Gr.two o l[i]).2 = 0
    · rw [if_pos h]
      simp only [if_pos h]
      refine Ev.congr (fun k => ?_) (ih _)
      rw [nx i _ hi (by omega)]
    · rw [if_neg h]
      simp only [if_neg h]
      exact Ev.now _
theorem ref_all_l (l : List (List Int)) (hn : l.length ≤ 20) : ∀ i, i ≤ l.length → ∀ o, Ev (fun k => gradineref21_All.l0 k l o (l.length : Int) (i : Int)) (many o (l.drop i)) := by
  apply down
  · intro o
    rw [List.drop_length]
    refine Ev.step (fun k => ?_) (Ev.now _)
    rw [gradineref21_All.l0, if_neg (by omega)]; rfl
  · intro i hi ih o
    rw [List.drop_eq_getElem_cons hi]
    refine Ev.step (fun k => by rw [gradineref21_All.l0, if_pos (by omega), if_pos (by omega), if_pos (by omega), rdl l i hi]) (Ev.bind (ref_two o l[i]) ?_)
    unfold many
    by_cases h : (Gr.two o l[i]).2 = 0
    · rw [if_pos h]
      simp only [if_pos h]
      refine Ev.congr (fun k => ?_) (ih _)
      rw [nx i _ hi (by omega)]
    · rw [if_neg h]
      simp only [if_neg h]
      exact Ev.now _
theorem SpreadMany (l : List (List Int)) : ∃ k, gradinelaw21_SpreadMany.f k l = some true := by
  refine Ev.rounds ?_
  have hs : Ev (fun k => (gradinelaw21_same.f k).bind fun t => some t) true := Ev.bind same21 (Ev.now _)
  by_cases h1 : (l.length : Int) > 20
  · exact Ev.congr (fun k => by rw [gradinelaw21_SpreadMany.f, if_pos h1]) hs
  · refine Ev.congr (f := fun k => gradinelaw21_SpreadMany.l0 k l (l.length : Int) ((0 : Nat) : Int)) (fun k => by rw [gradinelaw21_SpreadMany.f, if_neg h1]; rfl) ?_
    have loop : ∀ i, i ≤ l.length → Ev (fun k => gradinelaw21_SpreadMany.l0 k l (l.length : Int) (i : Int)) true := by
      apply down
      · refine Ev.step (fun k => by rw [gradinelaw21_SpreadMany.l0, if_neg (by omega)]) ?_
        refine Ev.bind (a := many [] l) (by have := all_l l (by omega) 0 (by omega) []; rw [List.drop_zero] at this; exact this) ?_
        refine Ev.bind (a := many [] l) (by have := ref_all_l l (by omega) 0 (by omega) []; rw [List.drop_zero] at this; exact this) ?_
        simp only [if_true]
        refine Ev.bind (ints_eq rfl (by have := many_le l [] (by simp); omega)) ?_
        simp only [if_true]
        exact hs
      · intro i hi ih
        by_cases hm : (l[i].length : Int) > 100
        · refine Ev.step (fun k => ?_) hs
          rw [gradinelaw21_SpreadMany.l0, if_pos (by omega), if_pos (by omega), if_pos (by omega), rdl l i hi, gradinelaw19_Many.f, if_pos hm, Option.bind_some, if_pos rfl]
        · refine Ev.step (fun k => ?_) ih
          rw [gradinelaw21_SpreadMany.l0, if_pos (by omega), if_pos (by omega), if_pos (by omega), rdl l i hi, gradinelaw19_Many.f, if_neg hm, Option.bind_some, if_neg (by simp), nx i _ hi (by omega)]
    exact loop 0 (by omega)
theorem SpreadMany_walk (w : World) (A : Option Addr) (c : Nat) (l : List (List Int)) (hr : Kd.C (Kd.slice 3 (Kd.int .i64)) w A l.length l) (hc : l.length ≤ c) (_ : ∀ x ∈ l, ∀ y ∈ x, (Lit.int .i64 y).wf = true) :
    Calls Try.prog 12 #[.slice A l.length c] w fun e w' => e = .returned (.bool true) ∧ Below w.heap.size w w' := by
  obtain ⟨k, h⟩ := SpreadMany l
  exact gradinelaw21_SpreadMany.calls k A c l w hr hc h

end Go.Proofs.Ytpoldofghcmfnaa.Pure
