/- Texts of the proof of TensorNil, part 4: what functions of the program compute, and that they compute it. -/
import Derived.Test.YtmhikecbajkonaaWordsMore
import Derived.Test.YtmhikecbajkonaaKTensorNil3
namespace Gr
/-- How many elements dims have; 0, if they may not be. -/
def cnt (d : List Int) : Int := if chk d = 0 then prod d else 0
/-- Products of what stands behind. -/
def stp : List Int → List Int
  | [] => []
  | _ :: l => prod l :: stp l
def steps (d : List Int) : List Int := if chk d = 0 then stp d else []
theorem chk_ok {d : List Int} (h : chk d = 0) : d.length ≤ 6 ∧ (∀ x ∈ d, 1 ≤ x) ∧ prod d ≤ 64 := by
  unfold chk at h
  split at h
  · omega
  · rename_i h6
    split at h
    · omega
    · rename_i h1
      split at h
      · omega
      · rename_i h2
        refine ⟨by omega, fun x hx => ?_, by omega⟩
        rw [Bool.not_eq_true, List.any_eq_false] at h1
        have := h1 x hx
        simp at this
        omega
theorem ok_chk {d : List Int} (h6 : d.length ≤ 6) (h1 : ∀ x ∈ d, 1 ≤ x) (h2 : prod d ≤ 64) : chk d = 0 := by
  unfold chk
  rw [if_neg (by omega), if_neg, if_neg (by omega)]
  rw [Bool.not_eq_true, List.any_eq_false]
  intro x hx
  have := h1 x hx
  simp
  omega
theorem ok_le {d : List Int} (h : chk d = 0) : ∀ x ∈ d, x ≤ 64 := by
  obtain ⟨_, h1, h2⟩ := chk_ok h
  intro x hx
  obtain ⟨a, b, rfl⟩ := List.append_of_mem hx
  rw [prod_append] at h2
  simp only [prod] at h2
  have ha := prod_pos a (fun y hy => h1 y (by simp [hy]))
  have hb := prod_pos b (fun y hy => h1 y (by simp [hy]))
  have hx1 := h1 x (by simp)
  have h3 : 1 * (x * prod b) ≤ prod a * (x * prod b) := Int.mul_le_mul_of_nonneg_right ha (Int.mul_nonneg (by omega) (by omega))
  have h4 : x * 1 ≤ x * prod b := Int.mul_le_mul_of_nonneg_left hb (by omega)
  omega
theorem ok_drop {d : List Int} (h : chk d = 0) (i : Nat) : chk (d.drop i) = 0 := by
  obtain ⟨h6, h1, h2⟩ := chk_ok h
  refine ok_chk (by simp; omega) (fun x hx => h1 x (List.mem_of_mem_drop hx)) ?_
  have e : prod d = prod (d.take i) * prod (d.drop i) := by rw [← prod_append, List.take_append_drop]
  have ha := prod_pos (d.take i) (fun y hy => h1 y (List.mem_of_mem_take hy))
  have hb := prod_pos (d.drop i) (fun y hy => h1 y (List.mem_of_mem_drop hy))
  have h3 : 1 * prod (d.drop i) ≤ prod (d.take i) * prod (d.drop i) := Int.mul_le_mul_of_nonneg_right ha (by omega)
  omega
theorem ok_take {d : List Int} (h : chk d = 0) (i : Nat) : chk (d.take i) = 0 := by
  obtain ⟨h6, h1, h2⟩ := chk_ok h
  have := prod_take_le d h1 i
  exact ok_chk (by simp; omega) (fun x hx => h1 x (List.mem_of_mem_take hx)) (by omega)
theorem cnt_ok {d : List Int} (h : chk d = 0) : cnt d = prod d ∧ 1 ≤ cnt d ∧ cnt d ≤ 64 := by
  obtain ⟨h6, h1, h2⟩ := chk_ok h
  have := prod_pos d h1
  unfold cnt
  rw [if_pos h]
  exact ⟨rfl, this, h2⟩
theorem stp_length (d : List Int) : (stp d).length = d.length := by
  induction d with
  | nil => rfl
  | cons x d ih => simp [stp, ih]
/-- The place of the n-th element. -/
def dig : List Int → Int → List Int
  | [], _ => []
  | x :: l, n => n / prod l % x :: dig l n
/-- The number of a place. -/
def num : List Int → List Int → Int
  | _ :: d, a :: r => a * prod d + num d r
  | _, _ => 0
/-- Is it a place of these dims? -/
def inb : List Int → List Int → Bool
  | [], [] => true
  | x :: d, a :: r => decide (0 ≤ a) && decide (a < x) && inb d r
  | _, _ => false
def att (d : List Int) (n : Int) : List Int × Bool := if 0 ≤ n ∧ n < cnt d then (dig d n, true) else ([], false)
def alls (d : List Int) : List (List Int) := if chk d = 0 then (List.range (prod d).toNat).map fun n : Nat => dig d (n : Int) else []
theorem dig_length (d : List Int) (n : Int) : (dig d n).length = d.length := by
  induction d with
  | nil => rfl
  | cons x d ih => simp [dig, ih]
theorem num_dig (d : List Int) (h : ∀ x ∈ d, 1 ≤ x) (n : Int) : num d (dig d n) = n % prod d := by
  induction d with
  | nil => simp [num, prod, Int.emod_one]
  | cons x d ih =>
    have hx := h x (by simp)
    have hp := prod_pos d (fun y hy => h y (by simp [hy]))
    simp only [num, dig, prod]
    rw [ih (fun y hy => h y (by simp [hy]))]
    have e1 : x * prod d = prod d * x := Int.mul_comm ..
    have h1 := Int.emod_add_mul_ediv n (prod d)
    have h2 := Int.emod_add_mul_ediv (n / prod d) x
    have h3 : n = (n / prod d % x * prod d + n % prod d) + (x * prod d) * (n / prod d / x) := by
      have : prod d * (n / prod d) = prod d * (n / prod d % x) + prod d * (x * (n / prod d / x)) := by rw [← Int.mul_add, h2]
      rw [show (x * prod d) * (n / prod d / x) = prod d * (x * (n / prod d / x)) by rw [e1, Int.mul_assoc], Int.mul_comm (n / prod d % x)]
      omega
    have b1 := Int.emod_nonneg (n / prod d) (show x ≠ 0 by omega)
    have b2 := Int.emod_lt_of_pos (n / prod d) (show 0 < x by omega)
    have b3 := Int.emod_nonneg n (show prod d ≠ 0 by omega)
    have b4 := Int.emod_lt_of_pos n (show 0 < prod d by omega)
    have b5 : 0 ≤ n / prod d % x * prod d := Int.mul_nonneg b1 (by omega)
    have b6 : (n / prod d % x + 1) * prod d ≤ x * prod d := Int.mul_le_mul_of_nonneg_right (by omega) (by omega)
    rw [Int.add_mul] at b6
    have h4 := Int.add_mul_emod_self_left (n / prod d % x * prod d + n % prod d) (x * prod d) (n / prod d / x)
    rw [← h3] at h4
    rw [h4]
    exact (Int.emod_eq_of_lt (by omega) (by omega)).symm
theorem num_dig_lt (d : List Int) (h : ∀ x ∈ d, 1 ≤ x) (n : Int) (h0 : 0 ≤ n) (h1 : n < prod d) : num d (dig d n) = n := by
  rw [num_dig d h n, Int.emod_eq_of_lt h0 h1]
theorem inb_dig (d : List Int) (h : ∀ x ∈ d, 1 ≤ x) (n : Int) : inb d (dig d n) = true := by
  induction d with
  | nil => rfl
  | cons x d ih =>
    have hx := h x (by simp)
    simp only [inb, dig]
    rw [ih (fun y hy => h y (by simp [hy]))]
    have b1 := Int.emod_nonneg (n / prod d) (show x ≠ 0 by omega)
    have b2 := Int.emod_lt_of_pos (n / prod d) (show 0 < x by omega)
    simp [b1, b2]
theorem inb_length {d r : List Int} (h : inb d r = true) : r.length = d.length := by
  induction d generalizing r with
  | nil => cases r <;> simp_all [inb]
  | cons x d ih =>
    cases r with
    | nil => simp [inb] at h
    | cons a r =>
      simp only [inb, Bool.and_eq_true] at h
      simp [ih h.2]
theorem num_lt (d r : List Int) (h : ∀ x ∈ d, 1 ≤ x) (hi : inb d r = true) : 0 ≤ num d r ∧ num d r < prod d := by
  induction d generalizing r with
  | nil => cases r <;> simp [num, prod]
  | cons x d ih =>
    cases r with
    | nil => simp [inb] at hi
    | cons a r =>
      simp only [inb, Bool.and_eq_true, decide_eq_true_eq] at hi
      obtain ⟨i1, i2⟩ := ih r (fun y hy => h y (by simp [hy])) hi.2
      have hp := prod_pos d (fun y hy => h y (by simp [hy]))
      simp only [num, prod]
      have b5 : 0 ≤ a * prod d := Int.mul_nonneg hi.1.1 (by omega)
      have b6 : (a + 1) * prod d ≤ x * prod d := Int.mul_le_mul_of_nonneg_right (by omega) (by omega)
      rw [Int.add_mul] at b6
      omega
theorem dig_add (d : List Int) (h : ∀ x ∈ d, 1 ≤ x) (a m : Int) : dig d (a * prod d + m) = dig d m := by
  induction d generalizing a with
  | nil => rfl
  | cons y d ih =>
    have hy := h y (by simp)
    have hp := prod_pos d (fun z hz => h z (by simp [hz]))
    simp only [dig, prod]
    rw [show a * (y * prod d) = (a * y) * prod d by rw [Int.mul_assoc]]
    rw [ih (fun z hz => h z (by simp [hz])) (a * y)]
    rw [Int.add_comm ((a * y) * prod d) m, Int.add_mul_ediv_right _ _ (by omega), Int.mul_comm a y, Int.add_mul_emod_self_left]
theorem dig_num (d r : List Int) (h : ∀ x ∈ d, 1 ≤ x) (hi : inb d r = true) : dig d (num d r) = r := by
  induction d generalizing r with
  | nil => cases r <;> simp_all [inb, dig]
  | cons x d ih =>
    cases r with
    | nil => simp [inb] at hi
    | cons a r =>
      simp only [inb, Bool.and_eq_true, decide_eq_true_eq] at hi
      have hd : ∀ y ∈ d, 1 ≤ y := fun y hy => h y (by simp [hy])
      obtain ⟨i1, i2⟩ := num_lt d r hd hi.2
      have hp := prod_pos d hd
      simp only [num, dig]
      rw [dig_add d hd, ih r hd hi.2]
      rw [Int.add_comm, Int.add_mul_ediv_right _ _ (by omega), Int.ediv_eq_zero_of_lt i1 i2, Int.zero_add, Int.emod_eq_of_lt hi.1.1 hi.1.2]
theorem dig_snoc (p : List Int) (x : Int) (h : ∀ y ∈ p, 1 ≤ y) (hx : 1 ≤ x) (m : Int) : dig (p ++ [x]) m = dig p (m / x) ++ [m % x] := by
  induction p with
  | nil => simp [dig, prod]
  | cons y p ih =>
    simp only [List.cons_append, dig]
    rw [ih (fun z hz => h z (by simp [hz])), prod_append]
    simp only [prod, Int.mul_one]
    rw [Int.mul_comm (prod p) x, Int.ediv_ediv, if_neg (by omega), Int.sub_zero]
theorem range_mul {α : Type} (f : Nat → α) (P X : Nat) : (List.range (P * X)).map f = (List.range P).flatMap fun n => (List.range X).map fun v => f (n * X + v) := by
  induction P with
  | zero => simp
  | succ P ih =>
    rw [List.range_succ, List.flatMap_append, ← ih, Nat.succ_mul, List.range_add, List.map_append, List.map_map]
    simp only [List.flatMap_cons, List.flatMap_nil, List.append_nil]
    rfl
/-- All places of a prefix. -/
def pre (p : List Int) : List (List Int) := (List.range (prod p).toNat).map fun n : Nat => dig p (n : Int)
theorem pre_nil : pre [] = [[]] := by decide
theorem pre_snoc (p : List Int) (x : Int) (h : ∀ y ∈ p, 1 ≤ y) (hx : 1 ≤ x) : pre (p ++ [x]) = (pre p).flatMap fun q => (List.range x.toNat).map fun v : Nat => q ++ [(v : Int)] := by
  have hp := prod_pos p h
  unfold pre
  rw [prod_append]
  simp only [prod, Int.mul_one]
  rw [Int.toNat_mul (by omega) (by omega), range_mul, List.flatMap_map]
  congr 1
  funext n
  apply List.map_congr_left
  intro v hv
  rw [List.mem_range] at hv
  rw [dig_snoc p x h hx]
  have e : ((n * x.toNat + v : Nat) : Int) = (v : Int) + (n : Int) * x := by
    rw [Int.natCast_add, Int.natCast_mul, Int.toNat_of_nonneg (by omega)]; omega
  rw [e, Int.add_mul_ediv_right _ _ (by omega), Int.ediv_eq_zero_of_lt (by omega) (by omega), Int.zero_add, Int.add_mul_emod_self_right, Int.emod_eq_of_lt (by omega) (by omega)]
theorem pre_length (p : List Int) : (pre p).length = (prod p).toNat := by simp [pre]
theorem alls_ok {d : List Int} (h : chk d = 0) : alls d = pre d := by unfold alls; rw [if_pos h]; rfl
theorem alls_length (d : List Int) : ((alls d).length : Int) = cnt d := by
  unfold alls cnt
  split
  · rename_i h
    have := prod_pos d (chk_ok h).2.1
    simp; omega
  · rfl
theorem alls_get (d : List Int) (n : Nat) (h : n < (alls d).length) : (alls d)[n] = dig d (n : Int) := by
  unfold alls at h ⊢
  split
  · simp
  · rename_i hc; rw [if_neg hc] at h; simp at h
theorem inb_dropn (d r : List Int) (h : inb d r = true) (i : Nat) : inb (d.drop i) (r.drop i) = true := by
  induction i generalizing d r with
  | zero => simpa using h
  | succ i ih =>
    cases d with
    | nil => cases r <;> simp_all [inb]
    | cons x d =>
      cases r with
      | nil => simp [inb] at h
      | cons a r =>
        simp only [inb, Bool.and_eq_true] at h
        simpa using ih d r h.2
/-- How far a place lies from a view's first element. -/
def ofs : List Int → List Int → Int
  | a :: p, t :: s => a * t + ofs p s
  | _, _ => 0
/-- Are the steps such as may be in a room? -/
def sok (room : Int) : List Int → List Int → Bool
  | x :: d, t :: s => (decide (x ≤ 1) || (decide (-room < t) && decide (t < room))) && sok room d s
  | _, _ => true
def low : List Int → List Int → Int
  | x :: d, t :: s => (if (x - 1) * t < 0 then (x - 1) * t else 0) + low d s
  | _, _ => 0
def hgh : List Int → List Int → Int
  | x :: d, t :: s => (if (x - 1) * t < 0 then 0 else (x - 1) * t) + hgh d s
  | _, _ => 0
/-- All but the range of the cells. -/
abbrev vok (o : Int) (d s : List Int) (room : Int) : Prop := chk d = 0 ∧ s.length = d.length ∧ room ≤ 64 ∧ 0 ≤ o ∧ o < room ∧ sok room d s = true
def rgt (o : Int) (d s : List Int) (room : Int) : Bool := decide (vok o d s room) && decide (0 ≤ o + low d s) && decide (o + hgh d s < room)
def cls (o : Int) (d s : List Int) (room : Int) : List Int := if rgt o d s room = true then (alls d).map fun p => o + ofs p s else []
/-- The n-th element's cell. -/
def vat (o : Int) (d s : List Int) (n : Int) : Int × Bool := if rgt o d s 64 = true ∧ 0 ≤ n ∧ n < cnt d then (o + ofs (dig d n) s, true) else (0, false)
def rws : List Int → List Int → Bool
  | x :: d, t :: s => rws d s && (decide (x ≤ 1) || decide (t = prod d))
  | _, _ => true
theorem mem_alls {d : List Int} (h : chk d = 0) {p : List Int} : p ∈ alls d ↔ inb d p = true := by
  obtain ⟨h6, h1, h2⟩ := chk_ok h
  rw [alls_ok h]
  unfold pre
  rw [List.mem_map]
  constructor
  · rintro ⟨n, _, rfl⟩; exact inb_dig d h1 _
  · intro hi
    obtain ⟨q1, q2⟩ := num_lt d p h1 hi
    refine ⟨(num d p).toNat, ?_, ?_⟩
    · rw [List.mem_range]; omega
    · rw [Int.toNat_of_nonneg q1]; exact dig_num d p h1 hi
theorem mul_between {a x t : Int} (h0 : 0 ≤ a) (h1 : a ≤ x - 1) : (if (x - 1) * t < 0 then (x - 1) * t else 0) ≤ a * t ∧ a * t ≤ (if (x - 1) * t < 0 then 0 else (x - 1) * t) := by
  rcases Int.lt_or_le t 0 with ht | ht
  · have e1 : (x - 1) * t ≤ a * t := Int.mul_le_mul_of_nonpos_right h1 (by omega)
    have e2 : a * t ≤ 0 := Int.mul_nonpos_of_nonneg_of_nonpos h0 (by omega)
    split <;> omega
  · have e1 : a * t ≤ (x - 1) * t := Int.mul_le_mul_of_nonneg_right h1 ht
    have e2 : 0 ≤ a * t := Int.mul_nonneg h0 ht
    split <;> omega
theorem ofs_between (d s p : List Int) (hi : inb d p = true) : low d s ≤ ofs p s ∧ ofs p s ≤ hgh d s := by
  induction d generalizing s p with
  | nil => cases p <;> simp_all [inb, ofs, low, hgh]
  | cons x d ih =>
    cases p with
    | nil => simp [inb] at hi
    | cons a p =>
      simp only [inb, Bool.and_eq_true, decide_eq_true_eq] at hi
      cases s with
      | nil => simp [ofs, low, hgh]
      | cons t s =>
        obtain ⟨i1, i2⟩ := ih s p hi.2
        obtain ⟨j1, j2⟩ := mul_between (t := t) hi.1.1 (show a ≤ x - 1 by omega)
        simp only [ofs, low, hgh]
        omega
/-- The place of the lowest cell, and that of the highest one. -/
def lop : List Int → List Int → List Int
  | x :: d, t :: s => (if (x - 1) * t < 0 then x - 1 else 0) :: lop d s
  | _ :: d, [] => 0 :: lop d []
  | [], _ => []
def hip : List Int → List Int → List Int
  | x :: d, t :: s => (if (x - 1) * t < 0 then 0 else x - 1) :: hip d s
  | _ :: d, [] => 0 :: hip d []
  | [], _ => []
theorem lop_ok (d s : List Int) (h : ∀ x ∈ d, 1 ≤ x) : inb d (lop d s) = true ∧ ofs (lop d s) s = low d s := by
  induction d generalizing s with
  | nil => simp [lop, inb, ofs, low]
  | cons x d ih =>
    have hx := h x (by simp)
    cases s with
    | nil =>
      obtain ⟨i1, _⟩ := ih [] (fun y hy => h y (by simp [hy]))
      refine ⟨?_, by simp [lop, ofs, low]⟩
      simp [lop, inb, i1]; omega
    | cons t s =>
      obtain ⟨i1, i2⟩ := ih s (fun y hy => h y (by simp [hy]))
      simp only [lop, inb, ofs, low, i1, i2, Bool.and_true, Bool.and_eq_true, decide_eq_true_eq]
      split
      · exact ⟨⟨by omega, by omega⟩, rfl⟩
      · exact ⟨⟨by omega, by omega⟩, by simp⟩
theorem hip_ok (d s : List Int) (h : ∀ x ∈ d, 1 ≤ x) : inb d (hip d s) = true ∧ ofs (hip d s) s = hgh d s := by
  induction d generalizing s with
  | nil => simp [hip, inb, ofs, hgh]
  | cons x d ih =>
    have hx := h x (by simp)
    cases s with
    | nil =>
      obtain ⟨i1, _⟩ := ih [] (fun y hy => h y (by simp [hy]))
      refine ⟨?_, by simp [hip, ofs, hgh]⟩
      simp [hip, inb, i1]; omega
    | cons t s =>
      obtain ⟨i1, i2⟩ := ih s (fun y hy => h y (by simp [hy]))
      simp only [hip, inb, ofs, hgh, i1, i2, Bool.and_true, Bool.and_eq_true, decide_eq_true_eq]
      split
      · exact ⟨⟨by omega, by omega⟩, by simp⟩
      · exact ⟨⟨by omega, by omega⟩, rfl⟩
/-- All cells lie in the room just where the lowest and the highest do. -/
theorem range_iff {d : List Int} (h : chk d = 0) (o room : Int) (s : List Int) : (∀ p ∈ alls d, 0 ≤ o + ofs p s ∧ o + ofs p s < room) ↔ 0 ≤ o + low d s ∧ o + hgh d s < room := by
  have h1 := (chk_ok h).2.1
  constructor
  · intro ha
    obtain ⟨l1, l2⟩ := lop_ok d s h1
    obtain ⟨u1, u2⟩ := hip_ok d s h1
    have a1 := ha _ ((mem_alls h).2 l1)
    have a2 := ha _ ((mem_alls h).2 u1)
    rw [l2] at a1; rw [u2] at a2
    exact ⟨a1.1, a2.2⟩
  · rintro ⟨hl, hh⟩ p hp
    obtain ⟨i1, i2⟩ := ofs_between d s p ((mem_alls h).1 hp)
    omega
theorem rgt_iff {o : Int} {d s : List Int} {room : Int} (hv : vok o d s room) : rgt o d s room = true ↔ ∀ p ∈ alls d, 0 ≤ o + ofs p s ∧ o + ofs p s < room := by
  rw [range_iff hv.1]
  unfold rgt
  simp [hv]
theorem rgt_ok {o : Int} {d s : List Int} {room : Int} (h : rgt o d s room = true) : vok o d s room ∧ 0 ≤ o + low d s ∧ o + hgh d s < room := by
  unfold rgt at h
  simpa [and_assoc] using h
theorem sok_mono {r r' : Int} (hr : r ≤ r') : ∀ d s : List Int, sok r d s = true → sok r' d s = true
  | x :: d, t :: s, h => by
    simp only [sok, Bool.and_eq_true, Bool.or_eq_true, decide_eq_true_eq] at h ⊢
    exact ⟨h.1.imp_right (fun h => ⟨by omega, by omega⟩), sok_mono hr d s h.2⟩
  | [], _, _ => by simp [sok]
  | _ :: _, [], _ => by simp [sok]
theorem sok_get {r : Int} {d s : List Int} (h : sok r d s = true) : ∀ i, (hd : i < d.length) → (hs : i < s.length) → d[i] ≤ 1 ∨ (-r < s[i] ∧ s[i] < r) := by
  induction d generalizing s with
  | nil => intro i hd; simp at hd
  | cons x d ih =>
    cases s with
    | nil => intro i _ hs; simp at hs
    | cons t s =>
      simp only [sok, Bool.and_eq_true, Bool.or_eq_true, decide_eq_true_eq] at h
      intro i hd hs
      cases i with
      | zero => exact h.1
      | succ i => exact ih h.2 i (by simpa using hd) (by simpa using hs)
theorem cls_ok {o : Int} {d s : List Int} {room : Int} (h : rgt o d s room = true) : cls o d s room = (alls d).map fun p => o + ofs p s := by unfold cls; rw [if_pos h]
theorem cls_none {o : Int} {d s : List Int} {room : Int} (h : ¬ rgt o d s room = true) : cls o d s room = [] := by unfold cls; rw [if_neg h]
theorem cls_length (o : Int) (d s : List Int) (room : Int) : ((cls o d s room).length : Int) = if rgt o d s room = true then cnt d else 0 := by
  unfold cls
  split
  · rw [List.length_map, alls_length]
  · rfl
theorem cls_pos (o : Int) (d s : List Int) (room : Int) : (0 < (cls o d s room).length) ↔ rgt o d s room = true := by
  have := cls_length o d s room
  constructor
  · intro h; apply Decidable.byContradiction; intro hc; rw [if_neg hc] at this; omega
  · intro h; rw [if_pos h] at this; have := (cnt_ok (rgt_ok h).1.1).2.1; omega
theorem cls_get {o : Int} {d s : List Int} {room : Int} (h : rgt o d s room = true) (n : Nat) (hn : n < (cls o d s room).length) : (cls o d s room)[n] = o + ofs (dig d (n : Int)) s := by
  have e := cls_ok h
  have hn' : n < (alls d).length := by rw [e, List.length_map] at hn; exact hn
  have : (cls o d s room)[n] = ((alls d).map fun p => o + ofs p s)[n]'(by rw [List.length_map]; exact hn') := by simp only [e]
  rw [this, List.getElem_map, alls_get d n hn']
theorem stp_low (d : List Int) (h : ∀ x ∈ d, 1 ≤ x) : low d (stp d) = 0 ∧ hgh d (stp d) = prod d - 1 ∧ rws d (stp d) = true := by
  induction d with
  | nil => simp [low, hgh, rws, prod]
  | cons x d ih =>
    obtain ⟨i1, i2, i3⟩ := ih (fun y hy => h y (by simp [hy]))
    have hx := h x (by simp)
    have hp := prod_pos d (fun y hy => h y (by simp [hy]))
    have h0 : 0 ≤ (x - 1) * prod d := Int.mul_nonneg (by omega) (by omega)
    simp only [stp, low, hgh, rws, prod, i1, i2, i3]
    rw [if_neg (by omega), if_neg (by omega)]
    refine ⟨rfl, ?_, by simp⟩
    rw [Int.sub_mul]; omega
theorem stp_sok (d : List Int) (h : ∀ x ∈ d, 1 ≤ x) (hp64 : prod d ≤ 64) : sok 64 d (stp d) = true := by
  induction d with
  | nil => rfl
  | cons x d ih =>
    have hx := h x (by simp)
    have hp := prod_pos d (fun y hy => h y (by simp [hy]))
    simp only [prod] at hp64
    have hle : 1 * prod d ≤ x * prod d := Int.mul_le_mul_of_nonneg_right hx (by omega)
    simp only [stp, sok, Bool.and_eq_true, Bool.or_eq_true, decide_eq_true_eq]
    refine ⟨?_, ih (fun y hy => h y (by simp [hy])) (by omega)⟩
    rcases Int.lt_or_le 1 x with hx2 | hx2
    · have hle2 : 2 * prod d ≤ x * prod d := Int.mul_le_mul_of_nonneg_right (by omega) (by omega)
      right; omega
    · left; exact hx2
theorem whole_rgt {d : List Int} (h : chk d = 0) : rgt 0 d (stp d) 64 = true := by
  obtain ⟨h6, h1, h2⟩ := chk_ok h
  obtain ⟨i1, i2, i3⟩ := stp_low d h1
  unfold rgt vok
  simp [h, stp_length, stp_sok d h1 h2, i1, i2]
  omega
theorem ofs_stp (d p : List Int) (hp : p.length = d.length) : ofs p (stp d) = num d p := by
  induction d generalizing p with
  | nil => cases p <;> simp_all [ofs, num]
  | cons x d ih =>
    cases p with
    | nil => simp at hp
    | cons a p => simp only [stp, ofs, num]; rw [ih p (by simpa using hp)]
/-- How often each of 64 cells is one of these. -/
def tal (l : List Int) : List Int := (List.range 64).map fun i : Nat => (l.count (i : Int) : Int)
theorem tal_length (l : List Int) : (tal l).length = 64 := by simp [tal]
theorem tal_at (l : List Int) (i : Nat) (h : i < 64) : (tal l)[i]'(by rw [tal_length]; exact h) = (l.count (i : Int) : Int) := by simp [tal]
end Gr
namespace Go.Proofs.Ytmhikecbajkonaa.S
open Go.RowKit Go.Proofs.Ytmhikecbajkonaa.Q Go.Proofs.YtmhikecbajkonaaW.PrintWords Go.Proofs.YtmhikecbajkonaaW.PrintLast Go.Proofs.YtmhikecbajkonaaW.PrintMore
set_option linter.unusedVariables false
set_option linter.unusedSimpArgs false
theorem w64 {x : Int} (h0 : -9223372036854775808 ≤ x) (h1 : x ≤ 9223372036854775807) : wrap64 x = x := by
  unfold wrap64; omega
theorem down (P : Nat → Prop) (n : Nat) (h0 : P n) (hs : ∀ i, i < n → P (i + 1) → P i) : ∀ i, i ≤ n → P i := by
  intro i hi
  obtain ⟨d, rfl⟩ : ∃ d, n = i + d := ⟨n - i, by omega⟩
  clear hi
  induction d generalizing i with
  | zero => exact h0
  | succ d ih =>
    apply hs i (by omega)
    exact ih (i + 1) (by rw [show i + 1 + d = i + (d + 1) by omega]; exact h0) (fun j hj hp => hs j (by omega) hp)
theorem rdg (l : List Int) (i : Nat) (h : i < l.length) : rd l (i : Int) = l[i] := by
  simp [rd, List.getD_eq_getElem?_getD, List.getElem?_eq_getElem h]
theorem dropc (l : List Int) (i : Nat) (h : i < l.length) : l.drop i = rd l (i : Int) :: l.drop (i + 1) := by
  rw [rdg l i h]; exact (List.drop_eq_getElem_cons h)
theorem nx (i n : Nat) (h : i < n) (hn : n ≤ 1000000000) : wrap64 ((i : Int) + 1) = ((i + 1 : Nat) : Int) := by
  rw [w64 (by omega) (by omega)]; omega
theorem ints_l (a b : List Int) (hl : a.length = b.length) (hn : a.length ≤ 1000000000) : ∀ i, i ≤ a.length →
    Ev (fun k => gradineplain_Ints.l0 k a b (a.length : Int) (i : Int)) (decide (a.drop i = b.drop i)) := by
  apply down
  · refine Ev.step (f := fun _ => some true) (fun k => ?_) ?_
    · rw [gradineplain_Ints.l0, if_neg (by omega)]
    · rw [List.drop_length, hl, List.drop_length]; exact Ev.now true
  · intro i hi ih
    rw [dropc a i hi, dropc b i (by omega)]
    by_cases e : rd a (i : Int) = rd b (i : Int)
    · rw [show decide (rd a (i : Int) :: a.drop (i + 1) = rd b (i : Int) :: b.drop (i + 1)) = decide (a.drop (i + 1) = b.drop (i + 1)) by simp [e]]
      refine Ev.step (fun k => ?_) ih
      rw [gradineplain_Ints.l0, if_pos (by omega), if_pos (by omega), if_pos (by omega), if_pos (by omega), if_pos e, nx i _ hi hn]
    · rw [show decide (rd a (i : Int) :: a.drop (i + 1) = rd b (i : Int) :: b.drop (i + 1)) = false by simp [e]]
      refine Ev.step (fun k => ?_) (Ev.now false)
      rw [gradineplain_Ints.l0, if_pos (by omega), if_pos (by omega), if_pos (by omega), if_pos (by omega), if_neg e]
theorem ints (a b : List Int) (hn : a.length ≤ 1000000000) : Ev (fun k => gradineplain_Ints.f k a b) (decide (a = b)) := by
  by_cases hl : a.length = b.length
  · refine Ev.congr (fun k => ?_) (by have := ints_l a b hl hn 0 (by omega); simpa using this)
    rw [gradineplain_Ints.f, if_pos (by omega)]
  · rw [show decide (a = b) = false from decide_eq_false (fun e => hl (by rw [e]))]
    refine Ev.congr (fun k => ?_) (Ev.now false)
    rw [gradineplain_Ints.f, if_neg (by omega)]
theorem ints_eq {a b : List Int} (h : a = b) (hn : a.length ≤ 1000000000) : Ev (fun k => gradineplain_Ints.f k a b) true := by
  have := ints a b hn
  rwa [show decide (a = b) = true by simp [h]] at this
theorem shape_check (d : List Int) : shape_Check.f d = some (Gr.chk d) := rfl
theorem check_1 (d : List Int) (hok : ∀ x ∈ d, 1 ≤ x) (hn : d.length ≤ 6) : ∀ i, i ≤ d.length → Gr.prod (d.take i) ≤ 64 →
    Ev (fun k => gradineref19_Check.l1 k d (Gr.prod (d.take i)) (d.length : Int) (i : Int)) (if 64 < Gr.prod d then 12 else 0) := by
  apply down
  · intro h
    rw [List.take_length] at h ⊢
    rw [if_neg (by omega)]
    refine Ev.step (fun k => ?_) (Ev.now 0)
    rw [gradineref19_Check.l1, if_neg (by omega)]
  · intro i hi ih h
    have hp := Gr.prod_pos (d.take i) (fun x hx => hok x (List.mem_of_mem_take hx))
    have hs := Gr.prod_take_succ d i hi
    have h1 : 1 ≤ d[i] := hok _ (List.getElem_mem hi)
    have hle := Gr.prod_take_le d hok (i + 1)
    have hge : d[i] ≤ Gr.prod (d.take i) * d[i] := by
      have : 1 * d[i] ≤ Gr.prod (d.take i) * d[i] := Int.mul_le_mul_of_nonneg_right hp (by omega)
      omega
    by_cases e : 64 < d[i]
    · rw [if_pos (by omega)]
      refine Ev.step (fun k => ?_) (Ev.now 12)
      rw [gradineref19_Check.l1, if_pos (by omega), if_pos (by omega), if_pos (by omega), rdg d i hi, if_pos (by omega)]
    · have hb : Gr.prod (d.take i) * d[i] ≤ 64 * 64 := Int.mul_le_mul h (by omega) (by omega) (by omega)
      by_cases e2 : 64 < Gr.prod (d.take i) * d[i]
      · rw [if_pos (by omega)]
        refine Ev.step (fun k => ?_) (Ev.now 12)
        rw [gradineref19_Check.l1, if_pos (by omega), if_pos (by omega), if_pos (by omega), rdg d i hi, if_neg (by omega), w64 (by omega) (by omega), if_pos (by omega)]
      · refine Ev.step (fun k => ?_) (ih (by omega))
        rw [gradineref19_Check.l1, if_pos (by omega), if_pos (by omega), if_pos (by omega), rdg d i hi, if_neg (by omega), w64 (by omega) (by omega), if_neg (by omega), nx i _ hi (by omega), ← hs]
theorem check_0 (d : List Int) (hn : d.length ≤ 6) : ∀ i, i ≤ d.length → (∀ x ∈ d.take i, 1 ≤ x) →
    Ev (fun k => gradineref19_Check.l0 k d (d.length : Int) (i : Int)) (Gr.chk d) := by
  apply down
  · intro h
    rw [List.take_length] at h
    have e : Gr.chk d = if 64 < Gr.prod d then 12 else 0 := by
      unfold Gr.chk
      rw [if_neg (by omega), if_neg]
      rw [Bool.not_eq_true, List.any_eq_false]
      intro x hx
      have := h x hx
      simp; omega
    rw [e]
    refine Ev.step (fun k => ?_) (check_1 d h hn 0 (by omega) (by simp [Gr.prod]))
    rw [gradineref19_Check.l0, if_neg (by omega)]; simp [Gr.prod]
  · intro i hi ih h
    by_cases e : d[i] < 1
    · have e8 : Gr.chk d = 8 := by
        unfold Gr.chk
        rw [if_neg (by omega), if_pos]
        rw [List.any_eq_true]
        exact ⟨d[i], List.getElem_mem hi, by simpa using e⟩
      rw [e8]
      refine Ev.step (fun k => ?_) (Ev.now 8)
      rw [gradineref19_Check.l0, if_pos (by omega), if_pos (by omega), if_pos (by omega), rdg d i hi, if_pos (by omega)]
    · refine Ev.step (fun k => ?_) (ih ?_)
      · rw [gradineref19_Check.l0, if_pos (by omega), if_pos (by omega), if_pos (by omega), rdg d i hi, if_neg (by omega), nx i _ hi (by omega)]
      · intro x hx
        rw [List.take_succ_eq_append_getElem hi, List.mem_append] at hx
        rcases hx with hx | hx
        · exact h x hx
        · simp at hx; omega
theorem ref_check (d : List Int) : Ev (fun k => gradineref19_Check.f k d) (Gr.chk d) := by
  by_cases h : 6 < d.length
  · have e : Gr.chk d = 9 := by unfold Gr.chk; rw [if_pos h]
    rw [e]
    refine Ev.congr (fun k => ?_) (Ev.now 9)
    rw [gradineref19_Check.f, if_pos (by omega)]
  · refine Ev.congr (fun k => ?_) (check_0 d (by omega) 0 (by omega) (by simp))
    rw [gradineref19_Check.f, if_neg (by omega)]; rfl
theorem prod_step {d : List Int} (hok : Gr.chk d = 0) (i : Nat) (hi : i < d.length) :
    1 ≤ Gr.prod (d.take i) ∧ Gr.prod (d.take i) * d[i] = Gr.prod (d.take (i + 1)) ∧ Gr.prod (d.take (i + 1)) ≤ 64 ∧ 1 ≤ Gr.prod (d.take (i + 1)) := by
  obtain ⟨h6, h1, h2⟩ := Gr.chk_ok hok
  have := Gr.prod_take_le d h1 (i + 1)
  exact ⟨Gr.prod_pos _ (fun x hx => h1 x (List.mem_of_mem_take hx)), (Gr.prod_take_succ d i hi).symm, by omega, Gr.prod_pos _ (fun x hx => h1 x (List.mem_of_mem_take hx))⟩
theorem count_l (d : List Int) (hok : Gr.chk d = 0) : ∀ i, i ≤ d.length →
    Ev (fun k => shape_Count.l0 k (Gr.prod (d.take i)) d (d.length : Int) (i : Int)) (Gr.prod d) := by
  obtain ⟨h6, h1, h2⟩ := Gr.chk_ok hok
  apply down
  · rw [List.take_length]
    refine Ev.step (fun k => ?_) (Ev.now _)
    rw [shape_Count.l0, if_neg (by omega)]
  · intro i hi ih
    obtain ⟨p1, p2, p3, p4⟩ := prod_step hok i hi
    refine Ev.step (fun k => ?_) ih
    rw [shape_Count.l0, if_pos (by omega), if_pos (by omega), if_pos (by omega), rdg d i hi, w64 (by omega) (by omega), nx i _ hi (by omega), p2]
theorem shape_count (d : List Int) : Ev (fun k => shape_Count.f k d) (Gr.cnt d) := by
  unfold Gr.cnt
  by_cases h : Gr.chk d = 0
  · rw [if_pos h]
    refine Ev.congr (fun k => ?_) (count_l d h 0 (by omega))
    rw [shape_Count.f, shape_check, Option.bind_some, if_pos h]; simp [Gr.prod]
  · rw [if_neg h]
    refine Ev.congr (fun k => ?_) (Ev.now 0)
    rw [shape_Count.f, shape_check, Option.bind_some, if_neg h]
theorem steps_set (d x : List Int) (i : Nat) (hi : i < d.length) (hl : x.length = d.length) (hx : x.drop (i + 1) = Gr.stp (d.drop (i + 1))) :
    (x.set i (Gr.prod (d.drop (i + 1)))).drop i = Gr.stp (d.drop i) := by
  rw [List.drop_eq_getElem_cons (by simp; omega), List.drop_eq_getElem_cons hi]
  simp only [List.getElem_set_self, Gr.stp, List.cons.injEq, true_and]
  rw [List.drop_set_of_lt (by omega)]
  exact hx
theorem steps_l (d : List Int) (hok : Gr.chk d = 0) : ∀ i, i ≤ d.length → ∀ x : List Int, x.length = d.length → x.drop i = Gr.stp (d.drop i) →
    Ev (fun k => shape_Steps.l0 k d x (Gr.prod (d.drop i)) ((i : Int) - 1)) (Gr.stp d) := by
  obtain ⟨h6, h1, h2⟩ := Gr.chk_ok hok
  intro i
  induction i with
  | zero =>
    intro hi x hl hx
    simp at hx
    subst hx
    refine Ev.step (fun k => ?_) (Ev.now _)
    rw [shape_Steps.l0, if_neg (by omega)]
  | succ i ih =>
    intro hi x hl hx
    have hlt : i < d.length := by omega
    have hd : d.drop i = d[i] :: d.drop (i + 1) := List.drop_eq_getElem_cons hlt
    obtain ⟨q6, q1, q2⟩ := Gr.chk_ok (Gr.ok_drop hok i)
    have q3 := Gr.prod_pos _ q1
    have hp : Gr.prod (d.drop i) = Gr.prod (d.drop (i + 1)) * d[i] := by rw [hd]; simp only [Gr.prod]; rw [Int.mul_comm]
    refine Ev.step (fun k => ?_) (ih (by omega) (x.set i (Gr.prod (d.drop (i + 1)))) (by simp [hl]) (steps_set d x i hlt hl hx))
    rw [shape_Steps.l0, show (((i + 1 : Nat) : Int) - 1) = (i : Int) by omega, if_pos (by omega), if_pos (by omega), if_pos (by omega), if_pos (by omega), rdg d i hlt, ← hp, w64 (by omega) (by omega), w64 (by omega) (by omega), Int.toNat_natCast]
theorem shape_steps (d : List Int) : Ev (fun k => shape_Steps.f k d) (Gr.steps d) := by
  unfold Gr.steps
  by_cases h : Gr.chk d = 0
  · rw [if_pos h]
    obtain ⟨h6, h1, h2⟩ := Gr.chk_ok h
    refine Ev.congr (fun k => ?_) (steps_l d h d.length (by omega) (List.replicate d.length 0) (by simp) (by simp [Gr.stp]))
    rw [shape_Steps.f, shape_check, Option.bind_some, if_pos h, if_pos (by omega), if_pos (by simp; omega), w64 (by omega) (by omega)]
    simp [Gr.prod]
  · rw [if_neg h]
    refine Ev.congr (fun k => ?_) (Ev.now _)
    rw [shape_Steps.f, shape_check, Option.bind_some, if_neg h]
theorem has_l (l : List Int) (x : Int) (hn : l.length ≤ 1000000000) : ∀ i, i ≤ l.length →
    Ev (fun k => gradineref19_Has.l0 k l x (l.length : Int) (i : Int)) ((l.drop i).contains x) := by
  apply down
  · rw [List.drop_length]
    refine Ev.step (fun k => ?_) (Ev.now _)
    rw [gradineref19_Has.l0, if_neg (by omega)]; rfl
  · intro i hi ih
    rw [dropc l i hi, List.contains_cons]
    by_cases e : rd l (i : Int) = x
    · rw [show (x == rd l (i : Int)) = true by simp [e], Bool.true_or]
      refine Ev.step (fun k => ?_) (Ev.now true)
      rw [gradineref19_Has.l0, if_pos (by omega), if_pos (by omega), if_pos (by omega), if_pos e]
    · rw [show (x == rd l (i : Int)) = false by simp; exact fun h => e h.symm, Bool.false_or]
      refine Ev.step (fun k => ?_) ih
      rw [gradineref19_Has.l0, if_pos (by omega), if_pos (by omega), if_pos (by omega), if_neg e, nx i _ hi hn]
theorem has (l : List Int) (x : Int) (hn : l.length ≤ 1000000000) : Ev (fun k => gradineref19_Has.f k l x) (l.contains x) := by
  exact has_l l x hn 0 (by omega)
theorem ref_count_l (d : List Int) (hok : Gr.chk d = 0) : ∀ i, i ≤ d.length → Ev (fun k => gradineref19_Count.l0 k d (Gr.prod (d.take i)) (d.length : Int) (i : Int)) (Gr.prod d) := by
  obtain ⟨h6, h1, h2⟩ := Gr.chk_ok hok
  apply down
  · rw [List.take_length]
    refine Ev.step (fun k => ?_) (Ev.now _)
    rw [gradineref19_Count.l0, if_neg (by omega)]
  · intro i hi ih
    have hs := Gr.prod_take_succ d i hi
    have hle := Gr.prod_take_le d h1 (i + 1)
    have hp := Gr.prod_pos (d.take (i + 1)) (fun x hx => h1 x (List.mem_of_mem_take hx))
    rw [hs] at ih hle hp
    refine Ev.step (fun k => ?_) ih
    rw [gradineref19_Count.l0, if_pos (by omega), if_pos (by omega), if_pos (by omega), rdg d i hi, w64 (by omega) (by omega), nx i _ hi (by omega)]
theorem ref_count (d : List Int) : Ev (fun k => gradineref19_Count.f k d) (Gr.cnt d) := by
  refine Ev.congr (fun k => by rw [gradineref19_Count.f]) (Ev.bind (ref_check d) ?_)
  unfold Gr.cnt
  by_cases h : Gr.chk d = 0
  · simp only [if_pos h]
    have := ref_count_l d h 0 (by omega)
    exact this
  · simp only [if_neg h]; exact Ev.now _
theorem rdl (l : List (List Int)) (i : Nat) (h : i < l.length) : rd_L6 l (i : Int) = l[i] := by
  simp [rd_L6, List.getD_eq_getElem?_getD, List.getElem?_eq_getElem h]
theorem at_set (d x : List Int) (m : Int) (i : Nat) (hi : i < d.length) (hl : x.length = d.length) (hx : x.drop (i + 1) = Gr.dig (d.drop (i + 1)) m) :
    (x.set i (m / Gr.prod (d.drop (i + 1)) % rd d (i : Int))).drop i = Gr.dig (d.drop i) m := by
  rw [List.drop_eq_getElem_cons (by simp; omega), dropc d i hi]
  simp only [List.getElem_set_self, Gr.dig, List.cons.injEq, true_and]
  rw [List.drop_set_of_lt (by omega)]
  exact hx
theorem at_l (d : List Int) (hok : Gr.chk d = 0) (m : Int) (hm : 0 ≤ m) (hm2 : m ≤ 64) : ∀ i, i ≤ d.length → ∀ x : List Int, x.length = d.length → x.drop i = Gr.dig (d.drop i) m →
    Ev (fun k => walk_At.l0 k d (m / Gr.prod (d.drop i)) x ((i : Int) - 1)) (Gr.dig d m, true) := by
  obtain ⟨h6, h1, h2⟩ := Gr.chk_ok hok
  intro i
  induction i with
  | zero =>
    intro hi x hl hx
    simp at hx
    subst hx
    refine Ev.step (fun k => ?_) (Ev.now _)
    rw [walk_At.l0, if_neg (by omega)]
  | succ i ih =>
    intro hi x hl hx
    have hlt : i < d.length := by omega
    have hd : d.drop i = d[i] :: d.drop (i + 1) := List.drop_eq_getElem_cons hlt
    have hge : 1 ≤ d[i] := h1 _ (List.getElem_mem hlt)
    have hle : d[i] ≤ 64 := Gr.ok_le hok _ (List.getElem_mem hlt)
    have q3 := Gr.prod_pos (d.drop (i + 1)) (fun y hy => h1 y (List.mem_of_mem_drop hy))
    have hp : Gr.prod (d.drop i) = Gr.prod (d.drop (i + 1)) * d[i] := by rw [hd]; simp only [Gr.prod]; rw [Int.mul_comm]
    have h0 : 0 ≤ m / Gr.prod (d.drop (i + 1)) := Int.ediv_nonneg hm (by omega)
    have h64 : m / Gr.prod (d.drop (i + 1)) ≤ m := Int.ediv_le_self _ hm
    have e1 : Int.tdiv (m / Gr.prod (d.drop (i + 1))) d[i] = m / Gr.prod (d.drop i) := by
      rw [Int.tdiv_eq_ediv_of_nonneg h0, hp, Int.ediv_ediv, if_neg (by omega), Int.sub_zero]
    have e2 : Int.tmod (m / Gr.prod (d.drop (i + 1))) d[i] = m / Gr.prod (d.drop (i + 1)) % d[i] := Int.tmod_eq_emod_of_nonneg h0
    have b0 : 0 ≤ m / Gr.prod (d.drop i) := Int.ediv_nonneg hm (by have := Gr.prod_pos (d.drop i) (fun y hy => h1 y (List.mem_of_mem_drop hy)); omega)
    have b1 : m / Gr.prod (d.drop i) ≤ m := Int.ediv_le_self _ hm
    refine Ev.step (fun k => ?_) (ih (by omega) (x.set i (m / Gr.prod (d.drop (i + 1)) % rd d (i : Int))) (by simp [hl]) (at_set d x m i hlt hl hx))
    rw [walk_At.l0, show (((i + 1 : Nat) : Int) - 1) = (i : Int) by omega, if_pos (by omega), if_pos (by omega), if_pos (by omega), rdg d i hlt, if_neg (by omega), if_pos (by omega), e1, e2, w64 (by omega) (by omega), w64 (by omega) (by omega), Int.toNat_natCast]
theorem walk_at (d : List Int) (n : Int) : Ev (fun k => walk_At.f k d n) (Gr.att d n) := by
  unfold Gr.att
  by_cases h0 : n < 0
  · rw [if_neg (by omega)]
    refine Ev.congr (f := fun k => walk_At.j0 k d n true) (fun k => by rw [walk_At.f, if_pos h0]) ?_
    refine Ev.step (fun k => ?_) (Ev.now _)
    rw [walk_At.j0, if_pos rfl]
  · refine Ev.congr (f := fun k => (shape_Count.f k d).bind fun t => walk_At.j0 k d n (decide (n ≥ t))) (fun k => by rw [walk_At.f, if_neg h0]) ?_
    refine Ev.bind (shape_count d) ?_
    by_cases h1 : n < Gr.cnt d
    · rw [if_pos ⟨by omega, h1⟩]
      have hok : Gr.chk d = 0 := by
        apply Decidable.byContradiction
        intro hc; unfold Gr.cnt at h1; rw [if_neg hc] at h1; omega
      obtain ⟨c1, c2, c3⟩ := Gr.cnt_ok hok
      have h6 := (Gr.chk_ok hok).1
      have := at_l d hok n (by omega) (by omega) d.length (by omega) (List.replicate d.length 0) (by simp) (by simp [Gr.dig])
      rw [List.drop_length] at this
      simp only [Gr.prod, Int.ediv_one] at this
      refine Ev.step (fun k => ?_) this
      rw [walk_At.j0, if_neg (by simp; omega), if_pos (by omega), if_pos (by simp; omega), w64 (by omega) (by omega), Int.toNat_natCast]
    · rw [if_neg (by omega)]
      refine Ev.step (fun k => ?_) (Ev.now _)
      rw [walk_At.j0, if_pos (by simp; omega)]
theorem all_2 (d : List Int) (L : List (List Int)) (i : Nat) (hi : i < d.length) (q : Nat) (hq : q < L.length) (hn : d.length ≤ 6) (hL : L.length ≤ 64) (hL6 : ∀ p ∈ L, p.length ≤ 6) (X : Nat) (hX : X ≤ 64) (hXd : rd d (i : Int) = (X : Int)) (r : List (List Int)) :
    ∀ v, v ≤ X → ∀ acc : List (List Int), acc.length ≤ 64 * q + v →
    Ev (fun k => gradineref20_All.l1 k d L (i : Int) (acc ++ ((List.range (X - v)).map fun u : Nat => L[q] ++ [((v + u : Nat) : Int)])) (d.length : Int) (i : Int) (L.length : Int) ((q + 1 : Nat) : Int)) r →
    Ev (fun k => gradineref20_All.l2 k d L (i : Int) acc (q : Int) (d.length : Int) (i : Int) (L.length : Int) (q : Int) (rd d (i : Int)) (v : Int)) r := by
  apply down
  · intro acc hacc h
    simp at h
    refine Ev.step (fun k => ?_) h
    rw [gradineref20_All.l2, if_neg (by omega), nx q _ hq (by omega)]; rfl
  · intro v hv ih acc hacc h
    have h6 := hL6 L[q] (List.getElem_mem hq)
    have e : acc ++ ((List.range (X - v)).map fun u : Nat => L[q] ++ [((v + u : Nat) : Int)]) = (acc ++ [L[q] ++ [(v : Int)]]) ++ ((List.range (X - (v + 1))).map fun u : Nat => L[q] ++ [((v + 1 + u : Nat) : Int)]) := by
      rw [show X - v = (X - (v + 1)) + 1 by omega, List.range_succ_eq_map, List.map_cons, List.map_map, List.append_assoc, List.singleton_append]
      congr 2
      apply List.map_congr_left
      intro u _
      simp only [Function.comp]
      rw [show v + u.succ = v + 1 + u by omega]
    rw [e] at h
    refine Ev.step (fun k => ?_) (ih (acc ++ [L[q] ++ [(v : Int)]]) (by simp; omega) h)
    rw [gradineref20_All.l2, if_pos (by omega), Option.bind_some, if_pos (by omega), if_pos (by omega), rdl L q hq, if_pos (by simp; omega), Option.bind_some, if_pos (by simp; omega), if_pos (by omega), nx v X hv (by omega), List.nil_append]
theorem all_1 (d : List Int) (L : List (List Int)) (i : Nat) (hi : i < d.length) (hn : d.length ≤ 6) (hL : L.length ≤ 64) (hL6 : ∀ p ∈ L, p.length ≤ 6) (X : Nat) (hX : X ≤ 64) (hXd : rd d (i : Int) = (X : Int)) (r : List (List Int)) :
    ∀ q, q ≤ L.length → ∀ acc : List (List Int), acc.length ≤ 64 * q →
    Ev (fun k => gradineref20_All.l0 k d (acc ++ (L.drop q).flatMap fun p => (List.range X).map fun v : Nat => p ++ [(v : Int)]) (d.length : Int) ((i + 1 : Nat) : Int)) r →
    Ev (fun k => gradineref20_All.l1 k d L (i : Int) acc (d.length : Int) (i : Int) (L.length : Int) (q : Int)) r := by
  apply down
  · intro acc hacc h
    rw [List.drop_length] at h
    simp only [List.flatMap_nil, List.append_nil] at h
    refine Ev.step (fun k => ?_) h
    rw [gradineref20_All.l1, if_neg (by omega), nx i _ hi (by omega)]
  · intro q hq ih acc hacc h
    rw [List.drop_eq_getElem_cons hq, List.flatMap_cons, ← List.append_assoc] at h
    have := ih _ (by simp; omega) h
    refine Ev.step (fun k => ?_) (all_2 d L i hi q hq hn hL hL6 X hX hXd r 0 (by omega) acc (by omega) (by simpa using this))
    rw [gradineref20_All.l1, if_pos (by omega), if_pos (by omega), if_pos (by omega)]; rfl
theorem all_0 (d : List Int) (hok : Gr.chk d = 0) : ∀ i, i ≤ d.length →
    Ev (fun k => gradineref20_All.l0 k d (Gr.pre (d.take i)) (d.length : Int) (i : Int)) (Gr.pre d) := by
  obtain ⟨h6, h1, h2⟩ := Gr.chk_ok hok
  apply down
  · rw [List.take_length]
    refine Ev.step (fun k => ?_) (Ev.now _)
    rw [gradineref20_All.l0, if_neg (by omega)]
  · intro i hi ih
    have hx := h1 _ (List.getElem_mem hi)
    have hx2 := Gr.ok_le hok _ (List.getElem_mem hi)
    have e : d.take (i + 1) = d.take i ++ [rd d (i : Int)] := by rw [List.take_succ_eq_append_getElem hi, rdg d i hi]
    rw [e, Gr.pre_snoc _ _ (fun y hy => h1 y (List.mem_of_mem_take hy)) (by rw [rdg d i hi]; exact hx)] at ih
    have hp := Gr.chk_ok (Gr.ok_take hok i)
    refine Ev.step (fun k => ?_) (all_1 d (Gr.pre (d.take i)) i hi h6 (by rw [Gr.pre_length]; omega) ?_ (rd d (i : Int)).toNat (by rw [rdg d i hi]; omega) (by rw [rdg d i hi]; omega) _ 0 (by omega) [] (by simp) (by simpa using ih))
    · rw [gradineref20_All.l0, if_pos (by omega)]; rfl
    · intro p hp
      simp only [Gr.pre, List.mem_map] at hp
      obtain ⟨n, _, rfl⟩ := hp
      rw [Gr.dig_length, List.length_take]; omega
theorem ref_all (d : List Int) : Ev (fun k => gradineref20_All.f k d) (Gr.alls d) := by
  refine Ev.congr (fun k => by rw [gradineref20_All.f]) (Ev.bind (ref_check d) ?_)
  by_cases h : Gr.chk d = 0
  · simp only [if_pos h]
    rw [Gr.alls_ok h]
    have := all_0 d h 0 (by omega)
    rw [List.take_zero, Gr.pre_nil] at this
    exact this
  · simp only [if_neg h]
    unfold Gr.alls
    rw [if_neg h]
    exact Ev.now _
theorem mul_bound {a t : Int} (h0 : 0 ≤ a) (h1 : a ≤ 63) (ht : a = 0 ∨ (-64 < t ∧ t < 64)) : -4000 ≤ a * t ∧ a * t ≤ 4000 := by
  rcases ht with rfl | ⟨t0, t1⟩
  · simp
  · have e1 : a * t ≤ a * 63 := Int.mul_le_mul_of_nonneg_left (by omega) h0
    have e2 : a * (-63) ≤ a * t := Int.mul_le_mul_of_nonneg_left (by omega) h0
    omega
theorem right_l (o : Int) (d s : List Int) (room : Int) (hok : Gr.chk d = 0) (hl : s.length = d.length) (hr0 : 1 ≤ room) (hr : room ≤ 64) : ∀ i, i ≤ d.length → ∀ lo hi : Int, -(64 + 4096 * (i : Int)) ≤ lo → lo ≤ 64 + 4096 * (i : Int) → -(64 + 4096 * (i : Int)) ≤ hi → hi ≤ 64 + 4096 * (i : Int) →
    Ev (fun k => view_Right.l0 k room lo hi d (d.length : Int) (i : Int) o d s) (Gr.sok room (d.drop i) (s.drop i) && decide (0 ≤ lo + Gr.low (d.drop i) (s.drop i)) && decide (hi + Gr.hgh (d.drop i) (s.drop i) < room)) := by
  obtain ⟨h6, h1, h2⟩ := Gr.chk_ok hok
  apply down
  · intro lo hi a1 a2 a3 a4
    rw [List.drop_length, ← hl, List.drop_length]
    simp only [Gr.sok, Gr.low, Gr.hgh, Bool.true_and, Int.add_zero]
    by_cases h : lo ≥ 0
    · rw [decide_eq_true (show 0 ≤ lo from h), Bool.true_and]
      refine Ev.step (fun k => ?_) (Ev.now _)
      rw [view_Right.l0, if_neg (by omega), if_pos h]
    · rw [decide_eq_false (show ¬ 0 ≤ lo from h), Bool.false_and]
      refine Ev.step (fun k => ?_) (Ev.now _)
      rw [view_Right.l0, if_neg (by omega), if_neg h]
  · intro i hi ih lo hg a1 a2 a3 a4
    have hx := h1 _ (List.getElem_mem hi)
    have hx2 := Gr.ok_le hok _ (List.getElem_mem hi)
    rw [← rdg d i hi] at hx hx2
    rw [dropc d i hi, dropc s i (by omega)]
    simp only [Gr.sok, Gr.low, Gr.hgh]
    by_cases e1 : rd d (i : Int) = 1
    · have := ih lo hg (by omega) (by omega) (by omega) (by omega)
      rw [e1]
      simp only [Int.le_refl, decide_true, Bool.true_or, Bool.true_and, Int.sub_self, Int.zero_mul, Int.lt_irrefl, if_false, Int.zero_add]
      refine Ev.step (fun k => ?_) this
      rw [view_Right.l0, if_pos (by omega), if_pos (by omega), if_pos (by omega), if_pos (by omega), view_reach.f, if_pos e1, Option.bind_some, if_pos rfl, nx i _ hi (by omega), show mn 0 0 = 0 by decide, show mx 0 0 = 0 by decide, Int.add_zero, Int.add_zero, w64 (by omega) (by omega), w64 (by omega) (by omega)]
    · rw [decide_eq_false (show ¬ rd d (i : Int) ≤ 1 by omega), Bool.false_or]
      have hwr : wrap64 (-room) = -room := w64 (by omega) (by omega)
      by_cases e2 : rd s (i : Int) ≥ room
      · rw [decide_eq_false (show ¬ rd s (i : Int) < room by omega), Bool.and_false, Bool.false_and, Bool.false_and, Bool.false_and]
        refine Ev.step (fun k => ?_) (Ev.now _)
        rw [view_Right.l0, if_pos (by omega), if_pos (by omega), if_pos (by omega), if_pos (by omega), view_reach.f, if_neg e1, if_pos e2, Option.bind_some, if_neg (by simp)]
      · by_cases e3 : rd s (i : Int) ≤ -room
        · rw [decide_eq_false (show ¬ -room < rd s (i : Int) by omega), Bool.false_and, Bool.false_and, Bool.false_and, Bool.false_and]
          refine Ev.step (fun k => ?_) (Ev.now _)
          rw [view_Right.l0, if_pos (by omega), if_pos (by omega), if_pos (by omega), if_pos (by omega), view_reach.f, if_neg e1, if_neg e2, hwr, if_pos e3, Option.bind_some, if_neg (by simp)]
        · obtain ⟨b1, b2⟩ := mul_bound (a := rd d (i : Int) - 1) (t := rd s (i : Int)) (by omega) (by omega) (.inr ⟨by omega, by omega⟩)
          rw [decide_eq_true (show -room < rd s (i : Int) by omega), decide_eq_true (show rd s (i : Int) < room by omega), Bool.true_and, Bool.true_and]
          have hwm : wrap64 (wrap64 (rd d (i : Int) - 1) * rd s (i : Int)) = (rd d (i : Int) - 1) * rd s (i : Int) := by rw [w64 (x := rd d (i : Int) - 1) (by omega) (by omega), w64 (by omega) (by omega)]
          obtain ⟨m, hm⟩ : ∃ m, (rd d (i : Int) - 1) * rd s (i : Int) = m := ⟨_, rfl⟩
          rw [hm] at b1 b2 hwm
          simp only [hm]
          have hmn : mn m 0 = if m < 0 then m else 0 := by unfold mn; split <;> split <;> omega
          have hmx : mx m 0 = if m < 0 then 0 else m := by unfold mx; rfl
          have hlo : wrap64 (lo + mn m 0) = lo + if m < 0 then m else 0 := by rw [hmn, w64] <;> split <;> omega
          have hhg : wrap64 (hg + mx m 0) = hg + if m < 0 then 0 else m := by rw [hmx, w64] <;> split <;> omega
          have := ih (lo + if m < 0 then m else 0) (hg + if m < 0 then 0 else m) (by split <;> omega) (by split <;> omega) (by split <;> omega) (by split <;> omega)
          rw [← Int.add_assoc, ← Int.add_assoc]
          refine Ev.step (fun k => ?_) this
          rw [view_Right.l0, if_pos (by omega), if_pos (by omega), if_pos (by omega), if_pos (by omega), view_reach.f, if_neg e1, if_neg e2, hwr, if_neg e3, hwm, Option.bind_some, if_pos rfl, nx i _ hi (by omega), hlo, hhg]
theorem view_rgt (o : Int) (d s : List Int) (room : Int) : Ev (fun k => view_Right.f k o d s room) (Gr.rgt o d s room) := by
  have no : ¬ Gr.vok o d s room → Gr.rgt o d s room = false := fun h => by unfold Gr.rgt; rw [decide_eq_false h]; rfl
  have stop : ¬ Gr.vok o d s room → Ev (fun k => view_Right.j0 k room true o d s) (Gr.rgt o d s room) := fun h => by
    rw [no h]
    refine Ev.step (fun k => ?_) (Ev.now _)
    rw [view_Right.j0, if_pos rfl]
  refine Ev.congr (fun k => by rw [view_Right.f, shape_check, Option.bind_some]) ?_
  by_cases h1 : Gr.chk d = 0
  · simp only [if_pos h1]
    by_cases h2 : (s.length : Int) = (d.length : Int)
    · simp only [if_pos h2]
      by_cases h3 : room > 64
      · simp only [if_pos h3]; exact stop (fun hv => by have := hv.2.2.1; omega)
      · simp only [if_neg h3]
        by_cases h4 : o < 0
        · simp only [if_pos h4]; exact stop (fun hv => by have := hv.2.2.2.1; omega)
        · simp only [if_neg h4]
          by_cases h5 : o ≥ room
          · rw [decide_eq_true h5]; exact stop (fun hv => by have := hv.2.2.2.2.1; omega)
          · rw [decide_eq_false h5]
            have := right_l o d s room h1 (by omega) (by omega) (by omega) 0 (by omega) o o (by omega) (by omega) (by omega) (by omega)
            rw [List.drop_zero, List.drop_zero] at this
            have e : Gr.rgt o d s room = (Gr.sok room d s && decide (0 ≤ o + Gr.low d s) && decide (o + Gr.hgh d s < room)) := by
              have hd : decide (Gr.vok o d s room) = Gr.sok room d s := by
                by_cases hs : Gr.sok room d s = true
                · exact (decide_eq_true ⟨h1, by omega, by omega, by omega, by omega, hs⟩).trans hs.symm
                · exact (decide_eq_false (fun hv => hs hv.2.2.2.2.2)).trans (Bool.eq_false_iff.2 hs).symm
              unfold Gr.rgt; rw [hd]
            rw [e]
            refine Ev.step (fun k => ?_) this
            rw [view_Right.j0, if_neg (by simp)]; rfl
    · simp only [if_neg h2]; exact stop (fun hv => by have := hv.2.1; omega)
  · simp only [if_neg h1]; exact stop (fun hv => h1 hv.1)
theorem view_rgt64 (o : Int) (d s : List Int) : Ev (fun k => view_right.f k o d s) (Gr.rgt o d s 64) :=
  Ev.congr (fun k => by rw [view_right.f]) (Ev.bind (view_rgt o d s 64) (Ev.now _))
/-- What is asked of a place and steps so that nothing overflows. -/
def Fit (s p : List Int) : Prop := p.length ≤ 6 ∧ p.length = s.length ∧ ∀ i, (h : i < p.length) → 0 ≤ rd p (i : Int) ∧ rd p (i : Int) ≤ 63 ∧ (rd p (i : Int) = 0 ∨ (-64 < rd s (i : Int) ∧ rd s (i : Int) < 64))
theorem fit_of {d s p : List Int} {room : Int} (hok : Gr.chk d = 0) (hl : s.length = d.length) (hs : Gr.sok room d s = true) (hr : room ≤ 64) (hi : Gr.inb d p = true) : Fit s p := by
  have hpl := Gr.inb_length hi
  have h6 := (Gr.chk_ok hok).1
  refine ⟨by omega, by omega, fun i h => ?_⟩
  have hd := Gr.inb_dropn d p hi i
  rw [dropc d i (by omega), dropc p i h] at hd
  simp only [Gr.inb, Bool.and_eq_true, decide_eq_true_eq] at hd
  have hx2 := Gr.ok_le hok _ (List.getElem_mem (show i < d.length by omega))
  have hg := Gr.sok_get hs i (by omega) (by omega)
  rw [← rdg d i (by omega)] at hx2 hg
  rw [← rdg s i (by omega)] at hg
  refine ⟨hd.1.1, by omega, ?_⟩
  rcases hg with hg | hg
  · left; omega
  · right; omega
theorem at_l22 (o : Int) (d s p : List Int) (hf : Fit s p) : ∀ i, i ≤ p.length → ∀ c : Int, -(64 + 4096 * (i : Int)) ≤ c → c ≤ 64 + 4096 * (i : Int) →
    Ev (fun k => view_At.l0 k c p (p.length : Int) (i : Int) o d s) (c + Gr.ofs (p.drop i) (s.drop i), true) := by
  obtain ⟨h6, hl, hb⟩ := hf
  apply down
  · intro c _ _
    rw [List.drop_length, hl, List.drop_length]
    simp only [Gr.ofs, Int.add_zero]
    refine Ev.step (fun k => ?_) (Ev.now _)
    rw [view_At.l0, if_neg (by omega)]
  · intro i hi ih c a1 a2
    obtain ⟨b0, b1, b2⟩ := hb i hi
    obtain ⟨m1, m2⟩ := mul_bound b0 b1 b2
    rw [dropc p i hi, dropc s i (by omega)]
    simp only [Gr.ofs]
    rw [← Int.add_assoc]
    refine Ev.step (fun k => ?_) (ih (c + rd p (i : Int) * rd s (i : Int)) (by omega) (by omega))
    by_cases hp : rd p (i : Int) > 0
    · rw [view_At.l0, if_pos (by omega), if_pos (by omega), if_pos (by omega), if_pos hp, if_pos (by omega), nx i _ hi (by omega), w64 (x := rd p (i : Int) * rd s (i : Int)) (by omega) (by omega), w64 (by omega) (by omega)]
    · rw [view_At.l0, if_pos (by omega), if_pos (by omega), if_pos (by omega), if_neg hp, nx i _ hi (by omega), show rd p (i : Int) = 0 by omega, Int.zero_mul, Int.add_zero]
theorem view_at (o : Int) (d s : List Int) (n : Int) : Ev (fun k => view_At.f k o d s n) (Gr.vat o d s n) := by
  refine Ev.congr (fun k => by rw [view_At.f]) (Ev.bind (view_rgt64 o d s) ?_)
  by_cases h : Gr.rgt o d s 64 = true
  · rw [h]
    simp only [if_true]
    obtain ⟨⟨v1, v2, v3, v4, v5, v6⟩, _, _⟩ := Gr.rgt_ok h
    refine Ev.bind (walk_at d n) ?_
    unfold Gr.att Gr.vat
    by_cases hn : 0 ≤ n ∧ n < Gr.cnt d
    · rw [if_pos hn, if_pos ⟨h, hn⟩]
      simp only [if_true]
      have := at_l22 o d s (Gr.dig d n) (fit_of v1 v2 v6 (by omega) (Gr.inb_dig d (Gr.chk_ok v1).2.1 n)) 0 (by omega) o (by omega) (by omega)
      rw [List.drop_zero, List.drop_zero] at this
      exact this
    · rw [if_neg hn, if_neg (fun hh => hn hh.2)]
      exact Ev.now _
  · rw [Bool.eq_false_iff.2 h]
    unfold Gr.vat
    rw [if_neg (fun hh => h hh.1)]
    exact Ev.now _
theorem cells_2 (o : Int) (d s : List Int) (room : Int) (L acc : List (List Int)) (q : Nat) (hq : q < L.length) (ac : List Int) (hf : Fit s L[q]) (R : List Int) :
    ∀ j, j ≤ L[q].length → ∀ c : Int, -(64 + 4096 * (j : Int)) ≤ c → c ≤ 64 + 4096 * (j : Int) →
    (0 ≤ c + Gr.ofs (L[q].drop j) (s.drop j) → c + Gr.ofs (L[q].drop j) (s.drop j) < room → Ev (fun k => if ac.length < 17592186044416 then gradineref22_Cells.l1 k room L (ac ++ [c + Gr.ofs (L[q].drop j) (s.drop j)]) (L.length : Int) (wrap64 ((q : Int) + 1)) o d s else none) R) →
    Ev (fun k => gradineref22_Cells.l2 k room L ac (q : Int) c (L.length : Int) (q : Int) (L[q].length : Int) (j : Int) o d s) (if 0 ≤ c + Gr.ofs (L[q].drop j) (s.drop j) ∧ c + Gr.ofs (L[q].drop j) (s.drop j) < room then R else []) := by
  obtain ⟨h6, hl, hb⟩ := hf
  apply down
  · intro c _ _
    rw [List.drop_length, hl, List.drop_length]
    simp only [Gr.ofs, Int.add_zero]
    intro h
    by_cases h0 : c < 0
    · rw [if_neg (by omega)]
      refine Ev.step (fun k => ?_) (Ev.now _)
      rw [gradineref22_Cells.l2, if_neg (by omega), if_pos h0]
    · by_cases h1 : c ≥ room
      · rw [if_neg (by omega)]
        refine Ev.step (fun k => ?_) (Ev.now _)
        rw [gradineref22_Cells.l2, if_neg (by omega), if_neg h0, if_pos h1]
      · rw [if_pos (by omega)]
        refine Ev.step (fun k => ?_) (h (by omega) (by omega))
        rw [gradineref22_Cells.l2, if_neg (by omega), if_neg h0, if_neg h1]
  · intro j hj ih c a1 a2
    obtain ⟨b0, b1, b2⟩ := hb j hj
    obtain ⟨m1, m2⟩ := mul_bound b0 b1 b2
    have eo : Gr.ofs (L[q].drop j) (s.drop j) = rd L[q] (j : Int) * rd s (j : Int) + Gr.ofs (L[q].drop (j + 1)) (s.drop (j + 1)) := by rw [dropc L[q] j hj, dropc s j (by omega)]; rfl
    simp only [eo, ← Int.add_assoc]
    intro h
    have := ih (c + rd L[q] (j : Int) * rd s (j : Int)) (by omega) (by omega) h
    refine Ev.step (fun k => ?_) this
    by_cases hp : rd L[q] (j : Int) > 0
    · rw [gradineref22_Cells.l2, if_pos (by omega), if_pos (by omega), if_pos (by omega), if_pos (by omega), rdl L q hq, if_pos (by omega), if_pos hp, if_pos (by omega), nx j _ hj (by omega), w64 (x := rd L[q] (j : Int) * rd s (j : Int)) (by omega) (by omega), w64 (by omega) (by omega)]
    · rw [gradineref22_Cells.l2, if_pos (by omega), if_pos (by omega), if_pos (by omega), if_pos (by omega), rdl L q hq, if_pos (by omega), if_neg hp, nx j _ hj (by omega), show rd L[q] (j : Int) = 0 by omega, Int.zero_mul, Int.add_zero]
theorem cells_1 (o : Int) (ho : 0 ≤ o) (ho2 : o < 64) (d s : List Int) (room : Int) (L : List (List Int)) (hL : L.length ≤ 64) (hf : ∀ p ∈ L, Fit s p) : ∀ q, q ≤ L.length → ∀ ac : List Int, ac.length ≤ q →
    Ev (fun k => gradineref22_Cells.l1 k room L ac (L.length : Int) (q : Int) o d s) (if ∀ p ∈ L.drop q, 0 ≤ o + Gr.ofs p s ∧ o + Gr.ofs p s < room then ac ++ (L.drop q).map (fun p => o + Gr.ofs p s) else []) := by
  apply down
  · intro ac _
    rw [List.drop_length]
    simp only [List.not_mem_nil, false_imp_iff, implies_true, if_true, List.map_nil, List.append_nil]
    refine Ev.step (fun k => ?_) (Ev.now _)
    rw [gradineref22_Cells.l1, if_neg (by omega)]
  · intro q hq ih ac hac
    have hd := List.drop_eq_getElem_cons hq
    have := cells_2 o d s room L L q hq ac (hf _ (List.getElem_mem hq)) (if ∀ p ∈ L.drop (q + 1), 0 ≤ o + Gr.ofs p s ∧ o + Gr.ofs p s < room then (ac ++ [o + Gr.ofs L[q] s]) ++ (L.drop (q + 1)).map (fun p => o + Gr.ofs p s) else []) 0 (by omega) o (by omega) (by omega) (by
      rw [List.drop_zero, List.drop_zero]
      intro _ _
      refine Ev.congr (fun k => ?_) (ih (ac ++ [o + Gr.ofs L[q] s]) (by simp; omega))
      rw [if_pos (by omega), nx q _ hq (by omega)])
    rw [List.drop_zero, List.drop_zero] at this
    have e : (if ∀ p ∈ L.drop q, 0 ≤ o + Gr.ofs p s ∧ o + Gr.ofs p s < room then ac ++ (L.drop q).map (fun p => o + Gr.ofs p s) else []) = (if 0 ≤ o + Gr.ofs L[q] s ∧ o + Gr.ofs L[q] s < room then (if ∀ p ∈ L.drop (q + 1), 0 ≤ o + Gr.ofs p s ∧ o + Gr.ofs p s < room then (ac ++ [o + Gr.ofs L[q] s]) ++ (L.drop (q + 1)).map (fun p => o + Gr.ofs p s) else []) else []) := by
      rw [hd]
      simp only [List.mem_cons, forall_eq_or_imp, List.map_cons, List.append_assoc, List.singleton_append]
      by_cases g1 : 0 ≤ o + Gr.ofs L[q] s ∧ o + Gr.ofs L[q] s < room
      · simp only [g1, and_self, true_and, if_true]
      · simp only [g1, false_and, if_false]
    rw [e]
    refine Ev.step (fun k => ?_) this
    rw [gradineref22_Cells.l1, if_pos (by omega), if_pos (by omega), if_pos (by omega), rdl L q hq]
    rfl
theorem cells_0 (o : Int) (d s : List Int) (room : Int) (hl : s.length = d.length) (h6 : d.length ≤ 6) (hr0 : 1 ≤ room) (hr : room ≤ 64) (R : List Int)
    (h : Gr.sok room d s = true → Ev (fun k => (gradineref20_All.f k d).bind fun t => gradineref22_Cells.l1 k room t [] (t.length : Int) 0 o d s) R) : ∀ i, i ≤ d.length → (Gr.sok room (d.drop i) (s.drop i) = Gr.sok room d s) →
    Ev (fun k => gradineref22_Cells.l0 k room (d.length : Int) (i : Int) o d s) (if Gr.sok room d s = true then R else []) := by
  apply down
  · intro e
    rw [List.drop_length, ← hl, List.drop_length] at e
    have e : Gr.sok room d s = true := by rw [← e]; rfl
    rw [if_pos e]
    refine Ev.step (fun k => ?_) (h e)
    rw [gradineref22_Cells.l0, if_neg (by omega)]
  · intro i hi ih e
    rw [dropc d i hi, dropc s i (by omega)] at e
    simp only [Gr.sok] at e
    have hwr : wrap64 (-room) = -room := w64 (by omega) (by omega)
    by_cases e1 : rd d (i : Int) > 1
    · rw [decide_eq_false (by omega), Bool.false_or] at e
      by_cases e2 : rd s (i : Int) ≥ room
      · rw [decide_eq_false (show ¬ rd s (i : Int) < room by omega), Bool.and_false, Bool.false_and] at e
        rw [← e, if_neg (by simp)]
        refine Ev.step (fun k => ?_) (Ev.now _)
        rw [gradineref22_Cells.l0, if_pos (by omega), if_pos (by omega), if_pos (by omega), if_pos e1, if_pos (by omega), if_pos e2]
      · by_cases e3 : rd s (i : Int) ≤ -room
        · rw [decide_eq_false (show ¬ -room < rd s (i : Int) by omega), Bool.false_and, Bool.false_and] at e
          rw [← e, if_neg (by simp)]
          refine Ev.step (fun k => ?_) (Ev.now _)
          rw [gradineref22_Cells.l0, if_pos (by omega), if_pos (by omega), if_pos (by omega), if_pos e1, if_pos (by omega), if_neg e2, hwr, if_pos e3]
        · rw [decide_eq_true (show -room < rd s (i : Int) by omega), decide_eq_true (show rd s (i : Int) < room by omega), Bool.true_and, Bool.true_and] at e
          refine Ev.step (fun k => ?_) (ih e)
          rw [gradineref22_Cells.l0, if_pos (by omega), if_pos (by omega), if_pos (by omega), if_pos e1, if_pos (by omega), if_neg e2, hwr, if_neg e3, nx i _ hi (by omega)]
    · rw [decide_eq_true (by omega), Bool.true_or, Bool.true_and] at e
      refine Ev.step (fun k => ?_) (ih e)
      rw [gradineref22_Cells.l0, if_pos (by omega), if_pos (by omega), if_pos (by omega), if_neg e1, nx i _ hi (by omega)]
theorem cells_vok (o : Int) (d s : List Int) (room : Int) (hv : Gr.vok o d s room) : Ev (fun k => (gradineref20_All.f k d).bind fun t => gradineref22_Cells.l1 k room t [] (t.length : Int) 0 o d s) (Gr.cls o d s room) := by
  obtain ⟨v1, v2, v3, v4, v5, v6⟩ := hv
  refine Ev.bind (ref_all d) ?_
  have hlen := Gr.alls_length d
  have := (Gr.cnt_ok v1).2.2
  have := cells_1 o v4 (by omega) d s room (Gr.alls d) (by omega) (fun p hp => fit_of v1 v2 v6 v3 ((Gr.mem_alls v1).1 hp)) 0 (by omega) [] (by simp)
  rw [List.drop_zero, List.nil_append] at this
  have e : Gr.cls o d s room = if ∀ p ∈ Gr.alls d, 0 ≤ o + Gr.ofs p s ∧ o + Gr.ofs p s < room then (Gr.alls d).map (fun p => o + Gr.ofs p s) else [] := by
    unfold Gr.cls
    simp only [Gr.rgt_iff ⟨v1, v2, v3, v4, v5, v6⟩]
  rw [e]
  exact this
theorem ref_cells (o : Int) (d s : List Int) (room : Int) : Ev (fun k => gradineref22_Cells.f k o d s room) (Gr.cls o d s room) := by
  have no : ¬ Gr.vok o d s room → Gr.cls o d s room = [] := fun h => Gr.cls_none (fun hh => h (Gr.rgt_ok hh).1)
  have stop : ¬ Gr.vok o d s room → Ev (fun k => gradineref22_Cells.j0 k room true o d s) (Gr.cls o d s room) := fun h => by
    rw [no h]
    refine Ev.step (fun k => ?_) (Ev.now _)
    rw [gradineref22_Cells.j0, if_pos rfl]
  refine Ev.congr (fun k => by rw [gradineref22_Cells.f]) (Ev.bind (ref_check d) ?_)
  by_cases h1 : Gr.chk d = 0
  · simp only [if_pos h1]
    by_cases h2 : (s.length : Int) = (d.length : Int)
    · simp only [if_pos h2]
      by_cases h3 : room > 64
      · simp only [if_pos h3]; exact stop (fun hv => by have := hv.2.2.1; omega)
      · simp only [if_neg h3]
        by_cases h4 : o < 0
        · simp only [if_pos h4]; exact stop (fun hv => by have := hv.2.2.2.1; omega)
        · simp only [if_neg h4]
          by_cases h5 : o ≥ room
          · rw [decide_eq_true h5]; exact stop (fun hv => by have := hv.2.2.2.2.1; omega)
          · rw [decide_eq_false h5]
            have key := cells_0 o d s room (by omega) (Gr.chk_ok h1).1 (by omega) (by omega) (Gr.cls o d s room) (fun hs => cells_vok o d s room ⟨h1, by omega, by omega, by omega, by omega, hs⟩) 0 (by omega) (by simp)
            have e : (if Gr.sok room d s = true then Gr.cls o d s room else []) = Gr.cls o d s room := by
              split
              · rfl
              · rename_i hs; exact (no (fun hv => hs hv.2.2.2.2.2)).symm
            rw [e] at key
            refine Ev.step (fun k => ?_) key
            rw [gradineref22_Cells.j0, if_neg (by simp)]; rfl
    · simp only [if_neg h2]; exact stop (fun hv => by have := hv.2.1; omega)
  · simp only [if_neg h1]; exact stop (fun hv => h1 hv.1)
theorem cls_bound (o : Int) (d s : List Int) (room : Int) : (Gr.cls o d s room).length ≤ 64 ∧ ∀ x ∈ Gr.cls o d s room, 0 ≤ x ∧ x < 64 := by
  by_cases h : Gr.rgt o d s room = true
  · have hl := Gr.cls_length o d s room
    have hv := (Gr.rgt_ok h).1
    rw [if_pos h] at hl
    have := (Gr.cnt_ok hv.1).2.2
    refine ⟨by omega, fun x hx => ?_⟩
    rw [Gr.cls_ok h, List.mem_map] at hx
    obtain ⟨p, hp, rfl⟩ := hx
    have := (Gr.rgt_iff hv).1 h p hp
    have := hv.2.2.1
    omega
  · rw [Gr.cls_none h]; simp
theorem view_whole (d : List Int) (hn : d.length ≤ 100) : Ev (fun k => view_Whole.f k d) (if Gr.chk d = 0 then (0, d, Gr.stp d) else (0, [], [])) := by
  refine Ev.congr (fun k => by rw [view_Whole.f, shape_check, Option.bind_some]) ?_
  by_cases h : Gr.chk d = 0
  · rw [if_pos h]
    simp only [if_pos h]
    refine Ev.congr (fun k => by rw [slices_Clone_int_int.f, if_pos (by omega), Option.bind_some]) ?_
    refine Ev.bind (shape_steps d) ?_
    rw [show Gr.steps d = Gr.stp d by unfold Gr.steps; rw [if_pos h]]
    exact Ev.now _
  · rw [if_neg h]
    simp only [if_neg h]
    exact Ev.now _
theorem clist_l (o : Int) (d s : List Int) (h : Gr.rgt o d s 64 = true) : ∀ i, i ≤ (Gr.cls o d s 64).length →
    Ev (fun k => cells_List.l0 k ((Gr.cls o d s 64).take i) ((Gr.cls o d s 64).length : Int) (i : Int) o d s) (Gr.cls o d s 64) := by
  have hb := cls_bound o d s 64
  have hl := Gr.cls_length o d s 64
  rw [if_pos h] at hl
  apply down
  · rw [List.take_length]
    refine Ev.step (fun k => ?_) (Ev.now _)
    rw [cells_List.l0, if_neg (by omega)]
  · intro i hi ih
    rw [List.take_succ_eq_append_getElem hi] at ih
    have hv := view_at o d s (i : Int)
    have e : Gr.vat o d s (i : Int) = ((Gr.cls o d s 64)[i], true) := by
      unfold Gr.vat
      rw [if_pos ⟨h, by omega, by omega⟩, Gr.cls_get h i hi]
    rw [e] at hv
    refine Ev.step (fun k => by rw [cells_List.l0, if_pos (by omega)]) (Ev.bind hv ?_)
    refine Ev.congr (fun k => ?_) ih
    rw [if_pos (by rw [List.length_take]; omega), nx i _ hi (by omega)]
theorem cells_list (o : Int) (d s : List Int) : Ev (fun k => cells_List.f k o d s) (Gr.cls o d s 64) := by
  refine Ev.congr (fun k => by rw [cells_List.f]) (Ev.bind (view_rgt o d s 64) ?_)
  by_cases h : Gr.rgt o d s 64 = true
  · have hl := Gr.cls_length o d s 64
    rw [if_pos h] at hl
    rw [h]
    refine Ev.congr (fun k => by rw [if_pos rfl]) (Ev.bind (shape_count d) ?_)
    have := clist_l o d s h 0 (by omega)
    rw [List.take_zero, hl] at this
    exact this
  · rw [Bool.eq_false_iff.2 h, Gr.cls_none h]
    exact Ev.congr (fun k => by rw [if_neg (by simp)]) (Ev.now _)
/-- Counts, and some more. -/
def more (s l : List Int) : List Int := (List.range 64).map fun i : Nat => rd s (i : Int) + (l.count (i : Int) : Int)
theorem more_nil (s : List Int) (hs : s.length = 64) : more s [] = s := by
  refine List.ext_getElem (by simp [more, hs]) (fun i h1 h2 => ?_)
  simp only [more, List.getElem_map, List.getElem_range, List.count_nil]
  rw [rdg s i h2]
  simp
theorem of_l : ∀ (l s : List Int), s.length = 64 → (∀ c ∈ l, 0 ≤ c ∧ c < 64) → (∀ i : Nat, i < 64 → 0 ≤ rd s (i : Int) ∧ rd s (i : Int) + (l.length : Int) ≤ 1000) → cells_of.l0 l s = some (more s l)
  | [], s, hs, _, _ => by rw [cells_of.l0, more_nil s hs]
  | c :: l, s, hs, hb, hw => by
    have hc := hb c (by simp)
    obtain ⟨n, rfl⟩ := Int.eq_ofNat_of_zero_le hc.1
    have hn : n < 64 := by omega
    have hwn := hw n hn
    simp only [List.length_cons] at hwn hw
    have hrd : ∀ i : Nat, i < 64 → rd (s.set n (rd s (n : Int) + 1)) (i : Int) = if n = i then rd s (n : Int) + 1 else rd s (i : Int) := by
      intro i hi
      rw [rdg _ i (by simp; omega), List.getElem_set, rdg s i (by omega)]
    rw [cells_of.l0, if_pos hc, Int.toNat_natCast, w64 (by omega) (by omega), of_l l _ (by rw [List.length_set]; exact hs) (fun c h => hb c (by simp [h])) (fun i hi => by
      rw [hrd i hi]
      have := hw i hi
      split <;> omega)]
    congr 1
    unfold more
    apply List.map_congr_left
    intro i hi
    rw [List.mem_range] at hi
    rw [hrd i hi, List.count_cons]
    by_cases e : n = i
    · subst e; simp; omega
    · rw [if_neg e, if_neg (by simp; omega)]; simp
theorem zeros_rd (i : Nat) (hi : i < 64) : rd zeros (i : Int) = 0 := by
  unfold rd zeros
  rw [Int.toNat_natCast, List.getD_eq_getElem?_getD, List.getElem?_replicate]
  split <;> rfl
theorem more_zeros (l : List Int) : more zeros l = Gr.tal l := by
  unfold more Gr.tal
  apply List.map_congr_left
  intro i hi
  rw [List.mem_range] at hi
  have : rd zeros (i : Int) = 0 := zeros_rd i hi
  rw [this, Int.zero_add]
theorem cells_of_ (o : Int) (d s : List Int) : Ev (fun k => cells_of.f k o d s) (Gr.tal (Gr.cls o d s 64)) := by
  have hb := cls_bound o d s 64
  refine Ev.congr (fun k => by rw [cells_of.f]) (Ev.bind (cells_list o d s) ?_)
  refine Ev.congr (fun k => ?_) (Ev.now _)
  rw [if_pos (by omega), of_l _ zeros (by decide) hb.2 (fun i hi => by
    have : rd zeros (i : Int) = 0 := zeros_rd i hi
    omega), more_zeros]
theorem ref_meet_l (a b : List Int) (ha : a.length ≤ 64) (hb : b.length ≤ 64) : ∀ i, i ≤ a.length → Ev (fun k => gradineref23_Meet.l0 k a b (a.length : Int) (i : Int)) ((a.drop i).any fun x => b.contains x) := by
  apply down
  · rw [List.drop_length]
    refine Ev.step (fun k => ?_) (Ev.now _)
    rw [gradineref23_Meet.l0, if_neg (by omega)]; rfl
  · intro i hi ih
    have hh := has b (rd a (i : Int)) (by omega)
    refine Ev.step (fun k => by rw [gradineref23_Meet.l0, if_pos (by omega), if_pos (by omega), if_pos (by omega)]) (Ev.bind hh ?_)
    rw [dropc a i hi, List.any_cons]
    cases hc : b.contains (rd a (i : Int)) with
    | true => rw [Bool.true_or]; exact Ev.congr (fun k => by rw [if_pos rfl]) (Ev.now _)
    | false =>
      rw [Bool.false_or]
      refine Ev.congr (fun k => ?_) ih
      rw [if_neg (by simp), nx i _ hi (by omega)]
theorem ref_meet (a b : List Int) (ha : a.length ≤ 64) (hb : b.length ≤ 64) : Ev (fun k => gradineref23_Meet.f k a b) (a.any fun x => b.contains x) :=
  Ev.congr (fun k => by rw [gradineref23_Meet.f]) (by have := ref_meet_l a b ha hb 0 (by omega); rw [List.drop_zero] at this; exact this)
theorem meet_any : ∀ s t : List Int, cells_Meet.any s t = true ↔ ∃ i, ∃ h1 : i < s.length, ∃ h2 : i < t.length, s[i] > 0 ∧ t[i] > 0
  | [], t => by simp [cells_Meet.any]
  | x :: s, [] => by simp [cells_Meet.any]
  | x :: s, y :: t => by
    rw [cells_Meet.any]
    by_cases h : x > 0 ∧ y > 0
    · rw [if_pos h]
      exact ⟨fun _ => ⟨0, by simp, by simp, h⟩, fun _ => rfl⟩
    · rw [if_neg h, meet_any s t]
      constructor
      · rintro ⟨i, h1, h2, h3⟩
        exact ⟨i + 1, by simp; omega, by simp; omega, by simpa using h3⟩
      · rintro ⟨i, h1, h2, h3⟩
        cases i with
        | zero => exact absurd (by simpa using h3) h
        | succ i => exact ⟨i, by simp at h1; omega, by simp at h2; omega, by simpa using h3⟩
theorem meet_tal {a b : List Int} (ha : ∀ c ∈ a, 0 ≤ c ∧ c < 64) : cells_Meet.any (Gr.tal a) (Gr.tal b) = a.any fun x => b.contains x := by
  rw [Bool.eq_iff_iff, meet_any, List.any_eq_true]
  constructor
  · rintro ⟨i, h1, h2, h3⟩
    rw [Gr.tal_length] at h1
    rw [Gr.tal_at a i h1, Gr.tal_at b i h1] at h3
    exact ⟨(i : Int), List.count_pos_iff.1 (by omega), by simpa using List.count_pos_iff.1 (show 0 < b.count (i : Int) by omega)⟩
  · rintro ⟨x, hx, hb⟩
    obtain ⟨n, rfl⟩ := Int.eq_ofNat_of_zero_le (ha x hx).1
    have hn := (ha _ hx).2
    refine ⟨n, by rw [Gr.tal_length]; omega, by rw [Gr.tal_length]; omega, ?_⟩
    rw [Gr.tal_at a n (by omega), Gr.tal_at b n (by omega)]
    have h1 := List.count_pos_iff.2 hx
    have h2 : 0 < b.count (n : Int) := List.count_pos_iff.2 (by simpa using hb)
    omega
theorem cells_meet (o : Int) (d s : List Int) (o' : Int) (d' s' : List Int) : Ev (fun k => cells_Meet.f k o d s o' d' s') ((Gr.cls o d s 64).any fun x => (Gr.cls o' d' s' 64).contains x) := by
  rw [← meet_tal (cls_bound o d s 64).2]
  refine Ev.congr (fun k => by rw [cells_Meet.f]) (Ev.bind (cells_of_ o d s) (Ev.bind (cells_of_ o' d' s') ?_))
  exact Ev.now _
end Go.Proofs.Ytmhikecbajkonaa.S
namespace Go.Proofs.Ytmhikecbajkonaa.Pure
open Go.RowKit Go.Proofs.Ytmhikecbajkonaa.Q Go.Proofs.YtmhikecbajkonaaW.PrintWords Go.Proofs.YtmhikecbajkonaaW.PrintLast Go.Proofs.Ytmhikecbajkonaa.S
set_option linter.unusedVariables false
theorem t_list (o : Int) (d s : List Int) : ∃ k, cells_List.f k o d s = some (Gr.cls o d s 64) := (cells_list o d s).rounds
theorem t_cells (o : Int) (d s : List Int) (room : Int) : ∃ k, gradineref22_Cells.f k o d s room = some (Gr.cls o d s room) := (ref_cells o d s room).rounds
theorem t_right (o : Int) (d s : List Int) (room : Int) : ∃ k, view_Right.f k o d s room = some (Gr.rgt o d s room) := (view_rgt o d s room).rounds
theorem t_meet (o : Int) (d s : List Int) (o' : Int) (d' s' : List Int) : ∃ k, cells_Meet.f k o d s o' d' s' = some ((Gr.cls o d s 64).any fun x => (Gr.cls o' d' s' 64).contains x) := (cells_meet o d s o' d' s').rounds
theorem t_rmeet (a b : List Int) (ha : a.length ≤ 64) (hb : b.length ≤ 64) : ∃ k, gradineref23_Meet.f k a b = some (a.any fun x => b.contains x) := (ref_meet a b ha hb).rounds
theorem t_ints (a : List Int) (hn : a.length ≤ 1000000000) : ∃ k, gradineplain_Ints.f k a a = some true := (ints_eq rfl hn).rounds
theorem t_count (d : List Int) : ∃ k, shape_Count.f k d = some (Gr.cnt d) := (shape_count d).rounds
theorem t_check (d : List Int) : ∃ k, gradineref19_Check.f k d = some (Gr.chk d) := (ref_check d).rounds
theorem t_rcount (d : List Int) : ∃ k, gradineref19_Count.f k d = some (Gr.cnt d) := (ref_count d).rounds
theorem t_whole {d : List Int} (h : Gr.chk d = 0) : ∃ k, view_Whole.f k d = some (0, d, Gr.stp d) := by
  have := (view_whole d (by have := (Gr.chk_ok h).1; omega)).rounds
  rwa [if_pos h] at this
theorem t_countE (d : List Int) : Ev (fun k => shape_Count.f k d) (Gr.cnt d) := shape_count d
theorem t_wholeE {d : List Int} (h : Gr.chk d = 0) : Ev (fun k => view_Whole.f k d) (0, d, Gr.stp d) := by
  have := view_whole d (by have := (Gr.chk_ok h).1; omega)
  rwa [if_pos h] at this
theorem t_chk6 {d : List Int} (h : Gr.chk d = 0) : d.length ≤ 6 := (Gr.chk_ok h).1
theorem t_cnt {d : List Int} (h : Gr.chk d = 0) : 1 ≤ Gr.cnt d ∧ Gr.cnt d ≤ 64 := by
  obtain ⟨h6, h1, h2⟩ := Gr.chk_ok h
  unfold Gr.cnt
  rw [if_pos h]
  exact ⟨Gr.prod_pos d h1, h2⟩
theorem t_room {o : Int} {d s : List Int} {n : Int} (h : Gr.rgt o d s n = true) : Gr.rgt o d s 64 = true ∧ Gr.cls o d s 64 = Gr.cls o d s n := by
  have h' : Gr.rgt o d s 64 = true := by
    unfold Gr.rgt at h ⊢
    simp only [Bool.and_eq_true, decide_eq_true_eq] at h ⊢
    obtain ⟨⟨⟨a1, a2, a3, a4, a5, a6⟩, b⟩, c⟩ := h
    exact ⟨⟨⟨a1, a2, Int.le_refl _, a4, by omega, Gr.sok_mono a3 _ _ a6⟩, b⟩, by omega⟩
  exact ⟨h', by rw [Gr.cls_ok h', Gr.cls_ok h]⟩
theorem t_rgt {o : Int} {d s : List Int} {n : Int} (h : Gr.rgt o d s n = true) : Gr.chk d = 0 ∧ s.length = d.length := by
  unfold Gr.rgt at h
  simp only [Bool.and_eq_true, decide_eq_true_eq] at h
  exact ⟨h.1.1.1, h.1.1.2.1⟩
theorem t_pos (o : Int) (d s : List Int) (room : Int) : (0 < (Gr.cls o d s room).length) ↔ Gr.rgt o d s room = true := Gr.cls_pos o d s room
theorem t_bound (o : Int) (d s : List Int) (room : Int) : (Gr.cls o d s room).length ≤ 64 ∧ ∀ x ∈ Gr.cls o d s room, 0 ≤ x ∧ x < 64 := cls_bound o d s room
theorem t_whole_rgt {d : List Int} (h : Gr.chk d = 0) : Gr.rgt 0 d (Gr.stp d) 64 = true := Gr.whole_rgt h
theorem t_whole_cls {d : List Int} (h : Gr.chk d = 0) : Gr.cls 0 d (Gr.stp d) 64 = (List.range (Gr.cnt d).toNat).map Int.ofNat := by
  obtain ⟨h6, h1, h2⟩ := Gr.chk_ok h
  have hw := Gr.whole_rgt h
  have hl := Gr.cls_length 0 d (Gr.stp d) 64
  rw [if_pos hw] at hl
  refine List.ext_getElem (by simp; omega) fun i g1 g2 => ?_
  rw [Gr.cls_get hw i g1, Gr.ofs_stp d _ (Gr.dig_length d _)]
  have hc : Gr.cnt d = Gr.prod d := by unfold Gr.cnt; rw [if_pos h]
  rw [Gr.num_dig_lt d h1 _ (by omega) (by omega)]
  simp
end Go.Proofs.Ytmhikecbajkonaa.Pure
set_option linter.unusedVariables false
namespace Go.Proofs.Ytmhikecbajkonaa.Pure
open Go.RowKit Go.Proofs.YtmhikecbajkonaaW.PrintWords Go.Proofs.YtmhikecbajkonaaW.PrintLast Go.Proofs.YtmhikecbajkonaaW.PrintMore
theorem any_self {l : List Int} (h : 0 < l.length) : (l.any fun x => l.contains x) = true := by
  rw [List.any_eq_true]
  refine ⟨l[0], List.getElem_mem _, ?_⟩
  rw [List.contains_iff_mem]
  exact List.getElem_mem _
theorem new_hyp {d : List Int} (h : Gr.chk d = 0) {l : List Q.S80} (hl : (l.length : Int) = Gr.cnt d) (hs : ∀ x ∈ l, Q.St.sw x) : ∃ k, Q.shape_Check.f d = some 0 ∧ Q.shape_Count.f k d = some (Gr.cnt d) ∧ (l.length : Int) = Gr.cnt d ∧ Q.view_Whole.f k d = some (0, d, Gr.stp d) ∧ 1 ≤ l.length ∧ l.length ≤ 64 ∧ Q.store_copies.f k l = some l := by
  obtain ⟨K1, h1⟩ := t_countE d
  obtain ⟨K2, h2⟩ := t_wholeE h
  have hb := t_cnt h
  refine ⟨K1 + K2 + l.length + 1, by show some _ = _; rw [h], h1 _ (by omega), hl, h2 _ (by omega), by omega, by omega, Q.St.copies_f _ (by omega) hs (by omega)⟩
theorem TensorNil_walk (W : World) (A0 : Option Addr) (c0 : Nat) (d : List Int) (hr0 : Kd.C (Kd.int .i64) W A0 d.length d) (hc0 : d.length ≤ c0) (ok0 : ∀ x ∈ d, (Lit.int .i64 x).wf = true) (A1 : Option Addr) (c1 : Nat) (l : List Q.S80) (hr1 : Kd.C Q.k80 W A1 l.length l) (hc1 : l.length ≤ c1) (ok1 : ∀ x ∈ l, Q.ok80 x) (o : Int) (oko : (Lit.int .i64 o).wf = true) (A2 : Option Addr) (c2 : Nat) (dv : List Int) (hr2 : Kd.C (Kd.int .i64) W A2 dv.length dv) (hc2 : dv.length ≤ c2) (ok2 : ∀ x ∈ dv, (Lit.int .i64 x).wf = true) (A3 : Option Addr) (c3 : Nat) (sv : List Int) (hr3 : Kd.C (Kd.int .i64) W A3 sv.length sv) (hc3 : sv.length ≤ c3) (ok3 : ∀ x ∈ sv, (Lit.int .i64 x).wf = true) :
    Calls Try.prog 4 #[.agg #[.slice A0 d.length c0, .slice A1 l.length c1], .agg #[.int .i64 o, .slice A2 dv.length c2, .slice A3 sv.length c3]] W fun e W' => e = .returned (.bool true) ∧ Below W.heap.size W W' := by
  obtain ⟨ba, ha, hs⟩ := Q.Tn.args_f d l
  cases ba with
  | true => exact Q.Tn.nil_A W A0 c0 d hr0 hc0 A1 c1 l hr1 hc1 o A2 c2 dv hr2 hc2 A3 c3 sv hr3 hc3 ha
  | false =>
  obtain ⟨bm, hm, _⟩ := Q.Tn.many22 o dv sv
  cases bm with
  | true => exact Q.Tn.nil_B W A0 c0 d hr0 hc0 A1 c1 l hr1 hc1 o A2 c2 dv hr2 hc2 A3 c3 sv hr3 hc3 ha hm
  | false =>
  obtain ⟨h20, h100, hsw⟩ := hs rfl
  by_cases hk : Gr.chk d = 0
  · obtain ⟨k1, hk1⟩ := t_count d
    have hck : Q.shape_Check.f d = some 0 := by show some _ = _; rw [hk]
    by_cases hl : (l.length : Int) = Gr.cnt d
    · obtain ⟨k, hyp⟩ := new_hyp hk hl hsw
      obtain ⟨k2, hk2⟩ := t_meet 0 d (Gr.stp d) 0 d (Gr.stp d)
      rw [any_self ((t_pos 0 d (Gr.stp d) 64).2 (t_whole_rgt hk))] at hk2
      exact Q.Tn.nil_D W A0 c0 d hr0 hc0 A1 c1 l hr1 hc1 o A2 c2 dv hr2 hc2 A3 c3 sv hr3 hc3 ha hm k k2 _ _ hyp hk2
    · exact Q.Tn.nil_C W A0 c0 d hr0 hc0 A1 c1 l hr1 hc1 o A2 c2 dv hr2 hc2 A3 c3 sv hr3 hc3 ha hm 1 (Or.inr ⟨rfl, hck, k1, _, hk1, hl⟩)
  · exact Q.Tn.nil_C W A0 c0 d hr0 hc0 A1 c1 l hr1 hc1 o A2 c2 dv hr2 hc2 A3 c3 sv hr3 hc3 ha hm (Gr.chk d) (Or.inl ⟨rfl, hk⟩)
end Go.Proofs.Ytmhikecbajkonaa.Pure
