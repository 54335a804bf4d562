/- Texts of the proof of TensorActs, part 4: what functions of the program compute, and that they compute it. -/
import Derived.Test.YtmhikecbajkonaaWordsMore
import Derived.LaidEqlPtr
import Derived.Deep.Slices
import Derived.Test.YtmhikecbajkonaaKTensorActs3
namespace Gr
/-- How many elements dims have; 0, if they may not be. -/
def cnt (d : List Int) : Int := if chk d = 0 then prod d else 0
/-- Products of what stands behind. -/
def stp : List Int → List Int
  | [] => []
  | _ :: l => prod l :: stp l
def steps (d : List Int) : List Int := if chk d = 0 then stp d else []
theorem chk_ok {d : List Int} (h : chk d = 0) : d.length ≤ 6 ∧ (∀ x ∈ d, 1 ≤ x) ∧ prod d ≤ 64 := by
  unfold chk at h
  split at h
  · omega
  · rename_i h6
    split at h
    · omega
    · rename_i h1
      split at h
      · omega
      · rename_i h2
        refine ⟨by omega, fun x hx => ?_, by omega⟩
        rw [Bool.not_eq_true, List.any_eq_false] at h1
        have := h1 x hx
        simp at this
        omega
theorem ok_chk {d : List Int} (h6 : d.length ≤ 6) (h1 : ∀ x ∈ d, 1 ≤ x) (h2 : prod d ≤ 64) : chk d = 0 := by
  unfold chk
  rw [if_neg (by omega), if_neg, if_neg (by omega)]
  rw [Bool.not_eq_true, List.any_eq_false]
  intro x hx
  have := h1 x hx
  simp
  omega
theorem ok_le {d : List Int} (h : chk d = 0) : ∀ x ∈ d, x ≤ 64 := by
  obtain ⟨_, h1, h2⟩ := chk_ok h
  intro x hx
  obtain ⟨a, b, rfl⟩ := List.append_of_mem hx
  rw [prod_append] at h2
  simp only [prod] at h2
  have ha := prod_pos a (fun y hy => h1 y (by simp [hy]))
  have hb := prod_pos b (fun y hy => h1 y (by simp [hy]))
  have hx1 := h1 x (by simp)
  have h3 : 1 * (x * prod b) ≤ prod a * (x * prod b) := Int.mul_le_mul_of_nonneg_right ha (Int.mul_nonneg (by omega) (by omega))
  have h4 : x * 1 ≤ x * prod b := Int.mul_le_mul_of_nonneg_left hb (by omega)
  omega
theorem ok_drop {d : List Int} (h : chk d = 0) (i : Nat) : chk (d.drop i) = 0 := by
  obtain ⟨h6, h1, h2⟩ := chk_ok h
  refine ok_chk (by simp; omega) (fun x hx => h1 x (List.mem_of_mem_drop hx)) ?_
  have e : prod d = prod (d.take i) * prod (d.drop i) := by rw [← prod_append, List.take_append_drop]
  have ha := prod_pos (d.take i) (fun y hy => h1 y (List.mem_of_mem_take hy))
  have hb := prod_pos (d.drop i) (fun y hy => h1 y (List.mem_of_mem_drop hy))
  have h3 : 1 * prod (d.drop i) ≤ prod (d.take i) * prod (d.drop i) := Int.mul_le_mul_of_nonneg_right ha (by omega)
  omega
theorem ok_take {d : List Int} (h : chk d = 0) (i : Nat) : chk (d.take i) = 0 := by
  obtain ⟨h6, h1, h2⟩ := chk_ok h
  have := prod_take_le d h1 i
  exact ok_chk (by simp; omega) (fun x hx => h1 x (List.mem_of_mem_take hx)) (by omega)
theorem cnt_ok {d : List Int} (h : chk d = 0) : cnt d = prod d ∧ 1 ≤ cnt d ∧ cnt d ≤ 64 := by
  obtain ⟨h6, h1, h2⟩ := chk_ok h
  have := prod_pos d h1
  unfold cnt
  rw [if_pos h]
  exact ⟨rfl, this, h2⟩
theorem stp_length (d : List Int) : (stp d).length = d.length := by
  induction d with
  | nil => rfl
  | cons x d ih => simp [stp, ih]
/-- The place of the n-th element. -/
def dig : List Int → Int → List Int
  | [], _ => []
  | x :: l, n => n / prod l % x :: dig l n
/-- The number of a place. -/
def num : List Int → List Int → Int
  | _ :: d, a :: r => a * prod d + num d r
  | _, _ => 0
/-- Is it a place of these dims? -/
def inb : List Int → List Int → Bool
  | [], [] => true
  | x :: d, a :: r => decide (0 ≤ a) && decide (a < x) && inb d r
  | _, _ => false
def att (d : List Int) (n : Int) : List Int × Bool := if 0 ≤ n ∧ n < cnt d then (dig d n, true) else ([], false)
def alls (d : List Int) : List (List Int) := if chk d = 0 then (List.range (prod d).toNat).map fun n : Nat => dig d (n : Int) else []
theorem dig_length (d : List Int) (n : Int) : (dig d n).length = d.length := by
  induction d with
  | nil => rfl
  | cons x d ih => simp [dig, ih]
theorem num_dig (d : List Int) (h : ∀ x ∈ d, 1 ≤ x) (n : Int) : num d (dig d n) = n % prod d := by
  induction d with
  | nil => simp [num, prod, Int.emod_one]
  | cons x d ih =>
    have hx := h x (by simp)
    have hp := prod_pos d (fun y hy => h y (by simp [hy]))
    simp only [num, dig, prod]
    rw [ih (fun y hy => h y (by simp [hy]))]
    have e1 : x * prod d = prod d * x := Int.mul_comm ..
    have h1 := Int.emod_add_mul_ediv n (prod d)
    have h2 := Int.emod_add_mul_ediv (n / prod d) x
    have h3 : n = (n / prod d % x * prod d + n % prod d) + (x * prod d) * (n / prod d / x) := by
      have : prod d * (n / prod d) = prod d * (n / prod d % x) + prod d * (x * (n / prod d / x)) := by rw [← Int.mul_add, h2]
      rw [show (x * prod d) * (n / prod d / x) = prod d * (x * (n / prod d / x)) by rw [e1, Int.mul_assoc], Int.mul_comm (n / prod d % x)]
      omega
    have b1 := Int.emod_nonneg (n / prod d) (show x ≠ 0 by omega)
    have b2 := Int.emod_lt_of_pos (n / prod d) (show 0 < x by omega)
    have b3 := Int.emod_nonneg n (show prod d ≠ 0 by omega)
    have b4 := Int.emod_lt_of_pos n (show 0 < prod d by omega)
    have b5 : 0 ≤ n / prod d % x * prod d := Int.mul_nonneg b1 (by omega)
    have b6 : (n / prod d % x + 1) * prod d ≤ x * prod d := Int.mul_le_mul_of_nonneg_right (by omega) (by omega)
    rw [Int.add_mul] at b6
    have h4 := Int.add_mul_emod_self_left (n / prod d % x * prod d + n % prod d) (x * prod d) (n / prod d / x)
    rw [← h3] at h4
    rw [h4]
    exact (Int.emod_eq_of_lt (by omega) (by omega)).symm
theorem num_dig_lt (d : List Int) (h : ∀ x ∈ d, 1 ≤ x) (n : Int) (h0 : 0 ≤ n) (h1 : n < prod d) : num d (dig d n) = n := by
  rw [num_dig d h n, Int.emod_eq_of_lt h0 h1]
theorem inb_dig (d : List Int) (h : ∀ x ∈ d, 1 ≤ x) (n : Int) : inb d (dig d n) = true := by
  induction d with
  | nil => rfl
  | cons x d ih =>
    have hx := h x (by simp)
    simp only [inb, dig]
    rw [ih (fun y hy => h y (by simp [hy]))]
    have b1 := Int.emod_nonneg (n / prod d) (show x ≠ 0 by omega)
    have b2 := Int.emod_lt_of_pos (n / prod d) (show 0 < x by omega)
    simp [b1, b2]
theorem inb_length {d r : List Int} (h : inb d r = true) : r.length = d.length := by
  induction d generalizing r with
  | nil => cases r <;> simp_all [inb]
  | cons x d ih =>
    cases r with
    | nil => simp [inb] at h
    | cons a r =>
      simp only [inb, Bool.and_eq_true] at h
      simp [ih h.2]
theorem num_lt (d r : List Int) (h : ∀ x ∈ d, 1 ≤ x) (hi : inb d r = true) : 0 ≤ num d r ∧ num d r < prod d := by
  induction d generalizing r with
  | nil => cases r <;> simp [num, prod]
  | cons x d ih =>
    cases r with
    | nil => simp [inb] at hi
    | cons a r =>
      simp only [inb, Bool.and_eq_true, decide_eq_true_eq] at hi
      obtain ⟨i1, i2⟩ := ih r (fun y hy => h y (by simp [hy])) hi.2
      have hp := prod_pos d (fun y hy => h y (by simp [hy]))
      simp only [num, prod]
      have b5 : 0 ≤ a * prod d := Int.mul_nonneg hi.1.1 (by omega)
      have b6 : (a + 1) * prod d ≤ x * prod d := Int.mul_le_mul_of_nonneg_right (by omega) (by omega)
      rw [Int.add_mul] at b6
      omega
theorem dig_add (d : List Int) (h : ∀ x ∈ d, 1 ≤ x) (a m : Int) : dig d (a * prod d + m) = dig d m := by
  induction d generalizing a with
  | nil => rfl
  | cons y d ih =>
    have hy := h y (by simp)
    have hp := prod_pos d (fun z hz => h z (by simp [hz]))
    simp only [dig, prod]
    rw [show a * (y * prod d) = (a * y) * prod d by rw [Int.mul_assoc]]
    rw [ih (fun z hz => h z (by simp [hz])) (a * y)]
    rw [Int.add_comm ((a * y) * prod d) m, Int.add_mul_ediv_right _ _ (by omega), Int.mul_comm a y, Int.add_mul_emod_self_left]
theorem dig_num (d r : List Int) (h : ∀ x ∈ d, 1 ≤ x) (hi : inb d r = true) : dig d (num d r) = r := by
  induction d generalizing r with
  | nil => cases r <;> simp_all [inb, dig]
  | cons x d ih =>
    cases r with
    | nil => simp [inb] at hi
    | cons a r =>
      simp only [inb, Bool.and_eq_true, decide_eq_true_eq] at hi
      have hd : ∀ y ∈ d, 1 ≤ y := fun y hy => h y (by simp [hy])
      obtain ⟨i1, i2⟩ := num_lt d r hd hi.2
      have hp := prod_pos d hd
      simp only [num, dig]
      rw [dig_add d hd, ih r hd hi.2]
      rw [Int.add_comm, Int.add_mul_ediv_right _ _ (by omega), Int.ediv_eq_zero_of_lt i1 i2, Int.zero_add, Int.emod_eq_of_lt hi.1.1 hi.1.2]
theorem dig_snoc (p : List Int) (x : Int) (h : ∀ y ∈ p, 1 ≤ y) (hx : 1 ≤ x) (m : Int) : dig (p ++ [x]) m = dig p (m / x) ++ [m % x] := by
  induction p with
  | nil => simp [dig, prod]
  | cons y p ih =>
    simp only [List.cons_append, dig]
    rw [ih (fun z hz => h z (by simp [hz])), prod_append]
    simp only [prod, Int.mul_one]
    rw [Int.mul_comm (prod p) x, Int.ediv_ediv, if_neg (by omega), Int.sub_zero]
theorem range_mul {α : Type} (f : Nat → α) (P X : Nat) : (List.range (P * X)).map f = (List.range P).flatMap fun n => (List.range X).map fun v => f (n * X + v) := by
  induction P with
  | zero => simp
  | succ P ih =>
    rw [List.range_succ, List.flatMap_append, ← ih, Nat.succ_mul, List.range_add, List.map_append, List.map_map]
    simp only [List.flatMap_cons, List.flatMap_nil, List.append_nil]
    rfl
/-- All places of a prefix. -/
def pre (p : List Int) : List (List Int) := (List.range (prod p).toNat).map fun n : Nat => dig p (n : Int)
theorem pre_nil : pre [] = [[]] := by decide
theorem pre_snoc (p : List Int) (x : Int) (h : ∀ y ∈ p, 1 ≤ y) (hx : 1 ≤ x) : pre (p ++ [x]) = (pre p).flatMap fun q => (List.range x.toNat).map fun v : Nat => q ++ [(v : Int)] := by
  have hp := prod_pos p h
  unfold pre
  rw [prod_append]
  simp only [prod, Int.mul_one]
  rw [Int.toNat_mul (by omega) (by omega), range_mul, List.flatMap_map]
  congr 1
  funext n
  apply List.map_congr_left
  intro v hv
  rw [List.mem_range] at hv
  rw [dig_snoc p x h hx]
  have e : ((n * x.toNat + v : Nat) : Int) = (v : Int) + (n : Int) * x := by
    rw [Int.natCast_add, Int.natCast_mul, Int.toNat_of_nonneg (by omega)]; omega
  rw [e, Int.add_mul_ediv_right _ _ (by omega), Int.ediv_eq_zero_of_lt (by omega) (by omega), Int.zero_add, Int.add_mul_emod_self_right, Int.emod_eq_of_lt (by omega) (by omega)]
theorem pre_length (p : List Int) : (pre p).length = (prod p).toNat := by simp [pre]
theorem alls_ok {d : List Int} (h : chk d = 0) : alls d = pre d := by unfold alls; rw [if_pos h]; rfl
theorem alls_length (d : List Int) : ((alls d).length : Int) = cnt d := by
  unfold alls cnt
  split
  · rename_i h
    have := prod_pos d (chk_ok h).2.1
    simp; omega
  · rfl
theorem alls_get (d : List Int) (n : Nat) (h : n < (alls d).length) : (alls d)[n] = dig d (n : Int) := by
  unfold alls at h ⊢
  split
  · simp
  · rename_i hc; rw [if_neg hc] at h; simp at h
theorem inb_dropn (d r : List Int) (h : inb d r = true) (i : Nat) : inb (d.drop i) (r.drop i) = true := by
  induction i generalizing d r with
  | zero => simpa using h
  | succ i ih =>
    cases d with
    | nil => cases r <;> simp_all [inb]
    | cons x d =>
      cases r with
      | nil => simp [inb] at h
      | cons a r =>
        simp only [inb, Bool.and_eq_true] at h
        simpa using ih d r h.2
/-- How far a place lies from a view's first element. -/
def ofs : List Int → List Int → Int
  | a :: p, t :: s => a * t + ofs p s
  | _, _ => 0
/-- Are the steps such as may be in a room? -/
def sok (room : Int) : List Int → List Int → Bool
  | x :: d, t :: s => (decide (x ≤ 1) || (decide (-room < t) && decide (t < room))) && sok room d s
  | _, _ => true
def low : List Int → List Int → Int
  | x :: d, t :: s => (if (x - 1) * t < 0 then (x - 1) * t else 0) + low d s
  | _, _ => 0
def hgh : List Int → List Int → Int
  | x :: d, t :: s => (if (x - 1) * t < 0 then 0 else (x - 1) * t) + hgh d s
  | _, _ => 0
/-- All but the range of the cells. -/
abbrev vok (o : Int) (d s : List Int) (room : Int) : Prop := chk d = 0 ∧ s.length = d.length ∧ room ≤ 64 ∧ 0 ≤ o ∧ o < room ∧ sok room d s = true
def rgt (o : Int) (d s : List Int) (room : Int) : Bool := decide (vok o d s room) && decide (0 ≤ o + low d s) && decide (o + hgh d s < room)
def cls (o : Int) (d s : List Int) (room : Int) : List Int := if rgt o d s room = true then (alls d).map fun p => o + ofs p s else []
/-- The n-th element's cell. -/
def vat (o : Int) (d s : List Int) (n : Int) : Int × Bool := if rgt o d s 64 = true ∧ 0 ≤ n ∧ n < cnt d then (o + ofs (dig d n) s, true) else (0, false)
def rws : List Int → List Int → Bool
  | x :: d, t :: s => rws d s && (decide (x ≤ 1) || decide (t = prod d))
  | _, _ => true
theorem mem_alls {d : List Int} (h : chk d = 0) {p : List Int} : p ∈ alls d ↔ inb d p = true := by
  obtain ⟨h6, h1, h2⟩ := chk_ok h
  rw [alls_ok h]
  unfold pre
  rw [List.mem_map]
  constructor
  · rintro ⟨n, _, rfl⟩; exact inb_dig d h1 _
  · intro hi
    obtain ⟨q1, q2⟩ := num_lt d p h1 hi
    refine ⟨(num d p).toNat, ?_, ?_⟩
    · rw [List.mem_range]; omega
    · rw [Int.toNat_of_nonneg q1]; exact dig_num d p h1 hi
theorem mul_between {a x t : Int} (h0 : 0 ≤ a) (h1 : a ≤ x - 1) : (if (x - 1) * t < 0 then (x - 1) * t else 0) ≤ a * t ∧ a * t ≤ (if (x - 1) * t < 0 then 0 else (x - 1) * t) := by
  rcases Int.lt_or_le t 0 with ht | ht
  · have e1 : (x - 1) * t ≤ a * t := Int.mul_le_mul_of_nonpos_right h1 (by omega)
    have e2 : a * t ≤ 0 := Int.mul_nonpos_of_nonneg_of_nonpos h0 (by omega)
    split <;> omega
  · have e1 : a * t ≤ (x - 1) * t := Int.mul_le_mul_of_nonneg_right h1 ht
    have e2 : 0 ≤ a * t := Int.mul_nonneg h0 ht
    split <;> omega
theorem ofs_between (d s p : List Int) (hi : inb d p = true) : low d s ≤ ofs p s ∧ ofs p s ≤ hgh d s := by
  induction d generalizing s p with
  | nil => cases p <;> simp_all [inb, ofs, low, hgh]
  | cons x d ih =>
    cases p with
    | nil => simp [inb] at hi
    | cons a p =>
      simp only [inb, Bool.and_eq_true, decide_eq_true_eq] at hi
      cases s with
      | nil => simp [ofs, low, hgh]
      | cons t s =>
        obtain ⟨i1, i2⟩ := ih s p hi.2
        obtain ⟨j1, j2⟩ := mul_between (t := t) hi.1.1 (show a ≤ x - 1 by omega)
        simp only [ofs, low, hgh]
        omega
/-- The place of the lowest cell, and that of the highest one. -/
def lop : List Int → List Int → List Int
  | x :: d, t :: s => (if (x - 1) * t < 0 then x - 1 else 0) :: lop d s
  | _ :: d, [] => 0 :: lop d []
  | [], _ => []
def hip : List Int → List Int → List Int
  | x :: d, t :: s => (if (x - 1) * t < 0 then 0 else x - 1) :: hip d s
  | _ :: d, [] => 0 :: hip d []
  | [], _ => []
theorem lop_ok (d s : List Int) (h : ∀ x ∈ d, 1 ≤ x) : inb d (lop d s) = true ∧ ofs (lop d s) s = low d s := by
  induction d generalizing s with
  | nil => simp [lop, inb, ofs, low]
  | cons x d ih =>
    have hx := h x (by simp)
    cases s with
    | nil =>
      obtain ⟨i1, _⟩ := ih [] (fun y hy => h y (by simp [hy]))
      refine ⟨?_, by simp [lop, ofs, low]⟩
      simp [lop, inb, i1]; omega
    | cons t s =>
      obtain ⟨i1, i2⟩ := ih s (fun y hy => h y (by simp [hy]))
      simp only [lop, inb, ofs, low, i1, i2, Bool.and_true, Bool.and_eq_true, decide_eq_true_eq]
      split
      · exact ⟨⟨by omega, by omega⟩, rfl⟩
      · exact ⟨⟨by omega, by omega⟩, by simp⟩
theorem hip_ok (d s : List Int) (h : ∀ x ∈ d, 1 ≤ x) : inb d (hip d s) = true ∧ ofs (hip d s) s = hgh d s := by
  induction d generalizing s with
  | nil => simp [hip, inb, ofs, hgh]
  | cons x d ih =>
    have hx := h x (by simp)
    cases s with
    | nil =>
      obtain ⟨i1, _⟩ := ih [] (fun y hy => h y (by simp [hy]))
      refine ⟨?_, by simp [hip, ofs, hgh]⟩
      simp [hip, inb, i1]; omega
    | cons t s =>
      obtain ⟨i1, i2⟩ := ih s (fun y hy => h y (by simp [hy]))
      simp only [hip, inb, ofs, hgh, i1, i2, Bool.and_true, Bool.and_eq_true, decide_eq_true_eq]
      split
      · exact ⟨⟨by omega, by omega⟩, by simp⟩
      · exact ⟨⟨by omega, by omega⟩, rfl⟩
/-- All cells lie in the room just where the lowest and the highest do. -/
theorem range_iff {d : List Int} (h : chk d = 0) (o room : Int) (s : List Int) : (∀ p ∈ alls d, 0 ≤ o + ofs p s ∧ o + ofs p s < room) ↔ 0 ≤ o + low d s ∧ o + hgh d s < room := by
  have h1 := (chk_ok h).2.1
  constructor
  · intro ha
    obtain ⟨l1, l2⟩ := lop_ok d s h1
    obtain ⟨u1, u2⟩ := hip_ok d s h1
    have a1 := ha _ ((mem_alls h).2 l1)
    have a2 := ha _ ((mem_alls h).2 u1)
    rw [l2] at a1; rw [u2] at a2
    exact ⟨a1.1, a2.2⟩
  · rintro ⟨hl, hh⟩ p hp
    obtain ⟨i1, i2⟩ := ofs_between d s p ((mem_alls h).1 hp)
    omega
theorem rgt_iff {o : Int} {d s : List Int} {room : Int} (hv : vok o d s room) : rgt o d s room = true ↔ ∀ p ∈ alls d, 0 ≤ o + ofs p s ∧ o + ofs p s < room := by
  rw [range_iff hv.1]
  unfold rgt
  simp [hv]
theorem rgt_ok {o : Int} {d s : List Int} {room : Int} (h : rgt o d s room = true) : vok o d s room ∧ 0 ≤ o + low d s ∧ o + hgh d s < room := by
  unfold rgt at h
  simpa [and_assoc] using h
theorem sok_mono {r r' : Int} (hr : r ≤ r') : ∀ d s : List Int, sok r d s = true → sok r' d s = true
  | x :: d, t :: s, h => by
    simp only [sok, Bool.and_eq_true, Bool.or_eq_true, decide_eq_true_eq] at h ⊢
    exact ⟨h.1.imp_right (fun h => ⟨by omega, by omega⟩), sok_mono hr d s h.2⟩
  | [], _, _ => by simp [sok]
  | _ :: _, [], _ => by simp [sok]
theorem sok_get {r : Int} {d s : List Int} (h : sok r d s = true) : ∀ i, (hd : i < d.length) → (hs : i < s.length) → d[i] ≤ 1 ∨ (-r < s[i] ∧ s[i] < r) := by
  induction d generalizing s with
  | nil => intro i hd; simp at hd
  | cons x d ih =>
    cases s with
    | nil => intro i _ hs; simp at hs
    | cons t s =>
      simp only [sok, Bool.and_eq_true, Bool.or_eq_true, decide_eq_true_eq] at h
      intro i hd hs
      cases i with
      | zero => exact h.1
      | succ i => exact ih h.2 i (by simpa using hd) (by simpa using hs)
theorem cls_ok {o : Int} {d s : List Int} {room : Int} (h : rgt o d s room = true) : cls o d s room = (alls d).map fun p => o + ofs p s := by unfold cls; rw [if_pos h]
theorem cls_none {o : Int} {d s : List Int} {room : Int} (h : ¬ rgt o d s room = true) : cls o d s room = [] := by unfold cls; rw [if_neg h]
theorem cls_length (o : Int) (d s : List Int) (room : Int) : ((cls o d s room).length : Int) = if rgt o d s room = true then cnt d else 0 := by
  unfold cls
  split
  · rw [List.length_map, alls_length]
  · rfl
theorem cls_pos (o : Int) (d s : List Int) (room : Int) : (0 < (cls o d s room).length) ↔ rgt o d s room = true := by
  have := cls_length o d s room
  constructor
  · intro h; apply Decidable.byContradiction; intro hc; rw [if_neg hc] at this; omega
  · intro h; rw [if_pos h] at this; have := (cnt_ok (rgt_ok h).1.1).2.1; omega
theorem cls_get {o : Int} {d s : List Int} {room : Int} (h : rgt o d s room = true) (n : Nat) (hn : n < (cls o d s room).length) : (cls o d s room)[n] = o + ofs (dig d (n : Int)) s := by
  have e := cls_ok h
  have hn' : n < (alls d).length := by rw [e, List.length_map] at hn; exact hn
  have : (cls o d s room)[n] = ((alls d).map fun p => o + ofs p s)[n]'(by rw [List.length_map]; exact hn') := by simp only [e]
  rw [this, List.getElem_map, alls_get d n hn']
theorem stp_low (d : List Int) (h : ∀ x ∈ d, 1 ≤ x) : low d (stp d) = 0 ∧ hgh d (stp d) = prod d - 1 ∧ rws d (stp d) = true := by
  induction d with
  | nil => simp [low, hgh, rws, prod]
  | cons x d ih =>
    obtain ⟨i1, i2, i3⟩ := ih (fun y hy => h y (by simp [hy]))
    have hx := h x (by simp)
    have hp := prod_pos d (fun y hy => h y (by simp [hy]))
    have h0 : 0 ≤ (x - 1) * prod d := Int.mul_nonneg (by omega) (by omega)
    simp only [stp, low, hgh, rws, prod, i1, i2, i3]
    rw [if_neg (by omega), if_neg (by omega)]
    refine ⟨rfl, ?_, by simp⟩
    rw [Int.sub_mul]; omega
theorem stp_sok (d : List Int) (h : ∀ x ∈ d, 1 ≤ x) (hp64 : prod d ≤ 64) : sok 64 d (stp d) = true := by
  induction d with
  | nil => rfl
  | cons x d ih =>
    have hx := h x (by simp)
    have hp := prod_pos d (fun y hy => h y (by simp [hy]))
    simp only [prod] at hp64
    have hle : 1 * prod d ≤ x * prod d := Int.mul_le_mul_of_nonneg_right hx (by omega)
    simp only [stp, sok, Bool.and_eq_true, Bool.or_eq_true, decide_eq_true_eq]
    refine ⟨?_, ih (fun y hy => h y (by simp [hy])) (by omega)⟩
    rcases Int.lt_or_le 1 x with hx2 | hx2
    · have hle2 : 2 * prod d ≤ x * prod d := Int.mul_le_mul_of_nonneg_right (by omega) (by omega)
      right; omega
    · left; exact hx2
theorem whole_rgt {d : List Int} (h : chk d = 0) : rgt 0 d (stp d) 64 = true := by
  obtain ⟨h6, h1, h2⟩ := chk_ok h
  obtain ⟨i1, i2, i3⟩ := stp_low d h1
  unfold rgt vok
  simp [h, stp_length, stp_sok d h1 h2, i1, i2]
  omega
theorem ofs_stp (d p : List Int) (hp : p.length = d.length) : ofs p (stp d) = num d p := by
  induction d generalizing p with
  | nil => cases p <;> simp_all [ofs, num]
  | cons x d ih =>
    cases p with
    | nil => simp at hp
    | cons a p => simp only [stp, ofs, num]; rw [ih p (by simpa using hp)]
/-- How often each of 64 cells is one of these. -/
def tal (l : List Int) : List Int := (List.range 64).map fun i : Nat => (l.count (i : Int) : Int)
theorem tal_length (l : List Int) : (tal l).length = 64 := by simp [tal]
theorem tal_at (l : List Int) (i : Nat) (h : i < 64) : (tal l)[i]'(by rw [tal_length]; exact h) = (l.count (i : Int) : Int) := by simp [tal]
end Gr
namespace Go.Proofs.Ytmhikecbajkonaa.S
open Go.RowKit Go.Proofs.Ytmhikecbajkonaa.Q Go.Proofs.YtmhikecbajkonaaW.PrintWords Go.Proofs.YtmhikecbajkonaaW.PrintLast Go.Proofs.YtmhikecbajkonaaW.PrintMore
set_option linter.unusedVariables false
set_option linter.unusedSimpArgs false
theorem w64 {x : Int} (h0 : -9223372036854775808 ≤ x) (h1 : x ≤ 9223372036854775807) : wrap64 x = x := by
  unfold wrap64; omega
theorem down (P : Nat → Prop) (n : Nat) (h0 : P n) (hs : ∀ i, i < n → P (i + 1) → P i) : ∀ i, i ≤ n → P i := by
  intro i hi
  obtain ⟨d, rfl⟩ : ∃ d, n = i + d := ⟨n - i, by omega⟩
  clear hi
  induction d generalizing i with
  | zero => exact h0
  | succ d ih =>
    apply hs i (by omega)
    exact ih (i + 1) (by rw [show i + 1 + d = i + (d + 1) by omega]; exact h0) (fun j hj hp => hs j (by omega) hp)
theorem rdg (l : List Int) (i : Nat) (h : i < l.length) : rd l (i : Int) = l[i] := by
  simp [rd, List.getD_eq_getElem?_getD, List.getElem?_eq_getElem h]
theorem dropc (l : List Int) (i : Nat) (h : i < l.length) : l.drop i = rd l (i : Int) :: l.drop (i + 1) := by
  rw [rdg l i h]; exact (List.drop_eq_getElem_cons h)
theorem nx (i n : Nat) (h : i < n) (hn : n ≤ 1000000000) : wrap64 ((i : Int) + 1) = ((i + 1 : Nat) : Int) := by
  rw [w64 (by omega) (by omega)]; omega
theorem ints_l (a b : List Int) (hl : a.length = b.length) (hn : a.length ≤ 1000000000) : ∀ i, i ≤ a.length →
    Ev (fun k => gradineplain_Ints.l0 k a b (a.length : Int) (i : Int)) (decide (a.drop i = b.drop i)) := by
  apply down
  · refine Ev.step (f := fun _ => some true) (fun k => ?_) ?_
    · rw [gradineplain_Ints.l0, if_neg (by omega)]
    · rw [List.drop_length, hl, List.drop_length]; exact Ev.now true
  · intro i hi ih
    rw [dropc a i hi, dropc b i (by omega)]
    by_cases e : rd a (i : Int) = rd b (i : Int)
    · rw [show decide (rd a (i : Int) :: a.drop (i + 1) = rd b (i : Int) :: b.drop (i + 1)) = decide (a.drop (i + 1) = b.drop (i + 1)) by simp [e]]
      refine Ev.step (fun k => ?_) ih
      rw [gradineplain_Ints.l0, if_pos (by omega), if_pos (by omega), if_pos (by omega), if_pos (by omega), if_pos e, nx i _ hi hn]
    · rw [show decide (rd a (i : Int) :: a.drop (i + 1) = rd b (i : Int) :: b.drop (i + 1)) = false by simp [e]]
      refine Ev.step (fun k => ?_) (Ev.now false)
      rw [gradineplain_Ints.l0, if_pos (by omega), if_pos (by omega), if_pos (by omega), if_pos (by omega), if_neg e]
theorem ints (a b : List Int) (hn : a.length ≤ 1000000000) : Ev (fun k => gradineplain_Ints.f k a b) (decide (a = b)) := by
  by_cases hl : a.length = b.length
  · refine Ev.congr (fun k => ?_) (by have := ints_l a b hl hn 0 (by omega); simpa using this)
    rw [gradineplain_Ints.f, if_pos (by omega)]
  · rw [show decide (a = b) = false from decide_eq_false (fun e => hl (by rw [e]))]
    refine Ev.congr (fun k => ?_) (Ev.now false)
    rw [gradineplain_Ints.f, if_neg (by omega)]
theorem ints_eq {a b : List Int} (h : a = b) (hn : a.length ≤ 1000000000) : Ev (fun k => gradineplain_Ints.f k a b) true := by
  have := ints a b hn
  rwa [show decide (a = b) = true by simp [h]] at this
theorem shape_check (d : List Int) : shape_Check.f d = some (Gr.chk d) := rfl
theorem check_1 (d : List Int) (hok : ∀ x ∈ d, 1 ≤ x) (hn : d.length ≤ 6) : ∀ i, i ≤ d.length → Gr.prod (d.take i) ≤ 64 →
    Ev (fun k => gradineref19_Check.l1 k d (Gr.prod (d.take i)) (d.length : Int) (i : Int)) (if 64 < Gr.prod d then 12 else 0) := by
  apply down
  · intro h
    rw [List.take_length] at h ⊢
    rw [if_neg (by omega)]
    refine Ev.step (fun k => ?_) (Ev.now 0)
    rw [gradineref19_Check.l1, if_neg (by omega)]
  · intro i hi ih h
    have hp := Gr.prod_pos (d.take i) (fun x hx => hok x (List.mem_of_mem_take hx))
    have hs := Gr.prod_take_succ d i hi
    have h1 : 1 ≤ d[i] := hok _ (List.getElem_mem hi)
    have hle := Gr.prod_take_le d hok (i + 1)
    have hge : d[i] ≤ Gr.prod (d.take i) * d[i] := by
      have : 1 * d[i] ≤ Gr.prod (d.take i) * d[i] := Int.mul_le_mul_of_nonneg_right hp (by omega)
      omega
    by_cases e : 64 < d[i]
    · rw [if_pos (by omega)]
      refine Ev.step (fun k => ?_) (Ev.now 12)
      rw [gradineref19_Check.l1, if_pos (by omega), if_pos (by omega), if_pos (by omega), rdg d i hi, if_pos (by omega)]
    · have hb : Gr.prod (d.take i) * d[i] ≤ 64 * 64 := Int.mul_le_mul h (by omega) (by omega) (by omega)
      by_cases e2 : 64 < Gr.prod (d.take i) * d[i]
      · rw [if_pos (by omega)]
        refine Ev.step (fun k => ?_) (Ev.now 12)
        rw [gradineref19_Check.l1, if_pos (by omega), if_pos (by omega), if_pos (by omega), rdg d i hi, if_neg (by omega), w64 (by omega) (by omega), if_pos (by omega)]
      · refine Ev.step (fun k => ?_) (ih (by omega))
        rw [gradineref19_Check.l1, if_pos (by omega), if_pos (by omega), if_pos (by omega), rdg d i hi, if_neg (by omega), w64 (by omega) (by omega), if_neg (by omega), nx i _ hi (by omega), ← hs]
theorem check_0 (d : List Int) (hn : d.length ≤ 6) : ∀ i, i ≤ d.length → (∀ x ∈ d.take i, 1 ≤ x) →
    Ev (fun k => gradineref19_Check.l0 k d (d.length : Int) (i : Int)) (Gr.chk d) := by
  apply down
  · intro h
    rw [List.take_length] at h
    have e : Gr.chk d = if 64 < Gr.prod d then 12 else 0 := by
      unfold Gr.chk
      rw [if_neg (by omega), if_neg]
      rw [Bool.not_eq_true, List.any_eq_false]
      intro x hx
      have := h x hx
      simp; omega
    rw [e]
    refine Ev.step (fun k => ?_) (check_1 d h hn 0 (by omega) (by simp [Gr.prod]))
    rw [gradineref19_Check.l0, if_neg (by omega)]; simp [Gr.prod]
  · intro i hi ih h
    by_cases e : d[i] < 1
    · have e8 : Gr.chk d = 8 := by
        unfold Gr.chk
        rw [if_neg (by omega), if_pos]
        rw [List.any_eq_true]
        exact ⟨d[i], List.getElem_mem hi, by simpa using e⟩
      rw [e8]
      refine Ev.step (fun k => ?_) (Ev.now 8)
      rw [gradineref19_Check.l0, if_pos (by omega), if_pos (by omega), if_pos (by omega), rdg d i hi, if_pos (by omega)]
    · refine Ev.step (fun k => ?_) (ih ?_)
      · rw [gradineref19_Check.l0, if_pos (by omega), if_pos (by omega), if_pos (by omega), rdg d i hi, if_neg (by omega), nx i _ hi (by omega)]
      · intro x hx
        rw [List.take_succ_eq_append_getElem hi, List.mem_append] at hx
        rcases hx with hx | hx
        · exact h x hx
        · simp at hx; omega
theorem ref_check (d : List Int) : Ev (fun k => gradineref19_Check.f k d) (Gr.chk d) := by
  by_cases h : 6 < d.length
  · have e : Gr.chk d = 9 := by unfold Gr.chk; rw [if_pos h]
    rw [e]
    refine Ev.congr (fun k => ?_) (Ev.now 9)
    rw [gradineref19_Check.f, if_pos (by omega)]
  · refine Ev.congr (fun k => ?_) (check_0 d (by omega) 0 (by omega) (by simp))
    rw [gradineref19_Check.f, if_neg (by omega)]; rfl
theorem prod_step {d : List Int} (hok : Gr.chk d = 0) (i : Nat) (hi : i < d.length) :
    1 ≤ Gr.prod (d.take i) ∧ Gr.prod (d.take i) * d[i] = Gr.prod (d.take (i + 1)) ∧ Gr.prod (d.take (i + 1)) ≤ 64 ∧ 1 ≤ Gr.prod (d.take (i + 1)) := by
  obtain ⟨h6, h1, h2⟩ := Gr.chk_ok hok
  have := Gr.prod_take_le d h1 (i + 1)
  exact ⟨Gr.prod_pos _ (fun x hx => h1 x (List.mem_of_mem_take hx)), (Gr.prod_take_succ d i hi).symm, by omega, Gr.prod_pos _ (fun x hx => h1 x (List.mem_of_mem_take hx))⟩
theorem count_l (d : List Int) (hok : Gr.chk d = 0) : ∀ i, i ≤ d.length →
    Ev (fun k => shape_Count.l0 k (Gr.prod (d.take i)) d (d.length : Int) (i : Int)) (Gr.prod d) := by
  obtain ⟨h6, h1, h2⟩ := Gr.chk_ok hok
  apply down
  · rw [List.take_length]
    refine Ev.step (fun k => ?_) (Ev.now _)
    rw [shape_Count.l0, if_neg (by omega)]
  · intro i hi ih
    obtain ⟨p1, p2, p3, p4⟩ := prod_step hok i hi
    refine Ev.step (fun k => ?_) ih
    rw [shape_Count.l0, if_pos (by omega), if_pos (by omega), if_pos (by omega), rdg d i hi, w64 (by omega) (by omega), nx i _ hi (by omega), p2]
theorem shape_count (d : List Int) : Ev (fun k => shape_Count.f k d) (Gr.cnt d) := by
  unfold Gr.cnt
  by_cases h : Gr.chk d = 0
  · rw [if_pos h]
    refine Ev.congr (fun k => ?_) (count_l d h 0 (by omega))
    rw [shape_Count.f, shape_check, Option.bind_some, if_pos h]; simp [Gr.prod]
  · rw [if_neg h]
    refine Ev.congr (fun k => ?_) (Ev.now 0)
    rw [shape_Count.f, shape_check, Option.bind_some, if_neg h]
theorem steps_set (d x : List Int) (i : Nat) (hi : i < d.length) (hl : x.length = d.length) (hx : x.drop (i + 1) = Gr.stp (d.drop (i + 1))) :
    (x.set i (Gr.prod (d.drop (i + 1)))).drop i = Gr.stp (d.drop i) := by
  rw [List.drop_eq_getElem_cons (by simp; omega), List.drop_eq_getElem_cons hi]
  simp only [List.getElem_set_self, Gr.stp, List.cons.injEq, true_and]
  rw [List.drop_set_of_lt (by omega)]
  exact hx
theorem steps_l (d : List Int) (hok : Gr.chk d = 0) : ∀ i, i ≤ d.length → ∀ x : List Int, x.length = d.length → x.drop i = Gr.stp (d.drop i) →
    Ev (fun k => shape_Steps.l0 k d x (Gr.prod (d.drop i)) ((i : Int) - 1)) (Gr.stp d) := by
  obtain ⟨h6, h1, h2⟩ := Gr.chk_ok hok
  intro i
  induction i with
  | zero =>
    intro hi x hl hx
    simp at hx
    subst hx
    refine Ev.step (fun k => ?_) (Ev.now _)
    rw [shape_Steps.l0, if_neg (by omega)]
  | succ i ih =>
    intro hi x hl hx
    have hlt : i < d.length := by omega
    have hd : d.drop i = d[i] :: d.drop (i + 1) := List.drop_eq_getElem_cons hlt
    obtain ⟨q6, q1, q2⟩ := Gr.chk_ok (Gr.ok_drop hok i)
    have q3 := Gr.prod_pos _ q1
    have hp : Gr.prod (d.drop i) = Gr.prod (d.drop (i + 1)) * d[i] := by rw [hd]; simp only [Gr.prod]; rw [Int.mul_comm]
    refine Ev.step (fun k => ?_) (ih (by omega) (x.set i (Gr.prod (d.drop (i + 1)))) (by simp [hl]) (steps_set d x i hlt hl hx))
    rw [shape_Steps.l0, show (((i + 1 : Nat) : Int) - 1) = (i : Int) by omega, if_pos (by omega), if_pos (by omega), if_pos (by omega), if_pos (by omega), rdg d i hlt, ← hp, w64 (by omega) (by omega), w64 (by omega) (by omega), Int.toNat_natCast]
theorem shape_steps (d : List Int) : Ev (fun k => shape_Steps.f k d) (Gr.steps d) := by
  unfold Gr.steps
  by_cases h : Gr.chk d = 0
  · rw [if_pos h]
    obtain ⟨h6, h1, h2⟩ := Gr.chk_ok h
    refine Ev.congr (fun k => ?_) (steps_l d h d.length (by omega) (List.replicate d.length 0) (by simp) (by simp [Gr.stp]))
    rw [shape_Steps.f, shape_check, Option.bind_some, if_pos h, if_pos (by omega), if_pos (by simp; omega), w64 (by omega) (by omega)]
    simp [Gr.prod]
  · rw [if_neg h]
    refine Ev.congr (fun k => ?_) (Ev.now _)
    rw [shape_Steps.f, shape_check, Option.bind_some, if_neg h]
theorem has_l (l : List Int) (x : Int) (hn : l.length ≤ 1000000000) : ∀ i, i ≤ l.length →
    Ev (fun k => gradineref19_Has.l0 k l x (l.length : Int) (i : Int)) ((l.drop i).contains x) := by
  apply down
  · rw [List.drop_length]
    refine Ev.step (fun k => ?_) (Ev.now _)
    rw [gradineref19_Has.l0, if_neg (by omega)]; rfl
  · intro i hi ih
    rw [dropc l i hi, List.contains_cons]
    by_cases e : rd l (i : Int) = x
    · rw [show (x == rd l (i : Int)) = true by simp [e], Bool.true_or]
      refine Ev.step (fun k => ?_) (Ev.now true)
      rw [gradineref19_Has.l0, if_pos (by omega), if_pos (by omega), if_pos (by omega), if_pos e]
    · rw [show (x == rd l (i : Int)) = false by simp; exact fun h => e h.symm, Bool.false_or]
      refine Ev.step (fun k => ?_) ih
      rw [gradineref19_Has.l0, if_pos (by omega), if_pos (by omega), if_pos (by omega), if_neg e, nx i _ hi hn]
theorem has (l : List Int) (x : Int) (hn : l.length ≤ 1000000000) : Ev (fun k => gradineref19_Has.f k l x) (l.contains x) := by
  exact has_l l x hn 0 (by omega)
theorem ref_count_l (d : List Int) (hok : Gr.chk d = 0) : ∀ i, i ≤ d.length → Ev (fun k => gradineref19_Count.l0 k d (Gr.prod (d.take i)) (d.length : Int) (i : Int)) (Gr.prod d) := by
  obtain ⟨h6, h1, h2⟩ := Gr.chk_ok hok
  apply down
  · rw [List.take_length]
    refine Ev.step (fun k => ?_) (Ev.now _)
    rw [gradineref19_Count.l0, if_neg (by omega)]
  · intro i hi ih
    have hs := Gr.prod_take_succ d i hi
    have hle := Gr.prod_take_le d h1 (i + 1)
    have hp := Gr.prod_pos (d.take (i + 1)) (fun x hx => h1 x (List.mem_of_mem_take hx))
    rw [hs] at ih hle hp
    refine Ev.step (fun k => ?_) ih
    rw [gradineref19_Count.l0, if_pos (by omega), if_pos (by omega), if_pos (by omega), rdg d i hi, w64 (by omega) (by omega), nx i _ hi (by omega)]
theorem ref_count (d : List Int) : Ev (fun k => gradineref19_Count.f k d) (Gr.cnt d) := by
  refine Ev.congr (fun k => by rw [gradineref19_Count.f]) (Ev.bind (ref_check d) ?_)
  unfold Gr.cnt
  by_cases h : Gr.chk d = 0
  · simp only [if_pos h]
    have := ref_count_l d h 0 (by omega)
    exact this
  · simp only [if_neg h]; exact Ev.now _
theorem rdl (l : List (List Int)) (i : Nat) (h : i < l.length) : rd_L6 l (i : Int) = l[i] := by
  simp [rd_L6, List.getD_eq_getElem?_getD, List.getElem?_eq_getElem h]
theorem at_set (d x : List Int) (m : Int) (i : Nat) (hi : i < d.length) (hl : x.length = d.length) (hx : x.drop (i + 1) = Gr.dig (d.drop (i + 1)) m) :
    (x.set i (m / Gr.prod (d.drop (i + 1)) % rd d (i : Int))).drop i = Gr.dig (d.drop i) m := by
  rw [List.drop_eq_getElem_cons (by simp; omega), dropc d i hi]
  simp only [List.getElem_set_self, Gr.dig, List.cons.injEq, true_and]
  rw [List.drop_set_of_lt (by omega)]
  exact hx
theorem at_l (d : List Int) (hok : Gr.chk d = 0) (m : Int) (hm : 0 ≤ m) (hm2 : m ≤ 64) : ∀ i, i ≤ d.length → ∀ x : List Int, x.length = d.length → x.drop i = Gr.dig (d.drop i) m →
    Ev (fun k => walk_At.l0 k d (m / Gr.prod (d.drop i)) x ((i : Int) - 1)) (Gr.dig d m, true) := by
  obtain ⟨h6, h1, h2⟩ := Gr.chk_ok hok
  intro i
  induction i with
  | zero =>
    intro hi x hl hx
    simp at hx
    subst hx
    refine Ev.step (fun k => ?_) (Ev.now _)
    rw [walk_At.l0, if_neg (by omega)]
  | succ i ih =>
    intro hi x hl hx
    have hlt : i < d.length := by omega
    have hd : d.drop i = d[i] :: d.drop (i + 1) := List.drop_eq_getElem_cons hlt
    have hge : 1 ≤ d[i] := h1 _ (List.getElem_mem hlt)
    have hle : d[i] ≤ 64 := Gr.ok_le hok _ (List.getElem_mem hlt)
    have q3 := Gr.prod_pos (d.drop (i + 1)) (fun y hy => h1 y (List.mem_of_mem_drop hy))
    have hp : Gr.prod (d.drop i) = Gr.prod (d.drop (i + 1)) * d[i] := by rw [hd]; simp only [Gr.prod]; rw [Int.mul_comm]
    have h0 : 0 ≤ m / Gr.prod (d.drop (i + 1)) := Int.ediv_nonneg hm (by omega)
    have h64 : m / Gr.prod (d.drop (i + 1)) ≤ m := Int.ediv_le_self _ hm
    have e1 : Int.tdiv (m / Gr.prod (d.drop (i + 1))) d[i] = m / Gr.prod (d.drop i) := by
      rw [Int.tdiv_eq_ediv_of_nonneg h0, hp, Int.ediv_ediv, if_neg (by omega), Int.sub_zero]
    have e2 : Int.tmod (m / Gr.prod (d.drop (i + 1))) d[i] = m / Gr.prod (d.drop (i + 1)) % d[i] := Int.tmod_eq_emod_of_nonneg h0
    have b0 : 0 ≤ m / Gr.prod (d.drop i) := Int.ediv_nonneg hm (by have := Gr.prod_pos (d.drop i) (fun y hy => h1 y (List.mem_of_mem_drop hy)); omega)
    have b1 : m / Gr.prod (d.drop i) ≤ m := Int.ediv_le_self _ hm
    refine Ev.step (fun k => ?_) (ih (by omega) (x.set i (m / Gr.prod (d.drop (i + 1)) % rd d (i : Int))) (by simp [hl]) (at_set d x m i hlt hl hx))
    rw [walk_At.l0, show (((i + 1 : Nat) : Int) - 1) = (i : Int) by omega, if_pos (by omega), if_pos (by omega), if_pos (by omega), rdg d i hlt, if_neg (by omega), if_pos (by omega), e1, e2, w64 (by omega) (by omega), w64 (by omega) (by omega), Int.toNat_natCast]
theorem walk_at (d : List Int) (n : Int) : Ev (fun k => walk_At.f k d n) (Gr.att d n) := by
  unfold Gr.att
  by_cases h0 : n < 0
  · rw [if_neg (by omega)]
    refine Ev.congr (f := fun k => walk_At.j0 k d n true) (fun k => by rw [walk_At.f, if_pos h0]) ?_
    refine Ev.step (fun k => ?_) (Ev.now _)
    rw [walk_At.j0, if_pos rfl]
  · refine Ev.congr (f := fun k => (shape_Count.f k d).bind fun t => walk_At.j0 k d n (decide (n ≥ t))) (fun k => by rw [walk_At.f, if_neg h0]) ?_
    refine Ev.bind (shape_count d) ?_
    by_cases h1 : n < Gr.cnt d
    · rw [if_pos ⟨by omega, h1⟩]
      have hok : Gr.chk d = 0 := by
        apply Decidable.byContradiction
        intro hc; unfold Gr.cnt at h1; rw [if_neg hc] at h1; omega
      obtain ⟨c1, c2, c3⟩ := Gr.cnt_ok hok
      have h6 := (Gr.chk_ok hok).1
      have := at_l d hok n (by omega) (by omega) d.length (by omega) (List.replicate d.length 0) (by simp) (by simp [Gr.dig])
      rw [List.drop_length] at this
      simp only [Gr.prod, Int.ediv_one] at this
      refine Ev.step (fun k => ?_) this
      rw [walk_At.j0, if_neg (by simp; omega), if_pos (by omega), if_pos (by simp; omega), w64 (by omega) (by omega), Int.toNat_natCast]
    · rw [if_neg (by omega)]
      refine Ev.step (fun k => ?_) (Ev.now _)
      rw [walk_At.j0, if_pos (by simp; omega)]
theorem all_2 (d : List Int) (L : List (List Int)) (i : Nat) (hi : i < d.length) (q : Nat) (hq : q < L.length) (hn : d.length ≤ 6) (hL : L.length ≤ 64) (hL6 : ∀ p ∈ L, p.length ≤ 6) (X : Nat) (hX : X ≤ 64) (hXd : rd d (i : Int) = (X : Int)) (r : List (List Int)) :
    ∀ v, v ≤ X → ∀ acc : List (List Int), acc.length ≤ 64 * q + v →
    Ev (fun k => gradineref20_All.l1 k d L (i : Int) (acc ++ ((List.range (X - v)).map fun u : Nat => L[q] ++ [((v + u : Nat) : Int)])) (d.length : Int) (i : Int) (L.length : Int) ((q + 1 : Nat) : Int)) r →
    Ev (fun k => gradineref20_All.l2 k d L (i : Int) acc (q : Int) (d.length : Int) (i : Int) (L.length : Int) (q : Int) (rd d (i : Int)) (v : Int)) r := by
  apply down
  · intro acc hacc h
    simp at h
    refine Ev.step (fun k => ?_) h
    rw [gradineref20_All.l2, if_neg (by omega), nx q _ hq (by omega)]; rfl
  · intro v hv ih acc hacc h
    have h6 := hL6 L[q] (List.getElem_mem hq)
    have e : acc ++ ((List.range (X - v)).map fun u : Nat => L[q] ++ [((v + u : Nat) : Int)]) = (acc ++ [L[q] ++ [(v : Int)]]) ++ ((List.range (X - (v + 1))).map fun u : Nat => L[q] ++ [((v + 1 + u : Nat) : Int)]) := by
      rw [show X - v = (X - (v + 1)) + 1 by omega, List.range_succ_eq_map, List.map_cons, List.map_map, List.append_assoc, List.singleton_append]
      congr 2
      apply List.map_congr_left
      intro u _
      simp only [Function.comp]
      rw [show v + u.succ = v + 1 + u by omega]
    rw [e] at h
    refine Ev.step (fun k => ?_) (ih (acc ++ [L[q] ++ [(v : Int)]]) (by simp; omega) h)
    rw [gradineref20_All.l2, if_pos (by omega), Option.bind_some, if_pos (by omega), if_pos (by omega), rdl L q hq, if_pos (by simp; omega), Option.bind_some, if_pos (by simp; omega), if_pos (by omega), nx v X hv (by omega), List.nil_append]
theorem all_1 (d : List Int) (L : List (List Int)) (i : Nat) (hi : i < d.length) (hn : d.length ≤ 6) (hL : L.length ≤ 64) (hL6 : ∀ p ∈ L, p.length ≤ 6) (X : Nat) (hX : X ≤ 64) (hXd : rd d (i : Int) = (X : Int)) (r : List (List Int)) :
    ∀ q, q ≤ L.length → ∀ acc : List (List Int), acc.length ≤ 64 * q →
    Ev (fun k => gradineref20_All.l0 k d (acc ++ (L.drop q).flatMap fun p => (List.range X).map fun v : Nat => p ++ [(v : Int)]) (d.length : Int) ((i + 1 : Nat) : Int)) r →
    Ev (fun k => gradineref20_All.l1 k d L (i : Int) acc (d.length : Int) (i : Int) (L.length : Int) (q : Int)) r := by
  apply down
  · intro acc hacc h
    rw [List.drop_length] at h
    simp only [List.flatMap_nil, List.append_nil] at h
    refine Ev.step (fun k => ?_) h
    rw [gradineref20_All.l1, if_neg (by omega), nx i _ hi (by omega)]
  · intro q hq ih acc hacc h
    rw [List.drop_eq_getElem_cons hq, List.flatMap_cons, ← List.append_assoc] at h
    have := ih _ (by simp; omega) h
    refine Ev.step (fun k => ?_) (all_2 d L i hi q hq hn hL hL6 X hX hXd r 0 (by omega) acc (by omega) (by simpa using this))
    rw [gradineref20_All.l1, if_pos (by omega), if_pos (by omega), if_pos (by omega)]; rfl
theorem all_0 (d : List Int) (hok : Gr.chk d = 0) : ∀ i, i ≤ d.length →
    Ev (fun k => gradineref20_All.l0 k d (Gr.pre (d.take i)) (d.length : Int) (i : Int)) (Gr.pre d) := by
  obtain ⟨h6, h1, h2⟩ := Gr.chk_ok hok
  apply down
  · rw [List.take_length]
    refine Ev.step (fun k => ?_) (Ev.now _)
    rw [gradineref20_All.l0, if_neg (by omega)]
  · intro i hi ih
    have hx := h1 _ (List.getElem_mem hi)
    have hx2 := Gr.ok_le hok _ (List.getElem_mem hi)
    have e : d.take (i + 1) = d.take i ++ [rd d (i : Int)] := by rw [List.take_succ_eq_append_getElem hi, rdg d i hi]
    rw [e, Gr.pre_snoc _ _ (fun y hy => h1 y (List.mem_of_mem_take hy)) (by rw [rdg d i hi]; exact hx)] at ih
    have hp := Gr.chk_ok (Gr.ok_take hok i)
    refine Ev.step (fun k => ?_) (all_1 d (Gr.pre (d.take i)) i hi h6 (by rw [Gr.pre_length]; omega) ?_ (rd d (i : Int)).toNat (by rw [rdg d i hi]; omega) (by rw [rdg d i hi]; omega) _ 0 (by omega) [] (by simp) (by simpa using ih))
    · rw [gradineref20_All.l0, if_pos (by omega)]; rfl
    · intro p hp
      simp only [Gr.pre, List.mem_map] at hp
      obtain ⟨n, _, rfl⟩ := hp
      rw [Gr.dig_length, List.length_take]; omega
theorem ref_all (d : List Int) : Ev (fun k => gradineref20_All.f k d) (Gr.alls d) := by
  refine Ev.congr (fun k => by rw [gradineref20_All.f]) (Ev.bind (ref_check d) ?_)
  by_cases h : Gr.chk d = 0
  · simp only [if_pos h]
    rw [Gr.alls_ok h]
    have := all_0 d h 0 (by omega)
    rw [List.take_zero, Gr.pre_nil] at this
    exact this
  · simp only [if_neg h]
    unfold Gr.alls
    rw [if_neg h]
    exact Ev.now _
theorem mul_bound {a t : Int} (h0 : 0 ≤ a) (h1 : a ≤ 63) (ht : a = 0 ∨ (-64 < t ∧ t < 64)) : -4000 ≤ a * t ∧ a * t ≤ 4000 := by
  rcases ht with rfl | ⟨t0, t1⟩
  · simp
  · have e1 : a * t ≤ a * 63 := Int.mul_le_mul_of_nonneg_left (by omega) h0
    have e2 : a * (-63) ≤ a * t := Int.mul_le_mul_of_nonneg_left (by omega) h0
    omega
theorem right_l (o : Int) (d s : List Int) (room : Int) (hok : Gr.chk d = 0) (hl : s.length = d.length) (hr0 : 1 ≤ room) (hr : room ≤ 64) : ∀ i, i ≤ d.length → ∀ lo hi : Int, -(64 + 4096 * (i : Int)) ≤ lo → lo ≤ 64 + 4096 * (i : Int) → -(64 + 4096 * (i : Int)) ≤ hi → hi ≤ 64 + 4096 * (i : Int) →
    Ev (fun k => view_Right.l0 k room lo hi d (d.length : Int) (i : Int) o d s) (Gr.sok room (d.drop i) (s.drop i) && decide (0 ≤ lo + Gr.low (d.drop i) (s.drop i)) && decide (hi + Gr.hgh (d.drop i) (s.drop i) < room)) := by
  obtain ⟨h6, h1, h2⟩ := Gr.chk_ok hok
  apply down
  · intro lo hi a1 a2 a3 a4
    rw [List.drop_length, ← hl, List.drop_length]
    simp only [Gr.sok, Gr.low, Gr.hgh, Bool.true_and, Int.add_zero]
    by_cases h : lo ≥ 0
    · rw [decide_eq_true (show 0 ≤ lo from h), Bool.true_and]
      refine Ev.step (fun k => ?_) (Ev.now _)
      rw [view_Right.l0, if_neg (by omega), if_pos h]
    · rw [decide_eq_false (show ¬ 0 ≤ lo from h), Bool.false_and]
      refine Ev.step (fun k => ?_) (Ev.now _)
      rw [view_Right.l0, if_neg (by omega), if_neg h]
  · intro i hi ih lo hg a1 a2 a3 a4
    have hx := h1 _ (List.getElem_mem hi)
    have hx2 := Gr.ok_le hok _ (List.getElem_mem hi)
    rw [← rdg d i hi] at hx hx2
    rw [dropc d i hi, dropc s i (by omega)]
    simp only [Gr.sok, Gr.low, Gr.hgh]
    by_cases e1 : rd d (i : Int) = 1
    · have := ih lo hg (by omega) (by omega) (by omega) (by omega)
      rw [e1]
      simp only [Int.le_refl, decide_true, Bool.true_or, Bool.true_and, Int.sub_self, Int.zero_mul, Int.lt_irrefl, if_false, Int.zero_add]
      refine Ev.step (fun k => ?_) this
      rw [view_Right.l0, if_pos (by omega), if_pos (by omega), if_pos (by omega), if_pos (by omega), view_reach.f, if_pos e1, Option.bind_some, if_pos rfl, nx i _ hi (by omega), show mn 0 0 = 0 by decide, show mx 0 0 = 0 by decide, Int.add_zero, Int.add_zero, w64 (by omega) (by omega), w64 (by omega) (by omega)]
    · rw [decide_eq_false (show ¬ rd d (i : Int) ≤ 1 by omega), Bool.false_or]
      have hwr : wrap64 (-room) = -room := w64 (by omega) (by omega)
      by_cases e2 : rd s (i : Int) ≥ room
      · rw [decide_eq_false (show ¬ rd s (i : Int) < room by omega), Bool.and_false, Bool.false_and, Bool.false_and, Bool.false_and]
        refine Ev.step (fun k => ?_) (Ev.now _)
        rw [view_Right.l0, if_pos (by omega), if_pos (by omega), if_pos (by omega), if_pos (by omega), view_reach.f, if_neg e1, if_pos e2, Option.bind_some, if_neg (by simp)]
      · by_cases e3 : rd s (i : Int) ≤ -room
        · rw [decide_eq_false (show ¬ -room < rd s (i : Int) by omega), Bool.false_and, Bool.false_and, Bool.false_and, Bool.false_and]
          refine Ev.step (fun k => ?_) (Ev.now _)
          rw [view_Right.l0, if_pos (by omega), if_pos (by omega), if_pos (by omega), if_pos (by omega), view_reach.f, if_neg e1, if_neg e2, hwr, if_pos e3, Option.bind_some, if_neg (by simp)]
        · obtain ⟨b1, b2⟩ := mul_bound (a := rd d (i : Int) - 1) (t := rd s (i : Int)) (by omega) (by omega) (.inr ⟨by omega, by omega⟩)
          rw [decide_eq_true (show -room < rd s (i : Int) by omega), decide_eq_true (show rd s (i : Int) < room by omega), Bool.true_and, Bool.true_and]
          have hwm : wrap64 (wrap64 (rd d (i : Int) - 1) * rd s (i : Int)) = (rd d (i : Int) - 1) * rd s (i : Int) := by rw [w64 (x := rd d (i : Int) - 1) (by omega) (by omega), w64 (by omega) (by omega)]
          obtain ⟨m, hm⟩ : ∃ m, (rd d (i : Int) - 1) * rd s (i : Int) = m := ⟨_, rfl⟩
          rw [hm] at b1 b2 hwm
          simp only [hm]
          have hmn : mn m 0 = if m < 0 then m else 0 := by unfold mn; split <;> split <;> omega
          have hmx : mx m 0 = if m < 0 then 0 else m := by unfold mx; rfl
          have hlo : wrap64 (lo + mn m 0) = lo + if m < 0 then m else 0 := by rw [hmn, w64] <;> split <;> omega
          have hhg : wrap64 (hg + mx m 0) = hg + if m < 0 then 0 else m := by rw [hmx, w64] <;> split <;> omega
          have := ih (lo + if m < 0 then m else 0) (hg + if m < 0 then 0 else m) (by split <;> omega) (by split <;> omega) (by split <;> omega) (by split <;> omega)
          rw [← Int.add_assoc, ← Int.add_assoc]
          refine Ev.step (fun k => ?_) this
          rw [view_Right.l0, if_pos (by omega), if_pos (by omega), if_pos (by omega), if_pos (by omega), view_reach.f, if_neg e1, if_neg e2, hwr, if_neg e3, hwm, Option.bind_some, if_pos rfl, nx i _ hi (by omega), hlo, hhg]
theorem view_rgt (o : Int) (d s : List Int) (room : Int) : Ev (fun k => view_Right.f k o d s room) (Gr.rgt o d s room) := by
  have no : ¬ Gr.vok o d s room → Gr.rgt o d s room = false := fun h => by unfold Gr.rgt; rw [decide_eq_false h]; rfl
  have stop : ¬ Gr.vok o d s room → Ev (fun k => view_Right.j0 k room true o d s) (Gr.rgt o d s room) := fun h => by
    rw [no h]
    refine Ev.step (fun k => ?_) (Ev.now _)
    rw [view_Right.j0, if_pos rfl]
  refine Ev.congr (fun k => by rw [view_Right.f, shape_check, Option.bind_some]) ?_
  by_cases h1 : Gr.chk d = 0
  · simp only [if_pos h1]
    by_cases h2 : (s.length : Int) = (d.length : Int)
    · simp only [if_pos h2]
      by_cases h3 : room > 64
      · simp only [if_pos h3]; exact stop (fun hv => by have := hv.2.2.1; omega)
      · simp only [if_neg h3]
        by_cases h4 : o < 0
        · simp only [if_pos h4]; exact stop (fun hv => by have := hv.2.2.2.1; omega)
        · simp only [if_neg h4]
          by_cases h5 : o ≥ room
          · rw [decide_eq_true h5]; exact stop (fun hv => by have := hv.2.2.2.2.1; omega)
          · rw [decide_eq_false h5]
            have := right_l o d s room h1 (by omega) (by omega) (by omega) 0 (by omega) o o (by omega) (by omega) (by omega) (by omega)
            rw [List.drop_zero, List.drop_zero] at this
            have e : Gr.rgt o d s room = (Gr.sok room d s && decide (0 ≤ o + Gr.low d s) && decide (o + Gr.hgh d s < room)) := by
              have hd : decide (Gr.vok o d s room) = Gr.sok room d s := by
                by_cases hs : Gr.sok room d s = true
                · exact (decide_eq_true ⟨h1, by omega, by omega, by omega, by omega, hs⟩).trans hs.symm
                · exact (decide_eq_false (fun hv => hs hv.2.2.2.2.2)).trans (Bool.eq_false_iff.2 hs).symm
              unfold Gr.rgt; rw [hd]
            rw [e]
            refine Ev.step (fun k => ?_) this
            rw [view_Right.j0, if_neg (by simp)]; rfl
    · simp only [if_neg h2]; exact stop (fun hv => by have := hv.2.1; omega)
  · simp only [if_neg h1]; exact stop (fun hv => h1 hv.1)
theorem view_rgt64 (o : Int) (d s : List Int) : Ev (fun k => view_right.f k o d s) (Gr.rgt o d s 64) :=
  Ev.congr (fun k => by rw [view_right.f]) (Ev.bind (view_rgt o d s 64) (Ev.now _))
/-- What is asked of a place and steps so that nothing overflows. -/
def Fit (s p : List Int) : Prop := p.length ≤ 6 ∧ p.length = s.length ∧ ∀ i, (h : i < p.length) → 0 ≤ rd p (i : Int) ∧ rd p (i : Int) ≤ 63 ∧ (rd p (i : Int) = 0 ∨ (-64 < rd s (i : Int) ∧ rd s (i : Int) < 64))
theorem fit_of {d s p : List Int} {room : Int} (hok : Gr.chk d = 0) (hl : s.length = d.length) (hs : Gr.sok room d s = true) (hr : room ≤ 64) (hi : Gr.inb d p = true) : Fit s p := by
  have hpl := Gr.inb_length hi
  have h6 := (Gr.chk_ok hok).1
  refine ⟨by omega, by omega, fun i h => ?_⟩
  have hd := Gr.inb_dropn d p hi i
  rw [dropc d i (by omega), dropc p i h] at hd
  simp only [Gr.inb, Bool.and_eq_true, decide_eq_true_eq] at hd
  have hx2 := Gr.ok_le hok _ (List.getElem_mem (show i < d.length by omega))
  have hg := Gr.sok_get hs i (by omega) (by omega)
  rw [← rdg d i (by omega)] at hx2 hg
  rw [← rdg s i (by omega)] at hg
  refine ⟨hd.1.1, by omega, ?_⟩
  rcases hg with hg | hg
  · left; omega
  · right; omega
theorem at_l22 (o : Int) (d s p : List Int) (hf : Fit s p) : ∀ i, i ≤ p.length → ∀ c : Int, -(64 + 4096 * (i : Int)) ≤ c → c ≤ 64 + 4096 * (i : Int) →
    Ev (fun k => view_At.l0 k c p (p.length : Int) (i : Int) o d s) (c + Gr.ofs (p.drop i) (s.drop i), true) := by
  obtain ⟨h6, hl, hb⟩ := hf
  apply down
  · intro c _ _
    rw [List.drop_length, hl, List.drop_length]
    simp only [Gr.ofs, Int.add_zero]
    refine Ev.step (fun k => ?_) (Ev.now _)
    rw [view_At.l0, if_neg (by omega)]
  · intro i hi ih c a1 a2
    obtain ⟨b0, b1, b2⟩ := hb i hi
    obtain ⟨m1, m2⟩ := mul_bound b0 b1 b2
    rw [dropc p i hi, dropc s i (by omega)]
    simp only [Gr.ofs]
    rw [← Int.add_assoc]
    refine Ev.step (fun k => ?_) (ih (c + rd p (i : Int) * rd s (i : Int)) (by omega) (by omega))
    by_cases hp : rd p (i : Int) > 0
    · rw [view_At.l0, if_pos (by omega), if_pos (by omega), if_pos (by omega), if_pos hp, if_pos (by omega), nx i _ hi (by omega), w64 (x := rd p (i : Int) * rd s (i : Int)) (by omega) (by omega), w64 (by omega) (by omega)]
    · rw [view_At.l0, if_pos (by omega), if_pos (by omega), if_pos (by omega), if_neg hp, nx i _ hi (by omega), show rd p (i : Int) = 0 by omega, Int.zero_mul, Int.add_zero]
theorem view_at (o : Int) (d s : List Int) (n : Int) : Ev (fun k => view_At.f k o d s n) (Gr.vat o d s n) := by
  refine Ev.congr (fun k => by rw [view_At.f]) (Ev.bind (view_rgt64 o d s) ?_)
  by_cases h : Gr.rgt o d s 64 = true
  · rw [h]
    simp only [if_true]
    obtain ⟨⟨v1, v2, v3, v4, v5, v6⟩, _, _⟩ := Gr.rgt_ok h
    refine Ev.bind (walk_at d n) ?_
    unfold Gr.att Gr.vat
    by_cases hn : 0 ≤ n ∧ n < Gr.cnt d
    · rw [if_pos hn, if_pos ⟨h, hn⟩]
      simp only [if_true]
      have := at_l22 o d s (Gr.dig d n) (fit_of v1 v2 v6 (by omega) (Gr.inb_dig d (Gr.chk_ok v1).2.1 n)) 0 (by omega) o (by omega) (by omega)
      rw [List.drop_zero, List.drop_zero] at this
      exact this
    · rw [if_neg hn, if_neg (fun hh => hn hh.2)]
      exact Ev.now _
  · rw [Bool.eq_false_iff.2 h]
    unfold Gr.vat
    rw [if_neg (fun hh => h hh.1)]
    exact Ev.now _
theorem cells_2 (o : Int) (d s : List Int) (room : Int) (L acc : List (List Int)) (q : Nat) (hq : q < L.length) (ac : List Int) (hf : Fit s L[q]) (R : List Int) :
    ∀ j, j ≤ L[q].length → ∀ c : Int, -(64 + 4096 * (j : Int)) ≤ c → c ≤ 64 + 4096 * (j : Int) →
    (0 ≤ c + Gr.ofs (L[q].drop j) (s.drop j) → c + Gr.ofs (L[q].drop j) (s.drop j) < room → Ev (fun k => if ac.length < 17592186044416 then gradineref22_Cells.l1 k room L (ac ++ [c + Gr.ofs (L[q].drop j) (s.drop j)]) (L.length : Int) (wrap64 ((q : Int) + 1)) o d s else none) R) →
    Ev (fun k => gradineref22_Cells.l2 k room L ac (q : Int) c (L.length : Int) (q : Int) (L[q].length : Int) (j : Int) o d s) (if 0 ≤ c + Gr.ofs (L[q].drop j) (s.drop j) ∧ c + Gr.ofs (L[q].drop j) (s.drop j) < room then R else []) := by
  obtain ⟨h6, hl, hb⟩ := hf
  apply down
  · intro c _ _
    rw [List.drop_length, hl, List.drop_length]
    simp only [Gr.ofs, Int.add_zero]
    intro h
    by_cases h0 : c < 0
    · rw [if_neg (by omega)]
      refine Ev.step (fun k => ?_) (Ev.now _)
      rw [gradineref22_Cells.l2, if_neg (by omega), if_pos h0]
    · by_cases h1 : c ≥ room
      · rw [if_neg (by omega)]
        refine Ev.step (fun k => ?_) (Ev.now _)
        rw [gradineref22_Cells.l2, if_neg (by omega), if_neg h0, if_pos h1]
      · rw [if_pos (by omega)]
        refine Ev.step (fun k => ?_) (h (by omega) (by omega))
        rw [gradineref22_Cells.l2, if_neg (by omega), if_neg h0, if_neg h1]
  · intro j hj ih c a1 a2
    obtain ⟨b0, b1, b2⟩ := hb j hj
    obtain ⟨m1, m2⟩ := mul_bound b0 b1 b2
    have eo : Gr.ofs (L[q].drop j) (s.drop j) = rd L[q] (j : Int) * rd s (j : Int) + Gr.ofs (L[q].drop (j + 1)) (s.drop (j + 1)) := by rw [dropc L[q] j hj, dropc s j (by omega)]; rfl
    simp only [eo, ← Int.add_assoc]
    intro h
    have := ih (c + rd L[q] (j : Int) * rd s (j : Int)) (by omega) (by omega) h
    refine Ev.step (fun k => ?_) this
    by_cases hp : rd L[q] (j : Int) > 0
    · rw [gradineref22_Cells.l2, if_pos (by omega), if_pos (by omega), if_pos (by omega), if_pos (by omega), rdl L q hq, if_pos (by omega), if_pos hp, if_pos (by omega), nx j _ hj (by omega), w64 (x := rd L[q] (j : Int) * rd s (j : Int)) (by omega) (by omega), w64 (by omega) (by omega)]
    · rw [gradineref22_Cells.l2, if_pos (by omega), if_pos (by omega), if_pos (by omega), if_pos (by omega), rdl L q hq, if_pos (by omega), if_neg hp, nx j _ hj (by omega), show rd L[q] (j : Int) = 0 by omega, Int.zero_mul, Int.add_zero]
theorem cells_1 (o : Int) (ho : 0 ≤ o) (ho2 : o < 64) (d s : List Int) (room : Int) (L : List (List Int)) (hL : L.length ≤ 64) (hf : ∀ p ∈ L, Fit s p) : ∀ q, q ≤ L.length → ∀ ac : List Int, ac.length ≤ q →
    Ev (fun k => gradineref22_Cells.l1 k room L ac (L.length : Int) (q : Int) o d s) (if ∀ p ∈ L.drop q, 0 ≤ o + Gr.ofs p s ∧ o + Gr.ofs p s < room then ac ++ (L.drop q).map (fun p => o + Gr.ofs p s) else []) := by
  apply down
  · intro ac _
    rw [List.drop_length]
    simp only [List.not_mem_nil, false_imp_iff, implies_true, if_true, List.map_nil, List.append_nil]
    refine Ev.step (fun k => ?_) (Ev.now _)
    rw [gradineref22_Cells.l1, if_neg (by omega)]
  · intro q hq ih ac hac
    have hd := List.drop_eq_getElem_cons hq
    have := cells_2 o d s room L L q hq ac (hf _ (List.getElem_mem hq)) (if ∀ p ∈ L.drop (q + 1), 0 ≤ o + Gr.ofs p s ∧ o + Gr.ofs p s < room then (ac ++ [o + Gr.ofs L[q] s]) ++ (L.drop (q + 1)).map (fun p => o + Gr.ofs p s) else []) 0 (by omega) o (by omega) (by omega) (by
      rw [List.drop_zero, List.drop_zero]
      intro _ _
      refine Ev.congr (fun k => ?_) (ih (ac ++ [o + Gr.ofs L[q] s]) (by simp; omega))
      rw [if_pos (by omega), nx q _ hq (by omega)])
    rw [List.drop_zero, List.drop_zero] at this
    have e : (if ∀ p ∈ L.drop q, 0 ≤ o + Gr.ofs p s ∧ o + Gr.ofs p s < room then ac ++ (L.drop q).map (fun p => o + Gr.ofs p s) else []) = (if 0 ≤ o + Gr.ofs L[q] s ∧ o + Gr.ofs L[q] s < room then (if ∀ p ∈ L.drop (q + 1), 0 ≤ o + Gr.ofs p s ∧ o + Gr.ofs p s < room then (ac ++ [o + Gr.ofs L[q] s]) ++ (L.drop (q + 1)).map (fun p => o + Gr.ofs p s) else []) else []) := by
      rw [hd]
      simp only [List.mem_cons, forall_eq_or_imp, List.map_cons, List.append_assoc, List.singleton_append]
      by_cases g1 : 0 ≤ o + Gr.ofs L[q] s ∧ o + Gr.ofs L[q] s < room
      · simp only [g1, and_self, true_and, if_true]
      · simp only [g1, false_and, if_false]
    rw [e]
    refine Ev.step (fun k => ?_) this
    rw [gradineref22_Cells.l1, if_pos (by omega), if_pos (by omega), if_pos (by omega), rdl L q hq]
    rfl
theorem cells_0 (o : Int) (d s : List Int) (room : Int) (hl : s.length = d.length) (h6 : d.length ≤ 6) (hr0 : 1 ≤ room) (hr : room ≤ 64) (R : List Int)
    (h : Gr.sok room d s = true → Ev (fun k => (gradineref20_All.f k d).bind fun t => gradineref22_Cells.l1 k room t [] (t.length : Int) 0 o d s) R) : ∀ i, i ≤ d.length → (Gr.sok room (d.drop i) (s.drop i) = Gr.sok room d s) →
    Ev (fun k => gradineref22_Cells.l0 k room (d.length : Int) (i : Int) o d s) (if Gr.sok room d s = true then R else []) := by
  apply down
  · intro e
    rw [List.drop_length, ← hl, List.drop_length] at e
    have e : Gr.sok room d s = true := by rw [← e]; rfl
    rw [if_pos e]
    refine Ev.step (fun k => ?_) (h e)
    rw [gradineref22_Cells.l0, if_neg (by omega)]
  · intro i hi ih e
    rw [dropc d i hi, dropc s i (by omega)] at e
    simp only [Gr.sok] at e
    have hwr : wrap64 (-room) = -room := w64 (by omega) (by omega)
    by_cases e1 : rd d (i : Int) > 1
    · rw [decide_eq_false (by omega), Bool.false_or] at e
      by_cases e2 : rd s (i : Int) ≥ room
      · rw [decide_eq_false (show ¬ rd s (i : Int) < room by omega), Bool.and_false, Bool.false_and] at e
        rw [← e, if_neg (by simp)]
        refine Ev.step (fun k => ?_) (Ev.now _)
        rw [gradineref22_Cells.l0, if_pos (by omega), if_pos (by omega), if_pos (by omega), if_pos e1, if_pos (by omega), if_pos e2]
      · by_cases e3 : rd s (i : Int) ≤ -room
        · rw [decide_eq_false (show ¬ -room < rd s (i : Int) by omega), Bool.false_and, Bool.false_and] at e
          rw [← e, if_neg (by simp)]
          refine Ev.step (fun k => ?_) (Ev.now _)
          rw [gradineref22_Cells.l0, if_pos (by omega), if_pos (by omega), if_pos (by omega), if_pos e1, if_pos (by omega), if_neg e2, hwr, if_pos e3]
        · rw [decide_eq_true (show -room < rd s (i : Int) by omega), decide_eq_true (show rd s (i : Int) < room by omega), Bool.true_and, Bool.true_and] at e
          refine Ev.step (fun k => ?_) (ih e)
          rw [gradineref22_Cells.l0, if_pos (by omega), if_pos (by omega), if_pos (by omega), if_pos e1, if_pos (by omega), if_neg e2, hwr, if_neg e3, nx i _ hi (by omega)]
    · rw [decide_eq_true (by omega), Bool.true_or, Bool.true_and] at e
      refine Ev.step (fun k => ?_) (ih e)
      rw [gradineref22_Cells.l0, if_pos (by omega), if_pos (by omega), if_pos (by omega), if_neg e1, nx i _ hi (by omega)]
theorem cells_vok (o : Int) (d s : List Int) (room : Int) (hv : Gr.vok o d s room) : Ev (fun k => (gradineref20_All.f k d).bind fun t => gradineref22_Cells.l1 k room t [] (t.length : Int) 0 o d s) (Gr.cls o d s room) := by
  obtain ⟨v1, v2, v3, v4, v5, v6⟩ := hv
  refine Ev.bind (ref_all d) ?_
  have hlen := Gr.alls_length d
  have := (Gr.cnt_ok v1).2.2
  have := cells_1 o v4 (by omega) d s room (Gr.alls d) (by omega) (fun p hp => fit_of v1 v2 v6 v3 ((Gr.mem_alls v1).1 hp)) 0 (by omega) [] (by simp)
  rw [List.drop_zero, List.nil_append] at this
  have e : Gr.cls o d s room = if ∀ p ∈ Gr.alls d, 0 ≤ o + Gr.ofs p s ∧ o + Gr.ofs p s < room then (Gr.alls d).map (fun p => o + Gr.ofs p s) else [] := by
    unfold Gr.cls
    simp only [Gr.rgt_iff ⟨v1, v2, v3, v4, v5, v6⟩]
  rw [e]
  exact this
theorem ref_cells (o : Int) (d s : List Int) (room : Int) : Ev (fun k => gradineref22_Cells.f k o d s room) (Gr.cls o d s room) := by
  have no : ¬ Gr.vok o d s room → Gr.cls o d s room = [] := fun h => Gr.cls_none (fun hh => h (Gr.rgt_ok hh).1)
  have stop : ¬ Gr.vok o d s room → Ev (fun k => gradineref22_Cells.j0 k room true o d s) (Gr.cls o d s room) := fun h => by
    rw [no h]
    refine Ev.step (fun k => ?_) (Ev.now _)
    rw [gradineref22_Cells.j0, if_pos rfl]
  refine Ev.congr (fun k => by rw [gradineref22_Cells.f]) (Ev.bind (ref_check d) ?_)
  by_cases h1 : Gr.chk d = 0
  · simp only [if_pos h1]
    by_cases h2 : (s.length : Int) = (d.length : Int)
    · simp only [if_pos h2]
      by_cases h3 : room > 64
      · simp only [if_pos h3]; exact stop (fun hv => by have := hv.2.2.1; omega)
      · simp only [if_neg h3]
        by_cases h4 : o < 0
        · simp only [if_pos h4]; exact stop (fun hv => by have := hv.2.2.2.1; omega)
        · simp only [if_neg h4]
          by_cases h5 : o ≥ room
          · rw [decide_eq_true h5]; exact stop (fun hv => by have := hv.2.2.2.2.1; omega)
          · rw [decide_eq_false h5]
            have key := cells_0 o d s room (by omega) (Gr.chk_ok h1).1 (by omega) (by omega) (Gr.cls o d s room) (fun hs => cells_vok o d s room ⟨h1, by omega, by omega, by omega, by omega, hs⟩) 0 (by omega) (by simp)
            have e : (if Gr.sok room d s = true then Gr.cls o d s room else []) = Gr.cls o d s room := by
              split
              · rfl
              · rename_i hs; exact (no (fun hv => hs hv.2.2.2.2.2)).symm
            rw [e] at key
            refine Ev.step (fun k => ?_) key
            rw [gradineref22_Cells.j0, if_neg (by simp)]; rfl
    · simp only [if_neg h2]; exact stop (fun hv => by have := hv.2.1; omega)
  · simp only [if_neg h1]; exact stop (fun hv => h1 hv.1)
theorem cls_bound (o : Int) (d s : List Int) (room : Int) : (Gr.cls o d s room).length ≤ 64 ∧ ∀ x ∈ Gr.cls o d s room, 0 ≤ x ∧ x < 64 := by
  by_cases h : Gr.rgt o d s room = true
  · have hl := Gr.cls_length o d s room
    have hv := (Gr.rgt_ok h).1
    rw [if_pos h] at hl
    have := (Gr.cnt_ok hv.1).2.2
    refine ⟨by omega, fun x hx => ?_⟩
    rw [Gr.cls_ok h, List.mem_map] at hx
    obtain ⟨p, hp, rfl⟩ := hx
    have := (Gr.rgt_iff hv).1 h p hp
    have := hv.2.2.1
    omega
  · rw [Gr.cls_none h]; simp
theorem view_whole (d : List Int) (hn : d.length ≤ 100) : Ev (fun k => view_Whole.f k d) (if Gr.chk d = 0 then (0, d, Gr.stp d) else (0, [], [])) := by
  refine Ev.congr (fun k => by rw [view_Whole.f, shape_check, Option.bind_some]) ?_
  by_cases h : Gr.chk d = 0
  · rw [if_pos h]
    simp only [if_pos h]
    refine Ev.congr (fun k => by rw [slices_Clone_int_int.f, if_pos (by omega), Option.bind_some]) ?_
    refine Ev.bind (shape_steps d) ?_
    rw [show Gr.steps d = Gr.stp d by unfold Gr.steps; rw [if_pos h]]
    exact Ev.now _
  · rw [if_neg h]
    simp only [if_neg h]
    exact Ev.now _
theorem clist_l (o : Int) (d s : List Int) (h : Gr.rgt o d s 64 = true) : ∀ i, i ≤ (Gr.cls o d s 64).length →
    Ev (fun k => cells_List.l0 k ((Gr.cls o d s 64).take i) ((Gr.cls o d s 64).length : Int) (i : Int) o d s) (Gr.cls o d s 64) := by
  have hb := cls_bound o d s 64
  have hl := Gr.cls_length o d s 64
  rw [if_pos h] at hl
  apply down
  · rw [List.take_length]
    refine Ev.step (fun k => ?_) (Ev.now _)
    rw [cells_List.l0, if_neg (by omega)]
  · intro i hi ih
    rw [List.take_succ_eq_append_getElem hi] at ih
    have hv := view_at o d s (i : Int)
    have e : Gr.vat o d s (i : Int) = ((Gr.cls o d s 64)[i], true) := by
      unfold Gr.vat
      rw [if_pos ⟨h, by omega, by omega⟩, Gr.cls_get h i hi]
    rw [e] at hv
    refine Ev.step (fun k => by rw [cells_List.l0, if_pos (by omega)]) (Ev.bind hv ?_)
    refine Ev.congr (fun k => ?_) ih
    rw [if_pos (by rw [List.length_take]; omega), nx i _ hi (by omega)]
theorem cells_list (o : Int) (d s : List Int) : Ev (fun k => cells_List.f k o d s) (Gr.cls o d s 64) := by
  refine Ev.congr (fun k => by rw [cells_List.f]) (Ev.bind (view_rgt o d s 64) ?_)
  by_cases h : Gr.rgt o d s 64 = true
  · have hl := Gr.cls_length o d s 64
    rw [if_pos h] at hl
    rw [h]
    refine Ev.congr (fun k => by rw [if_pos rfl]) (Ev.bind (shape_count d) ?_)
    have := clist_l o d s h 0 (by omega)
    rw [List.take_zero, hl] at this
    exact this
  · rw [Bool.eq_false_iff.2 h, Gr.cls_none h]
    exact Ev.congr (fun k => by rw [if_neg (by simp)]) (Ev.now _)
/-- Counts, and some more. -/
def more (s l : List Int) : List Int := (List.range 64).map fun i : Nat => rd s (i : Int) + (l.count (i : Int) : Int)
theorem more_nil (s : List Int) (hs : s.length = 64) : more s [] = s := by
  refine List.ext_getElem (by simp [more, hs]) (fun i h1 h2 => ?_)
  simp only [more, List.getElem_map, List.getElem_range, List.count_nil]
  rw [rdg s i h2]
  simp
theorem of_l : ∀ (l s : List Int), s.length = 64 → (∀ c ∈ l, 0 ≤ c ∧ c < 64) → (∀ i : Nat, i < 64 → 0 ≤ rd s (i : Int) ∧ rd s (i : Int) + (l.length : Int) ≤ 1000) → cells_of.l0 l s = some (more s l)
  | [], s, hs, _, _ => by rw [cells_of.l0, more_nil s hs]
  | c :: l, s, hs, hb, hw => by
    have hc := hb c (by simp)
    obtain ⟨n, rfl⟩ := Int.eq_ofNat_of_zero_le hc.1
    have hn : n < 64 := by omega
    have hwn := hw n hn
    simp only [List.length_cons] at hwn hw
    have hrd : ∀ i : Nat, i < 64 → rd (s.set n (rd s (n : Int) + 1)) (i : Int) = if n = i then rd s (n : Int) + 1 else rd s (i : Int) := by
      intro i hi
      rw [rdg _ i (by simp; omega), List.getElem_set, rdg s i (by omega)]
    rw [cells_of.l0, if_pos hc, Int.toNat_natCast, w64 (by omega) (by omega), of_l l _ (by rw [List.length_set]; exact hs) (fun c h => hb c (by simp [h])) (fun i hi => by
      rw [hrd i hi]
      have := hw i hi
      split <;> omega)]
    congr 1
    unfold more
    apply List.map_congr_left
    intro i hi
    rw [List.mem_range] at hi
    rw [hrd i hi, List.count_cons]
    by_cases e : n = i
    · subst e; simp; omega
    · rw [if_neg e, if_neg (by simp; omega)]; simp
theorem zeros_rd (i : Nat) (hi : i < 64) : rd zeros (i : Int) = 0 := by
  unfold rd zeros
  rw [Int.toNat_natCast, List.getD_eq_getElem?_getD, List.getElem?_replicate]
  split <;> rfl
theorem more_zeros (l : List Int) : more zeros l = Gr.tal l := by
  unfold more Gr.tal
  apply List.map_congr_left
  intro i hi
  rw [List.mem_range] at hi
  have : rd zeros (i : Int) = 0 := zeros_rd i hi
  rw [this, Int.zero_add]
theorem cells_of_ (o : Int) (d s : List Int) : Ev (fun k => cells_of.f k o d s) (Gr.tal (Gr.cls o d s 64)) := by
  have hb := cls_bound o d s 64
  refine Ev.congr (fun k => by rw [cells_of.f]) (Ev.bind (cells_list o d s) ?_)
  refine Ev.congr (fun k => ?_) (Ev.now _)
  rw [if_pos (by omega), of_l _ zeros (by decide) hb.2 (fun i hi => by
    have : rd zeros (i : Int) = 0 := zeros_rd i hi
    omega), more_zeros]
theorem ref_meet_l (a b : List Int) (ha : a.length ≤ 64) (hb : b.length ≤ 64) : ∀ i, i ≤ a.length → Ev (fun k => gradineref23_Meet.l0 k a b (a.length : Int) (i : Int)) ((a.drop i).any fun x => b.contains x) := by
  apply down
  · rw [List.drop_length]
    refine Ev.step (fun k => ?_) (Ev.now _)
    rw [gradineref23_Meet.l0, if_neg (by omega)]; rfl
  · intro i hi ih
    have hh := has b (rd a (i : Int)) (by omega)
    refine Ev.step (fun k => by rw [gradineref23_Meet.l0, if_pos (by omega), if_pos (by omega), if_pos (by omega)]) (Ev.bind hh ?_)
    rw [dropc a i hi, List.any_cons]
    cases hc : b.contains (rd a (i : Int)) with
    | true => rw [Bool.true_or]; exact Ev.congr (fun k => by rw [if_pos rfl]) (Ev.now _)
    | false =>
      rw [Bool.false_or]
      refine Ev.congr (fun k => ?_) ih
      rw [if_neg (by simp), nx i _ hi (by omega)]
theorem ref_meet (a b : List Int) (ha : a.length ≤ 64) (hb : b.length ≤ 64) : Ev (fun k => gradineref23_Meet.f k a b) (a.any fun x => b.contains x) :=
  Ev.congr (fun k => by rw [gradineref23_Meet.f]) (by have := ref_meet_l a b ha hb 0 (by omega); rw [List.drop_zero] at this; exact this)
theorem meet_any : ∀ s t : List Int, cells_Meet.any s t = true ↔ ∃ i, ∃ h1 : i < s.length, ∃ h2 : i < t.length, s[i] > 0 ∧ t[i] > 0
  | [], t => by simp [cells_Meet.any]
  | x :: s, [] => by simp [cells_Meet.any]
  | x :: s, y :: t => by
    rw [cells_Meet.any]
    by_cases h : x > 0 ∧ y > 0
    · rw [if_pos h]
      exact ⟨fun _ => ⟨0, by simp, by simp, h⟩, fun _ => rfl⟩
    · rw [if_neg h, meet_any s t]
      constructor
      · rintro ⟨i, h1, h2, h3⟩
        exact ⟨i + 1, by simp; omega, by simp; omega, by simpa using h3⟩
      · rintro ⟨i, h1, h2, h3⟩
        cases i with
        | zero => exact absurd (by simpa using h3) h
        | succ i => exact ⟨i, by simp at h1; omega, by simp at h2; omega, by simpa using h3⟩
theorem meet_tal {a b : List Int} (ha : ∀ c ∈ a, 0 ≤ c ∧ c < 64) : cells_Meet.any (Gr.tal a) (Gr.tal b) = a.any fun x => b.contains x := by
  rw [Bool.eq_iff_iff, meet_any, List.any_eq_true]
  constructor
  · rintro ⟨i, h1, h2, h3⟩
    rw [Gr.tal_length] at h1
    rw [Gr.tal_at a i h1, Gr.tal_at b i h1] at h3
    exact ⟨(i : Int), List.count_pos_iff.1 (by omega), by simpa using List.count_pos_iff.1 (show 0 < b.count (i : Int) by omega)⟩
  · rintro ⟨x, hx, hb⟩
    obtain ⟨n, rfl⟩ := Int.eq_ofNat_of_zero_le (ha x hx).1
    have hn := (ha _ hx).2
    refine ⟨n, by rw [Gr.tal_length]; omega, by rw [Gr.tal_length]; omega, ?_⟩
    rw [Gr.tal_at a n (by omega), Gr.tal_at b n (by omega)]
    have h1 := List.count_pos_iff.2 hx
    have h2 : 0 < b.count (n : Int) := List.count_pos_iff.2 (by simpa using hb)
    omega
theorem cells_meet (o : Int) (d s : List Int) (o' : Int) (d' s' : List Int) : Ev (fun k => cells_Meet.f k o d s o' d' s') ((Gr.cls o d s 64).any fun x => (Gr.cls o' d' s' 64).contains x) := by
  rw [← meet_tal (cls_bound o d s 64).2]
  refine Ev.congr (fun k => by rw [cells_Meet.f]) (Ev.bind (cells_of_ o d s) (Ev.bind (cells_of_ o' d' s') ?_))
  exact Ev.now _
end Go.Proofs.Ytmhikecbajkonaa.S
namespace Go.Proofs.Ytmhikecbajkonaa.Pure
open Go.RowKit Go.Proofs.Ytmhikecbajkonaa.Q Go.Proofs.YtmhikecbajkonaaW.PrintWords Go.Proofs.YtmhikecbajkonaaW.PrintLast Go.Proofs.Ytmhikecbajkonaa.S
set_option linter.unusedVariables false
theorem t_list (o : Int) (d s : List Int) : ∃ k, cells_List.f k o d s = some (Gr.cls o d s 64) := (cells_list o d s).rounds
theorem t_cells (o : Int) (d s : List Int) (room : Int) : ∃ k, gradineref22_Cells.f k o d s room = some (Gr.cls o d s room) := (ref_cells o d s room).rounds
theorem t_right (o : Int) (d s : List Int) (room : Int) : ∃ k, view_Right.f k o d s room = some (Gr.rgt o d s room) := (view_rgt o d s room).rounds
theorem t_meet (o : Int) (d s : List Int) (o' : Int) (d' s' : List Int) : ∃ k, cells_Meet.f k o d s o' d' s' = some ((Gr.cls o d s 64).any fun x => (Gr.cls o' d' s' 64).contains x) := (cells_meet o d s o' d' s').rounds
theorem t_rmeet (a b : List Int) (ha : a.length ≤ 64) (hb : b.length ≤ 64) : ∃ k, gradineref23_Meet.f k a b = some (a.any fun x => b.contains x) := (ref_meet a b ha hb).rounds
theorem t_ints (a : List Int) (hn : a.length ≤ 1000000000) : ∃ k, gradineplain_Ints.f k a a = some true := (ints_eq rfl hn).rounds
theorem t_count (d : List Int) : ∃ k, shape_Count.f k d = some (Gr.cnt d) := (shape_count d).rounds
theorem t_check (d : List Int) : ∃ k, gradineref19_Check.f k d = some (Gr.chk d) := (ref_check d).rounds
theorem t_rcount (d : List Int) : ∃ k, gradineref19_Count.f k d = some (Gr.cnt d) := (ref_count d).rounds
theorem t_whole {d : List Int} (h : Gr.chk d = 0) : ∃ k, view_Whole.f k d = some (0, d, Gr.stp d) := by
  have := (view_whole d (by have := (Gr.chk_ok h).1; omega)).rounds
  rwa [if_pos h] at this
theorem t_countE (d : List Int) : Ev (fun k => shape_Count.f k d) (Gr.cnt d) := shape_count d
theorem t_wholeE {d : List Int} (h : Gr.chk d = 0) : Ev (fun k => view_Whole.f k d) (0, d, Gr.stp d) := by
  have := view_whole d (by have := (Gr.chk_ok h).1; omega)
  rwa [if_pos h] at this
theorem t_refs (d : List Int) : ∃ k, gradineref19_Check.f k d = some (Gr.chk d) ∧ gradineref19_Count.f k d = some (Gr.cnt d) := by
  obtain ⟨K1, h1⟩ := ref_check d
  obtain ⟨K2, h2⟩ := ref_count d
  exact ⟨K1 + K2, h1 _ (by omega), h2 _ (by omega)⟩
theorem t_chk6 {d : List Int} (h : Gr.chk d = 0) : d.length ≤ 6 := (Gr.chk_ok h).1
theorem t_cnt {d : List Int} (h : Gr.chk d = 0) : 1 ≤ Gr.cnt d ∧ Gr.cnt d ≤ 64 := by
  obtain ⟨h6, h1, h2⟩ := Gr.chk_ok h
  unfold Gr.cnt
  rw [if_pos h]
  exact ⟨Gr.prod_pos d h1, h2⟩
theorem t_room {o : Int} {d s : List Int} {n : Int} (h : Gr.rgt o d s n = true) : Gr.rgt o d s 64 = true ∧ Gr.cls o d s 64 = Gr.cls o d s n := by
  have h' : Gr.rgt o d s 64 = true := by
    unfold Gr.rgt at h ⊢
    simp only [Bool.and_eq_true, decide_eq_true_eq] at h ⊢
    obtain ⟨⟨⟨a1, a2, a3, a4, a5, a6⟩, b⟩, c⟩ := h
    exact ⟨⟨⟨a1, a2, Int.le_refl _, a4, by omega, Gr.sok_mono a3 _ _ a6⟩, b⟩, by omega⟩
  exact ⟨h', by rw [Gr.cls_ok h', Gr.cls_ok h]⟩
theorem t_rgt {o : Int} {d s : List Int} {n : Int} (h : Gr.rgt o d s n = true) : Gr.chk d = 0 ∧ s.length = d.length := by
  unfold Gr.rgt at h
  simp only [Bool.and_eq_true, decide_eq_true_eq] at h
  exact ⟨h.1.1.1, h.1.1.2.1⟩
theorem t_pos (o : Int) (d s : List Int) (room : Int) : (0 < (Gr.cls o d s room).length) ↔ Gr.rgt o d s room = true := Gr.cls_pos o d s room
theorem t_bound (o : Int) (d s : List Int) (room : Int) : (Gr.cls o d s room).length ≤ 64 ∧ ∀ x ∈ Gr.cls o d s room, 0 ≤ x ∧ x < 64 := cls_bound o d s room
theorem t_in {o : Int} {d s cl : List Int} {n : Int} (h : Gr.rgt o d s n = true) (hc : Gr.cls o d s n = cl) : ∀ c ∈ cl, 0 ≤ c ∧ c < n := by
  intro c hm
  rw [← hc, Gr.cls_ok h] at hm
  obtain ⟨p, hp, rfl⟩ := List.mem_map.1 hm
  have h1 := (t_rgt h).1
  unfold Gr.rgt at h
  simp only [Bool.and_eq_true, decide_eq_true_eq] at h
  exact (Gr.range_iff h1 o n s).2 ⟨h.1.2, h.2⟩ p hp
theorem t_whole_rgt {d : List Int} (h : Gr.chk d = 0) : Gr.rgt 0 d (Gr.stp d) 64 = true := Gr.whole_rgt h
theorem t_whole_cls {d : List Int} (h : Gr.chk d = 0) : Gr.cls 0 d (Gr.stp d) 64 = (List.range (Gr.cnt d).toNat).map Int.ofNat := by
  obtain ⟨h6, h1, h2⟩ := Gr.chk_ok h
  have hw := Gr.whole_rgt h
  have hl := Gr.cls_length 0 d (Gr.stp d) 64
  rw [if_pos hw] at hl
  refine List.ext_getElem (by simp; omega) fun i g1 g2 => ?_
  rw [Gr.cls_get hw i g1, Gr.ofs_stp d _ (Gr.dig_length d _)]
  have hc : Gr.cnt d = Gr.prod d := by unfold Gr.cnt; rw [if_pos h]
  rw [Gr.num_dig_lt d h1 _ (by omega) (by omega)]
  simp
end Go.Proofs.Ytmhikecbajkonaa.Pure
namespace Go.Proofs.Ytmhikecbajkonaa.Q
open Go.RowKit Go.Proofs.YtmhikecbajkonaaW.PrintWords Go.Proofs.YtmhikecbajkonaaW.PrintLast Go.Proofs.YtmhikecbajkonaaW.PrintMore
set_option linter.unusedVariables false
set_option linter.unusedSimpArgs false
namespace Tn
theorem Fr.trans {Q Q' : List Nat} {w w1 w2 : World} (h : Fr Q w w1) (h' : Fr Q' w1 w2) : Fr (Q ++ Q') w w2 :=
  ⟨Nat.le_trans h.1 h'.1, fun k cs q hk hq => by
    rw [List.mem_append] at hq
    have h1 := h.2 k cs q hk (fun a => hq (Or.inl a))
    exact (h'.2 k cs q (h1.trans hk) (fun a => hq (Or.inr a))).trans h1⟩
structure AI (W w : World) (gs gr c gf ga gt : Nat) (A0 : Option Addr) (c0 : Nat) (d sd : List Int) (A1 : Option Addr) (c1 : Nat) (l V : List S80) (ver : Int) (A : Option Addr) (c' : Nat) (ts : List Tz) (vt va : Value) : Prop where
  inv : Sb.Inv W w gs gr c gf V ver A c'
  tz : ∀ x ∈ ts, x.ok w W.heap.size gs V.length
  cls : ∀ x ∈ ts, x.cl = Gr.cls x.o x.d x.s 64
  vt : kP.R 31 w W.heap.size (fun _ => True) vt (ts.map Tz.g)
  va : Kd.R (Kd.slice 3 (Kd.int .i64)) 22 w W.heap.size (fun _ => True) va (ts.map Tz.cl)
  box : w.heap[ga]? = some (.cells #[.slice A0 d.length c0, .slice A1 l.length c1] 25 (0, 0))
  ten0 : Ten w W.heap.size gt gs 0 d sd
section
variable {W w w1 w2 : World} {gs gr c gf ga gt : Nat} {A0 : Option Addr} {c0 : Nat} {d sd : List Int} {A1 : Option Addr} {c1 : Nat} {l V U : List S80} {ver ver' : Int} {A A' : Option Addr} {c' c2 : Nat} {ts : List Tz} {vt va : Value}
theorem AI.fr {Q : List Nat} (h : AI W w gs gr c gf ga gt A0 c0 d sd A1 c1 l V ver A c' ts vt va) (hf : Fr Q w w1) (hb : Below W.heap.size W w1) (hq : ∀ q ∈ [89, 80, 61, 38, 68, 3, 31, 22, 25], q ∉ Q) : AI W w1 gs gr c gf ga gt A0 c0 d sd A1 c1 l V ver A c' ts vt va :=
  ⟨hf.Inv h.inv hb (fun q hm => hq q (by simp at hm ⊢; omega)), fun x hx => (h.tz x hx).fr hf (hq _ (by simp)) (hq _ (by simp)), h.cls, hf.R h.vt (fun q hm => hq q (by have : q ∈ [31] := hm; simp at this ⊢; omega)), hf.R h.va (fun q hm => hq q (by have : q ∈ [22, 3] := hm; simp at this ⊢; omega)), hf.blk h.box (hq _ (by simp)), hf.Ten h.ten0 (hq _ (by simp)) (hq _ (by simp))⟩
theorem AI.step (h : AI W w gs gr c gf ga gt A0 c0 d sd A1 c1 l V ver A c' ts vt va) (hb : Below w.heap.size w w1) : AI W w1 gs gr c gf ga gt A0 c0 d sd A1 c1 l V ver A c' ts vt va := h.fr (Q := []) (Fr.of_below hb) (below_step h.inv.bel hb) (fun _ _ h_ => by simp at h_)
theorem AI.put (h : AI W w gs gr c gf ga gt A0 c0 d sd A1 c1 l V ver A c' ts vt va) (hU : U.length = V.length) (hi : Sb.Inv W w1 gs gr c gf U ver' A' c2) (hf : Fr [89, 80, 38] w w1) : AI W w1 gs gr c gf ga gt A0 c0 d sd A1 c1 l U ver' A' c2 ts vt va :=
  ⟨hi, fun x hx => by rw [hU]; exact (h.tz x hx).fr hf (by simp) (by simp), h.cls, hf.R h.vt (fun q hm => by have : q ∈ [31] := hm; simp at this ⊢; omega), hf.R h.va (fun q hm => by have : q ∈ [22, 3] := hm; simp at this ⊢; omega), hf.blk h.box (by simp), hf.Ten h.ten0 (by simp) (by simp)⟩
theorem AI.vts (h : AI W w gs gr c gf ga gt A0 c0 d sd A1 c1 l V ver A c' ts vt va) : ∃ At ct, vt = .slice At ts.length ct ∧ kP.C w At ts.length (ts.map Tz.g) := by
  obtain ⟨At, ct, e, h1, h2⟩ := Kd.R_reads h.vt
  rw [List.length_map] at e h1 h2
  exact ⟨At, ct, e, h2⟩
theorem AI.vas (h : AI W w gs gr c gf ga gt A0 c0 d sd A1 c1 l V ver A c' ts vt va) : ∃ Ac cc, va = .slice Ac ts.length cc ∧ Kd.C (Kd.slice 3 (Kd.int .i64)) w Ac ts.length (ts.map Tz.cl) := by
  obtain ⟨At, ct, e, h1, h2⟩ := Kd.R_reads h.va
  rw [List.length_map] at e h1 h2
  exact ⟨At, ct, e, h2⟩
/-- One tensor more. -/
theorem AI.add (h : AI W w gs gr c gf ga gt A0 c0 d sd A1 c1 l V ver A c' ts vt va) (x : Tz) (hx : x.ok w W.heap.size gs V.length) (hc : x.cl = Gr.cls x.o x.d x.s 64) {v1 v2 : Value} (f1 : Fr [31] w w1) (f2 : Fr [22] w1 w2) (r1 : kP.R 31 w1 W.heap.size (fun _ => True) v1 (ts.map Tz.g ++ [x.g])) (r2 : Kd.R (Kd.slice 3 (Kd.int .i64)) 22 w2 W.heap.size (fun _ => True) v2 (ts.map Tz.cl ++ [x.cl])) (hb : Below W.heap.size W w2) : AI W w2 gs gr c gf ga gt A0 c0 d sd A1 c1 l V ver A c' (ts ++ [x]) v1 v2 := by
  have f := f1.trans f2
  refine ⟨f.Inv h.inv hb (fun q hm => by simp at hm ⊢; omega), fun y hy => ?_, fun y hy => ?_, ?_, ?_, f.blk h.box (by simp), f.Ten h.ten0 (by simp) (by simp)⟩
  · rcases List.mem_append.1 hy with hy | hy
    · exact (h.tz y hy).fr f (by simp) (by simp)
    · rw [List.mem_singleton.1 hy]; exact hx.fr f (by simp) (by simp)
  · rcases List.mem_append.1 hy with hy | hy
    · exact h.cls y hy
    · rw [List.mem_singleton.1 hy]; exact hc
  · rw [List.map_append]; exact f2.R r1 (fun q hm => by have : q ∈ [31] := hm; simp at this ⊢; omega)
  · rw [List.map_append]; exact r2
end
theorem info31 : (Try.prog.info? 31).map (fun i => (i.zero, i.size, i.bytes)) = some (some (.pointer none), 1, 8) := by kernel_rfl
end Tn
end Go.Proofs.Ytmhikecbajkonaa.Q
namespace Go.Proofs.Ytmhikecbajkonaa.Q
open Go.RowKit Go.Proofs.YtmhikecbajkonaaW.PrintWords Go.Proofs.YtmhikecbajkonaaW.PrintLast Go.Proofs.YtmhikecbajkonaaW.PrintMore
attribute [local go_sem] max2_int min2_int max_two min_two max_three min_three max_four min_four
set_option linter.unusedVariables false
set_option linter.unusedSimpArgs false
namespace Tn
set_option maxHeartbeats 8000000 in
set_option maxRecDepth 100000 in
theorem acts_A (W : World) (A0 : Option Addr) (c0 : Nat) (d : List Int) (hr0 : Kd.C (Kd.int .i64) W A0 d.length d) (hc0 : d.length ≤ c0) (A1 : Option Addr) (c1 : Nat) (l : List S80) (hr1 : Kd.C k80 W A1 l.length l) (hc1 : l.length ≤ c1) (A2 : Option Addr) (c2 : Nat) (la : List S45) (hr2 : Kd.C k45 W A2 la.length la) (hc2 : la.length ≤ c2) (ha : gradineplain_Args.f 200 [(⟨d, l⟩ : S25)] = some true) :
  Calls Try.prog 3 #[.agg #[.slice A0 d.length c0, .slice A1 l.length c1], .slice A2 la.length c2] W fun e W' => e = .returned (.bool true) ∧ Below W.heap.size W W' := by
 have AW := aM ha
 clear ha
 have hu25 := Try.underlying25
 have hu43 := Try.underlying43
 have hu45 := Try.underlying45
 have hu68 := Try.underlying68
 have hu38 := Try.underlying38
 have HR0 := aM (And.intro hr0 hc0)
 have HR1 := aM (And.intro hr1 hc1)
 have HR2 := aM (And.intro hr2 hc2)
 clear hr0 hc0 hr1 hc1 hr2 hc2
 have HB := aM (Below.refl W.heap.size W)
 go_enter Try.func3, Try.ntmps3
 go_wp2_with (first | ((with_reducible refine gate_dst (N := 2) rfl ?_); refine box_event ?hg (N := 2) ?hd (cs := #[.slice A0 d.length c0, .slice A1 l.length c1]) (t := 25) ?hr ?_; (case hd => rfl); (case hg => rfl); (case hr => first | (go_simp; done) | (go_simp; rfl)); intro ga hg_ w2 hbox hb; have BA := aM hbox; have GA := gE (w := W) hg_ (qB HB); replace HB := bS (qB HB) hb; have hza := blk2 BA.out; clear hb hbox hg_) | ((with_reducible refine gate_dst (N := 19) rfl ?_); refine lit ?hg (N := 19) ?hd (cs := #[.slice A0 d.length c0, .slice A1 l.length c1]) (t := 25) (n := 1) ?hr ?_; (case hd => rfl); (case hg => rfl); (case hr => first | (go_simp; done) | (go_simp; rfl)); intro lx hg w_lx hbox hb; have LX := aM hbox; replace BA := bK BA hb; replace HB := bS (qB HB) hb; replace hza := blk2 BA.out; clear hg hbox hb) | (go_at_call 5; (with_reducible refine (args1 _ (⟨d, l⟩ : S25) true _ (xC LX.out HR0.out.2 (Kd.C_below HR0.out.1 (qB HB)) HR1.out.2 (Kd.C_below HR1.out.1 (qB HB))) AW.out).mono ?_); rintro e w6 ⟨rfl, hb⟩; replace BA := bK BA hb; replace HB := bS (qB HB) hb; replace hza := blk2 BA.out; clear hb LX) | (go_at_call 7; (with_reducible refine (gradinelaw25_same.calls _).mono ?_); rintro e w8 ⟨rfl, hb⟩; replace BA := bK BA hb; replace HB := bS (qB HB) hb; replace hza := blk2 BA.out; clear hb))
 go_ret
 exact ⟨pE, qB HB⟩
set_option maxHeartbeats 8000000 in
set_option maxRecDepth 100000 in
theorem acts_B (W : World) (A0 : Option Addr) (c0 : Nat) (d : List Int) (hr0 : Kd.C (Kd.int .i64) W A0 d.length d) (hc0 : d.length ≤ c0) (A1 : Option Addr) (c1 : Nat) (l : List S80) (hr1 : Kd.C k80 W A1 l.length l) (hc1 : l.length ≤ c1) (A2 : Option Addr) (c2 : Nat) (la : List S45) (hr2 : Kd.C k45 W A2 la.length la) (hc2 : la.length ≤ c2) (ha : gradineplain_Args.f 200 [(⟨d, l⟩ : S25)] = some false) (hm : gradinelaw25_many.f (la.length + 300) la = some true) :
  Calls Try.prog 3 #[.agg #[.slice A0 d.length c0, .slice A1 l.length c1], .slice A2 la.length c2] W fun e W' => e = .returned (.bool true) ∧ Below W.heap.size W W' := by
 have AW := aM ha
 have AM := aM hm
 clear ha hm
 have hu25 := Try.underlying25
 have hu43 := Try.underlying43
 have hu45 := Try.underlying45
 have hu68 := Try.underlying68
 have hu38 := Try.underlying38
 have HR0 := aM (And.intro hr0 hc0)
 have HR1 := aM (And.intro hr1 hc1)
 have HR2 := aM (And.intro hr2 hc2)
 clear hr0 hc0 hr1 hc1 hr2 hc2
 have HB := aM (Below.refl W.heap.size W)
 go_enter Try.func3, Try.ntmps3
 go_wp2_with (first | ((with_reducible refine gate_dst (N := 2) rfl ?_); refine box_event ?hg (N := 2) ?hd (cs := #[.slice A0 d.length c0, .slice A1 l.length c1]) (t := 25) ?hr ?_; (case hd => rfl); (case hg => rfl); (case hr => first | (go_simp; done) | (go_simp; rfl)); intro ga hg_ w2 hbox hb; have BA := aM hbox; have GA := gE (w := W) hg_ (qB HB); replace HB := bS (qB HB) hb; have hza := blk2 BA.out; clear hb hbox hg_) | ((with_reducible refine gate_dst (N := 19) rfl ?_); refine lit ?hg (N := 19) ?hd (cs := #[.slice A0 d.length c0, .slice A1 l.length c1]) (t := 25) (n := 1) ?hr ?_; (case hd => rfl); (case hg => rfl); (case hr => first | (go_simp; done) | (go_simp; rfl)); intro lx hg w_lx hbox hb; have LX := aM hbox; replace BA := bK BA hb; replace HB := bS (qB HB) hb; replace hza := blk2 BA.out; clear hg hbox hb) | (go_at_call 5; (with_reducible refine (args1 _ (⟨d, l⟩ : S25) false _ (xC LX.out HR0.out.2 (Kd.C_below HR0.out.1 (qB HB)) HR1.out.2 (Kd.C_below HR1.out.1 (qB HB))) AW.out).mono ?_); rintro e w6 ⟨rfl, hb⟩; replace BA := bK BA hb; replace HB := bS (qB HB) hb; replace hza := blk2 BA.out; clear hb LX) | (go_at_call 6; (with_reducible refine (gradinelaw25_many.calls (la.length + 300) A2 c2 la true _ (Kd.C_below HR2.out.1 (qB HB)) HR2.out.2 AM.out).mono ?_); rintro e w7 ⟨rfl, hb⟩; replace BA := bK BA hb; replace HB := bS (qB HB) hb; replace hza := blk2 BA.out; clear hb) | (go_at_call 7; (with_reducible refine (gradinelaw25_same.calls _).mono ?_); rintro e w8 ⟨rfl, hb⟩; replace BA := bK BA hb; replace HB := bS (qB HB) hb; replace hza := blk2 BA.out; clear hb))
 go_ret
 exact ⟨pE, qB HB⟩
def ta.T5 : Bool × List (List Nat × List Nat) := (true, [([], []), ([0], [0]), ([1], [1]), ([2], [2]), ([3, 2], [2, 3]), ([4, 2], [2, 4]), ([2], [2]), ([6, 2], [2, 6]), ([7, 2, 2], [2, 7]), ([5, 8, 2], [2, 5, 8]), ([2, 9], [2, 9])])
def ta.B5 : List Nat := [0, 1, 3, 7, 15, 31, 7, 71, 199, 511, 1023]
theorem ta.tab5 : rtab .any (opsOf Try.f3 5) = ta.T5 := by kernel_rfl
theorem ta.bits5 : waitsOk ta.T5.2 ta.B5 = true := by kernel_rfl
set_option maxHeartbeats 8000000 in
set_option maxRecDepth 100000 in
theorem acts_C1 (W : World) (A0 : Option Addr) (c0 : Nat) (d : List Int) (hr0 : Kd.C (Kd.int .i64) W A0 d.length d) (hc0 : d.length ≤ c0) (A1 : Option Addr) (c1 : Nat) (l : List S80) (hr1 : Kd.C k80 W A1 l.length l) (hc1 : l.length ≤ c1) (A2 : Option Addr) (c2 : Nat) (la : List S45) (hr2 : Kd.C k45 W A2 la.length la) (hc2 : la.length ≤ c2) (ha : gradineplain_Args.f 200 [(⟨d, l⟩ : S25)] = some false) (hm : gradinelaw25_many.f (la.length + 300) la = some false) (kc : Nat) (r : Int) (hr : r ≠ 0) (he : shape_Check.f d = some r) (hc : gradineref19_Check.f kc d = some r) :
  Calls Try.prog 3 #[.agg #[.slice A0 d.length c0, .slice A1 l.length c1], .slice A2 la.length c2] W fun e W' => e = .returned (.bool true) ∧ Below W.heap.size W W' := by
 have AW := aM ha
 have AM := aM hm
 have HE := aM (show shape_Check.f d = some r ∧ r ≠ 0 ∨ r = 1 ∧ shape_Check.f d = some 0 ∧ ∃ k n, shape_Count.f k d = some n ∧ (l.length : Int) ≠ n from Or.inl ⟨he, hr⟩)
 have HC := aM hc
 have r1 : (r != 0) = true := bne_iff_ne.mpr hr
 have r2 : (r == 0) = false := beq_eq_false_iff_ne.mpr hr
 have r3 : decide (r = 0) = false := decide_eq_false hr
 have r4 : (r == r) = true := beq_self_eq_true r
 clear ha hm he hc hr
 have hu25 := Try.underlying25
 have hu43 := Try.underlying43
 have hu45 := Try.underlying45
 have hu68 := Try.underlying68
 have hu38 := Try.underlying38
 have HR0 := aM (And.intro hr0 hc0)
 have HR1 := aM (And.intro hr1 hc1)
 have HR2 := aM (And.intro hr2 hc2)
 clear hr0 hc0 hr1 hc1 hr2 hc2
 have HB := aM (Below.refl W.heap.size W)
 go_enter Try.func3, Try.ntmps3
 go_upto_region 5 with (first | ((with_reducible refine gate_dst (N := 2) rfl ?_); refine box_event ?hg (N := 2) ?hd (cs := #[.slice A0 d.length c0, .slice A1 l.length c1]) (t := 25) ?hr ?_; (case hd => rfl); (case hg => rfl); (case hr => first | (go_simp; done) | (go_simp; rfl)); intro ga hg_ w2 hbox hb; have BA := aM hbox; have GA := gE (w := W) hg_ (qB HB); replace HB := bS (qB HB) hb; have hza := blk2 BA.out; clear hb hbox hg_) | ((with_reducible refine gate_dst (N := 19) rfl ?_); refine lit ?hg (N := 19) ?hd (cs := #[.slice A0 d.length c0, .slice A1 l.length c1]) (t := 25) (n := 1) ?hr ?_; (case hd => rfl); (case hg => rfl); (case hr => first | (go_simp; done) | (go_simp; rfl)); intro lx hg w_lx hbox hb; have LX := aM hbox; replace BA := bK BA hb; replace HB := bS (qB HB) hb; replace hza := blk2 BA.out; clear hg hbox hb) | (go_at_call 5; (with_reducible refine (args1 _ (⟨d, l⟩ : S25) false _ (xC LX.out HR0.out.2 (Kd.C_below HR0.out.1 (qB HB)) HR1.out.2 (Kd.C_below HR1.out.1 (qB HB))) AW.out).mono ?_); rintro e w6 ⟨rfl, hb⟩; replace BA := bK BA hb; replace HB := bS (qB HB) hb; replace hza := blk2 BA.out; clear hb LX) | (go_at_call 6; (with_reducible refine (gradinelaw25_many.calls (la.length + 300) A2 c2 la false _ (Kd.C_below HR2.out.1 (qB HB)) HR2.out.2 AM.out).mono ?_); rintro e w7 ⟨rfl, hb⟩; replace BA := bK BA hb; replace HB := bS (qB HB) hb; replace hza := blk2 BA.out; clear hb) | (go_at_call 8; (with_reducible refine (new_no A0 c0 d A1 c1 l r _ (Kd.C_below HR0.out.1 (qB HB)) HR0.out.2 HE.out).mono ?_); rintro e w10 ⟨rfl, hb⟩; replace BA := bK BA hb; replace HB := bS (qB HB) hb; replace hza := blk2 BA.out; clear hb) | (go_at_call 9; (with_reducible refine (gradineref19_Check.calls kc A0 c0 d r _ (Kd.C_below HR0.out.1 (qB HB)) HR0.out.2 HC.out).mono ?_); rintro e w9 ⟨rfl, hb0⟩; have hb := hb0.below; replace BA := bK BA hb; replace HB := bS (qB HB) hb; replace hza := blk2 BA.out; clear hb hb0))
 clear hza
 replace HB := aM (below_drew1 HB.out)
 replace BA := aM (bD BA.out)
 refine start_ (n := 11) (S := fun w' => w'.cell? ⟨ga, 0, none⟩ = some (.slice A0 d.length c0) ∧ w'.cell? ⟨ga, 1, none⟩ = some (.slice A1 l.length c1)) (ds := []) (bm 11 0) (by kernel_rfl) rfl rfl ⟨(blk2 BA.out).1, (blk2 BA.out).2.1⟩ (fun hHeld => ?_); refine with_tabW ta.tab5 ta.bits5 (fun HT_ HW_ => ?_)
 refine pP (i := 0) (N := some 34) (bm 11 1) rfl rfl HT_.out ?_
 refine pP (i := 1) (N := some 35) (bm 11 3) rfl rfl HT_.out ?_
 refine pP (i := 2) (N := some 36) (bm 11 7) rfl rfl HT_.out ?_
 refine pS (i := 3) (N := some 37) (bm 11 15) rfl rfl HT_.out ?_
 refine pS (i := 4) (N := some 38) (bm 11 31) rfl rfl HT_.out ?_
 refine pS (i := 5) (N := some 39) (bm 11 63) rfl rfl HT_.out ?_
 refine pS (i := 6) (N := some 40) (bm 11 127) rfl rfl HT_.out ?_
 refine pS (i := 7) (N := some 41) (bm 11 255) rfl rfl HT_.out ?_
 refine pS (i := 8) (N := some 42) (bm 11 511) rfl rfl HT_.out ?_
 refine pS (i := 9) (N := some 43) (bm 11 1023) rfl rfl HT_.out ?_
 refine pP (i := 10) (N := some 44) (bm 11 2047) rfl rfl HT_.out ?_
 refine done_ (done_of HT_.out (by kernel_rfl)) ?_
 clear hHeld HT_ HW_
 have hza := blk2 BA.out
 go_wp2_with (first | (go_at_call 7; (with_reducible refine (gradinelaw25_same.calls _).mono ?_); rintro e w8 ⟨rfl, hb⟩; replace BA := bK BA hb; replace HB := bS (qB HB) hb; replace hza := blk2 BA.out; clear hb))
 go_ret
 exact ⟨pE, qB HB⟩
set_option maxHeartbeats 8000000 in
set_option maxRecDepth 100000 in
theorem acts_C2 (W : World) (A0 : Option Addr) (c0 : Nat) (d : List Int) (hr0 : Kd.C (Kd.int .i64) W A0 d.length d) (hc0 : d.length ≤ c0) (A1 : Option Addr) (c1 : Nat) (l : List S80) (hr1 : Kd.C k80 W A1 l.length l) (hc1 : l.length ≤ c1) (A2 : Option Addr) (c2 : Nat) (la : List S45) (hr2 : Kd.C k45 W A2 la.length la) (hc2 : la.length ≤ c2) (ha : gradineplain_Args.f 200 [(⟨d, l⟩ : S25)] = some false) (hm : gradinelaw25_many.f (la.length + 300) la = some false) (kc ks : Nat) (n : Int) (he : shape_Check.f d = some 0) (hs : shape_Count.f ks d = some n) (hc : gradineref19_Check.f kc d = some 0) (hn : gradineref19_Count.f kc d = some n) (hl : (l.length : Int) ≠ n) :
  Calls Try.prog 3 #[.agg #[.slice A0 d.length c0, .slice A1 l.length c1], .slice A2 la.length c2] W fun e W' => e = .returned (.bool true) ∧ Below W.heap.size W W' := by
 have AW := aM ha
 have AM := aM hm
 have HE := aM (And.intro he (And.intro hs hl))
 have HC := aM hc
 have HN := aM hn
 have e1 : ((l.length : Int) != n) = true := bne_iff_ne.mpr hl
 have e2 : ((l.length : Int) == n) = false := beq_eq_false_iff_ne.mpr hl
 clear ha hm he hs hc hn hl
 have hu25 := Try.underlying25
 have hu43 := Try.underlying43
 have hu45 := Try.underlying45
 have hu68 := Try.underlying68
 have hu38 := Try.underlying38
 have HR0 := aM (And.intro hr0 hc0)
 have HR1 := aM (And.intro hr1 hc1)
 have HR2 := aM (And.intro hr2 hc2)
 clear hr0 hc0 hr1 hc1 hr2 hc2
 have HB := aM (Below.refl W.heap.size W)
 go_enter Try.func3, Try.ntmps3
 go_upto_region 5 with (first | ((with_reducible refine gate_dst (N := 2) rfl ?_); refine box_event ?hg (N := 2) ?hd (cs := #[.slice A0 d.length c0, .slice A1 l.length c1]) (t := 25) ?hr ?_; (case hd => rfl); (case hg => rfl); (case hr => first | (go_simp; done) | (go_simp; rfl)); intro ga hg_ w2 hbox hb; have BA := aM hbox; have GA := gE (w := W) hg_ (qB HB); replace HB := bS (qB HB) hb; have hza := blk2 BA.out; clear hb hbox hg_) | ((with_reducible refine gate_dst (N := 19) rfl ?_); refine lit ?hg (N := 19) ?hd (cs := #[.slice A0 d.length c0, .slice A1 l.length c1]) (t := 25) (n := 1) ?hr ?_; (case hd => rfl); (case hg => rfl); (case hr => first | (go_simp; done) | (go_simp; rfl)); intro lx hg w_lx hbox hb; have LX := aM hbox; replace BA := bK BA hb; replace HB := bS (qB HB) hb; replace hza := blk2 BA.out; clear hg hbox hb) | (go_at_call 5; (with_reducible refine (args1 _ (⟨d, l⟩ : S25) false _ (xC LX.out HR0.out.2 (Kd.C_below HR0.out.1 (qB HB)) HR1.out.2 (Kd.C_below HR1.out.1 (qB HB))) AW.out).mono ?_); rintro e w6 ⟨rfl, hb⟩; replace BA := bK BA hb; replace HB := bS (qB HB) hb; replace hza := blk2 BA.out; clear hb LX) | (go_at_call 6; (with_reducible refine (gradinelaw25_many.calls (la.length + 300) A2 c2 la false _ (Kd.C_below HR2.out.1 (qB HB)) HR2.out.2 AM.out).mono ?_); rintro e w7 ⟨rfl, hb⟩; replace BA := bK BA hb; replace HB := bS (qB HB) hb; replace hza := blk2 BA.out; clear hb) | (go_at_call 8; (with_reducible refine (new_bad2 ks A0 c0 d A1 c1 l n _ (Kd.C_below HR0.out.1 (qB HB)) HR0.out.2 HE.out.1 HE.out.2.1 HE.out.2.2).mono ?_); rintro e w10 ⟨rfl, hb⟩; replace BA := bK BA hb; replace HB := bS (qB HB) hb; replace hza := blk2 BA.out; clear hb) | (go_at_call 9; (with_reducible refine (gradineref19_Check.calls kc A0 c0 d 0 _ (Kd.C_below HR0.out.1 (qB HB)) HR0.out.2 HC.out).mono ?_); rintro e w9 ⟨rfl, hb0⟩; have hb := hb0.below; replace BA := bK BA hb; replace HB := bS (qB HB) hb; replace hza := blk2 BA.out; clear hb hb0))
 clear hza
 replace HB := aM (below_drew1 HB.out)
 replace BA := aM (bD BA.out)
 refine start_ (n := 11) (S := fun w' => w'.cell? ⟨ga, 0, none⟩ = some (.slice A0 d.length c0) ∧ w'.cell? ⟨ga, 1, none⟩ = some (.slice A1 l.length c1)) (ds := []) (bm 11 0) (by kernel_rfl) rfl rfl ⟨(blk2 BA.out).1, (blk2 BA.out).2.1⟩ (fun hHeld => ?_); refine with_tabW ta.tab5 ta.bits5 (fun HT_ HW_ => ?_)
 refine pP (i := 0) (N := some 34) (bm 11 1) rfl rfl HT_.out ?_
 refine pP (i := 1) (N := some 35) (bm 11 3) rfl rfl HT_.out ?_
 refine pP (i := 2) (N := some 36) (bm 11 7) rfl rfl HT_.out ?_
 refine pP (i := 3) (N := some 37) (bm 11 15) rfl rfl HT_.out ?_
 refine pP (i := 6) (N := some 40) (bm 11 79) rfl rfl HT_.out ?_
 refine pT (i := 4) (N := some 38) (bm 11 95) rfl rfl HT_.out HW_.out hHeld (by rintro w' ⟨s0, s1⟩; go_simp; with_reducible rfl) ?_
 refine pP (i := 5) (N := some 39) (bm 11 127) rfl rfl HT_.out ?_
 refine pT (i := 7) (N := some 41) (bm 11 255) rfl rfl HT_.out HW_.out hHeld (by rintro w' ⟨s0, s1⟩; go_simp; with_reducible rfl) ?_
 refine one_ (i := 8) (N := some 42) (bm 11 511) rfl rfl (one_of HT_.out (by kernel_rfl)) (by decide) (fun K hK => ?_)
 refine goes_ Try.func10 (by kernel_rfl) rfl #[.slice A0 d.length c0] (by rfl) rfl rfl pA ?_
 with_reducible refine (gradineref19_Count.calls kc A0 c0 d n _ (Kd.C_below HR0.out.1 HB.out) HR0.out.2 HN.out).mono ?_
 rintro e w11 ⟨rfl, hb0⟩
 refine ⟨_, rfl, ?_⟩
 have hb := hb0.below
 replace HB := bS (qB HB) hb
 replace BA := bK BA hb
 clear hb hb0
 refine hK.out _ _ ⟨(blk2 BA.out).1, (blk2 BA.out).2.1⟩ (fun hHeld => ?_)
 clear hK K
 refine norm_ (a' := ?_) ?_ ?_
 rotate_left
 ·show Act.put _ (some 42) _ = _
  simp only [Act.put, sP, i64_w, i32_w]
  rfl
 refine pP (i := 9) (N := some 43) (bm 11 1023) rfl rfl HT_.out ?_
 refine pP (i := 10) (N := some 44) (bm 11 2047) rfl rfl HT_.out ?_
 refine done_ (done_of HT_.out (by kernel_rfl)) ?_
 clear hHeld HT_ HW_
 have hza := blk2 BA.out
 go_wp2_with (first | (go_at_call 7; (with_reducible refine (gradinelaw25_same.calls _).mono ?_); rintro e w8 ⟨rfl, hb⟩; replace BA := bK BA hb; replace HB := bS (qB HB) hb; replace hza := blk2 BA.out; clear hb))
 go_ret
 exact ⟨pE, qB HB⟩
end Tn
end Go.Proofs.Ytmhikecbajkonaa.Q
namespace Go.Proofs.Ytmhikecbajkonaa.Q
open Go.RowKit Go.Proofs.YtmhikecbajkonaaW.PrintWords Go.Proofs.YtmhikecbajkonaaW.PrintLast Go.Proofs.YtmhikecbajkonaaW.PrintMore
attribute [local go_sem] max2_int min2_int max_two min_two max_three min_three max_four min_four
set_option linter.unusedVariables false
set_option linter.unusedSimpArgs false
namespace Tn
theorem ten_lower {w : World} {b b' gt gs : Nat} {o : Int} {d s : List Int} (h : Ten w b gt gs o d s) (hb : b' ≤ b) : Ten w b' gt gs o d s := by
  obtain ⟨Ad, cd, As, cs, h1, h2, h3⟩ := h
  exact ⟨Ad, cd, As, cs, h1, Kd.R_lower h2 hb, Kd.R_lower h3 hb⟩
theorem idx_in {n : Nat} : ∀ c ∈ St.idx n, 0 ≤ c ∧ c < (n : Int) := by
  intro c hc
  unfold St.idx at hc
  obtain ⟨j, hj, rfl⟩ := List.mem_map.1 hc
  have := List.mem_range.1 hj
  simp only [Int.ofNat_eq_natCast]
  omega
theorem cls_in {o : Int} {d s cl : List Int} {n : Int} (h : Gr.rgt o d s n = true) (hc : Gr.cls o d s n = cl) : ∀ c ∈ cl, 0 ≤ c ∧ c < n := Pure.t_in h hc
theorem row_ne {α β : Type} {d1 : Kd α} {d2 : Kd β} {w : World} {b1 b2 : Nat} {ok1 ok2 : Nat → Prop} {v1 v2 : Value} {x1 : List α} {x2 : List β} (h1 : d1.R 3 w b1 ok1 v1 x1) (h2 : d2.R 22 w b2 ok2 v2 x2) : ∀ k, some k = v1.ownBlock → some k ≠ v2.ownBlock := fun k hk he => by
  obtain ⟨c1, e1⟩ := Kd.R_typed h1 k hk.symm
  obtain ⟨c2, e2⟩ := Kd.R_typed h2 k he.symm
  rw [e1] at e2
  cases e2
theorem blk_old {W : World} {A : Option Addr} {l : List S80} (h : Kd.C k80 W A l.length l) (hp : 0 < l.length) (ad : Addr) (e : A = some ad) : ad.block < W.heap.size := by
  obtain ⟨ad', _, _, _, _, e', h0, _⟩ := at_T80 h 0 (by omega) (by omega)
  rw [e] at e'
  cases e'
  have h1 := World.block_lt_of_cell? W _ h0
  rwa [show ((ad.add ((0 : Int).toNat * 5))).block = ad.block by unfold Addr.add; split <;> rfl] at h1
theorem PP_fr {W w w' : World} {gf : Nat} {A : Option Addr} {c : Nat} {V U : List S80} {ver E : Int} {e : Ending} {cs : Array Value} (hf : w.heap[gf]? = some (.cells cs 38 (0, 0))) (h : Rf.PP W w gf A c V ver E U e w') : Fr [38] w w' := by
  rcases h.2 with ⟨_, _, hb⟩ | ⟨_, _, _, _, _, _, h1, h2⟩
  · exact Fr.of_below hb
  · exact Fr.of_ref hf h1 h2
theorem AI.vtC {W w : World} {gs gr c gf ga gt : Nat} {A0 : Option Addr} {c0 : Nat} {d sd : List Int} {A1 : Option Addr} {c1 : Nat} {l V : List S80} {ver : Int} {A : Option Addr} {c' : Nat} {ts : List Tz} {At : Option Addr} {n ct : Nat} {va : Value} (h : AI W w gs gr c gf ga gt A0 c0 d sd A1 c1 l V ver A c' ts (.slice At n ct) va) : kP.C w At ts.length (ts.map Tz.g) := by
  have := (Kd.R_reads' h.vt).2.2
  rwa [List.length_map] at this
theorem AI.vaC {W w : World} {gs gr c gf ga gt : Nat} {A0 : Option Addr} {c0 : Nat} {d sd : List Int} {A1 : Option Addr} {c1 : Nat} {l V : List S80} {ver : Int} {A : Option Addr} {c' : Nat} {ts : List Tz} {Ac : Option Addr} {n cc : Nat} {vt : Value} (h : AI W w gs gr c gf ga gt A0 c0 d sd A1 c1 l V ver A c' ts vt (.slice Ac n cc)) : Kd.C (Kd.slice 3 (Kd.int .i64)) w Ac ts.length (ts.map Tz.cl) := by
  have := (Kd.R_reads' h.va).2.2
  rwa [List.length_map] at this
def tb.T5 : Bool × List (List Nat × List Nat) := (true, [([], []), ([0], [0]), ([1], [1]), ([2], [2]), ([3, 2], [2, 3]), ([4, 2], [2, 4]), ([2], [2]), ([6, 2], [2, 6]), ([7, 2, 2], [2, 7]), ([5, 8, 2], [2, 5, 8]), ([2, 9], [2, 9])])
def tb.B5 : List Nat := [0, 1, 3, 7, 15, 31, 7, 71, 199, 511, 1023]
theorem tb.tab5 : rtab .any (opsOf Try.f3 5) = tb.T5 := by kernel_rfl
theorem tb.bits5 : waitsOk tb.T5.2 tb.B5 = true := by kernel_rfl
def tb.T21 : Bool × List (List Nat × List Nat) := (true, [([], []), ([], []), ([0, 1], [0, 1]), ([2], [2]), ([3], [3]), ([], []), ([5], [5]), ([6], [6]), ([4, 7], [4, 7]), ([8, 8, 0, 1, 2, 3, 4, 5, 6, 7, 8], [8])])
def tb.B21 : List Nat := [0, 0, 3, 7, 15, 0, 32, 96, 255, 511]
theorem tb.tab21 : rtab .any (opsOf Try.f3 21) = tb.T21 := by kernel_rfl
theorem tb.bits21 : waitsOk tb.T21.2 tb.B21 = true := by kernel_rfl
def tb.T26 : Bool × List (List Nat × List Nat) := (true, [([], []), ([0], [0]), ([1], [1]), ([2], [2]), ([2], [2]), ([3, 4, 2, 2], [2, 3, 4]), ([5, 2], [2, 5]), ([2, 6], [2, 6]), ([7, 5], [7]), ([8], [8]), ([8], [8]), ([8], [8]), ([11, 8], [8, 11]), ([12, 8], [8, 12]), ([10, 13, 8], [8, 10, 13]), ([14, 8], [8, 14]), ([9, 15, 8, 8], [8, 9, 15]), ([8], [8]), ([8], [8]), ([8], [8]), ([19, 8], [8, 19]), ([20, 8], [8, 20]), ([18, 21, 8], [8, 18, 21]), ([22, 8], [8, 22]), ([17, 23, 16, 8], [8, 17, 23]), ([16, 24, 8], [8, 16, 24]), ([8, 25], [8, 25])])
def tb.B26 : List Nat := [0, 1, 3, 7, 7, 31, 63, 127, 255, 511, 511, 511, 2559, 6655, 15871, 32255, 65535, 511, 511, 511, 524799, 1573375, 3932671, 8126975, 16777215, 33554431, 67108863]
theorem tb.tab26 : rtab .any (opsOf Try.f3 26) = tb.T26 := by kernel_rfl
theorem tb.bits26 : waitsOk tb.T26.2 tb.B26 = true := by kernel_rfl
def tb.T30 : Bool × List (List Nat × List Nat) := (true, [([], []), ([], []), ([], []), ([1, 2], [1, 2]), ([3], [3]), ([4], [4]), ([0, 5], [0, 5]), ([], []), ([], []), ([], []), ([], []), ([9, 10], [9, 10]), ([11], [11]), ([12], [12]), ([7, 8, 13, 6], [7, 8, 13]), ([6, 14], [6, 14]), ([15, 14], [15]), ([16], [16]), ([16], [16]), ([16], [16]), ([17, 18, 19, 16, 16], [16, 17, 18, 19]), ([20, 16], [16, 20]), ([16, 21], [16, 21])])
def tb.B30 : List Nat := [0, 0, 0, 6, 14, 30, 63, 0, 0, 0, 0, 1536, 3584, 7680, 16383, 32767, 65535, 131071, 131071, 131071, 1048575, 2097151, 4194303]
theorem tb.tab30 : rtab .any (opsOf Try.f3 30) = tb.T30 := by kernel_rfl
theorem tb.bits30 : waitsOk tb.T30.2 tb.B30 = true := by kernel_rfl
def tb.T33 : Bool × List (List Nat × List Nat) := (true, [([], []), ([0], [0]), ([], []), ([], []), ([2, 3], [2, 3]), ([4], [4]), ([5], [5]), ([6], [6]), ([1, 7], [1, 7]), ([8], [8]), ([9, 8], [9]), ([10], [10]), ([11, 10, 10], [10, 11]), ([10], [10]), ([12, 13, 12, 10], [10, 12, 13]), ([14, 10], [10, 14]), ([10, 15], [10, 15])])
def tb.B33 : List Nat := [0, 1, 0, 0, 12, 28, 60, 124, 255, 511, 1023, 2047, 4095, 2047, 16383, 32767, 65535]
theorem tb.tab33 : rtab .any (opsOf Try.f3 33) = tb.T33 := by kernel_rfl
theorem tb.bits33 : waitsOk tb.T33.2 tb.B33 = true := by kernel_rfl
set_option maxHeartbeats 8000000 in
set_option maxRecDepth 100000 in
theorem acts_E (W : World) (A0 : Option Addr) (c0 : Nat) (d : List Int) (hr0 : Kd.C (Kd.int .i64) W A0 d.length d) (hc0 : d.length ≤ c0) (A1 : Option Addr) (c1 : Nat) (l : List S80) (hr1 : Kd.C k80 W A1 l.length l) (hc1 : l.length ≤ c1) (A2 : Option Addr) (c2 : Nat) (la : List S45) (hr2 : Kd.C k45 W A2 la.length la) (hc2 : la.length ≤ c2) (ha : gradineplain_Args.f 200 [(⟨d, l⟩ : S25)] = some false) (hm : gradinelaw25_many.f (la.length + 300) la = some false) (kc k : Nat) (n : Int) (sd : List Int) (hc : gradineref19_Check.f kc d = some 0) (hn : gradineref19_Count.f kc d = some n) (he : shape_Check.f d = some 0 ∧ shape_Count.f k d = some n ∧ (l.length : Int) = n ∧ view_Whole.f k d = some (0, d, sd) ∧ 1 ≤ l.length ∧ l.length ≤ 64 ∧ store_copies.f k l = some l) (hsw : ∀ x ∈ l, St.sw x) (hd6 : d.length ≤ 6) (hcls : Gr.cls 0 d sd 64 = St.idx l.length) (hm20 : la.length ≤ 20) (hact : ∀ j, j < la.length → actOk (rd_T45 la (j : Int))) :
  Calls Try.prog 3 #[.agg #[.slice A0 d.length c0, .slice A1 l.length c1], .slice A2 la.length c2] W fun e W' => e = .returned (.bool true) ∧ Below W.heap.size W W' := by
 have AW := aM ha
 have AM := aM hm
 have HC := aM hc
 have HN := aM hn
 have HE := aM he
 have HSW := aM hsw
 have HD := aM (And.intro hd6 hcls)
 have HACT := aM (And.intro hm20 hact)
 have e1 : ((l.length : Int) != n) = false := bne_eq_false_iff_eq.mpr he.2.2.1
 have e2 : ((l.length : Int) == n) = true := beq_iff_eq.mpr he.2.2.1
 clear ha hm hc hn he hsw hd6 hcls hm20 hact
 have hu25 := Try.underlying25
 have hu43 := Try.underlying43
 have hu45 := Try.underlying45
 have hu68 := Try.underlying68
 have hu38 := Try.underlying38
 have HR0 := aM (And.intro hr0 hc0)
 have HR1 := aM (And.intro hr1 hc1)
 have HR2 := aM (And.intro hr2 hc2)
 clear hr0 hc0 hr1 hc1 hr2 hc2
 have HB := aM (Below.refl W.heap.size W)
 go_enter Try.func3, Try.ntmps3
 go_upto_region 5 with (first | ((with_reducible refine gate_dst (N := 2) rfl ?_); refine box_event ?hg (N := 2) ?hd (cs := #[.slice A0 d.length c0, .slice A1 l.length c1]) (t := 25) ?hr ?_; (case hd => rfl); (case hg => rfl); (case hr => first | (go_simp; done) | (go_simp; rfl)); intro ga hg_ w2 hbox hb; have BA := aM hbox; have GA := gE (w := W) hg_ (qB HB); replace HB := bS (qB HB) hb; have hza := blk2 BA.out; clear hb hbox hg_) | ((with_reducible refine gate_dst (N := 19) rfl ?_); refine lit ?hg (N := 19) ?hd (cs := #[.slice A0 d.length c0, .slice A1 l.length c1]) (t := 25) (n := 1) ?hr ?_; (case hd => rfl); (case hg => rfl); (case hr => first | (go_simp; done) | (go_simp; rfl)); intro lx hg w_lx hbox hb; have LX := aM hbox; replace BA := bK BA hb; replace HB := bS (qB HB) hb; replace hza := blk2 BA.out; clear hg hbox hb) | (go_at_call 5; (with_reducible refine (args1 _ (⟨d, l⟩ : S25) false _ (xC LX.out HR0.out.2 (Kd.C_below HR0.out.1 (qB HB)) HR1.out.2 (Kd.C_below HR1.out.1 (qB HB))) AW.out).mono ?_); rintro e w6 ⟨rfl, hb⟩; replace BA := bK BA hb; replace HB := bS (qB HB) hb; replace hza := blk2 BA.out; clear hb LX) | (go_at_call 6; (with_reducible refine (gradinelaw25_many.calls (la.length + 300) A2 c2 la false _ (Kd.C_below HR2.out.1 (qB HB)) HR2.out.2 AM.out).mono ?_); rintro e w7 ⟨rfl, hb⟩; replace BA := bK BA hb; replace HB := bS (qB HB) hb; replace hza := blk2 BA.out; clear hb) | ((with_reducible refine gate_callee (f := 8) rfl ?_); refine goesL_ (some 28) rfl rfl Try.func8 (by kernel_rfl) rfl #[.agg #[.slice A0 d.length c0, .slice A1 l.length c1]] rfl pA ?_; (with_reducible refine (new_ok k A0 c0 d A1 c1 l sd l n _ (Kd.C_below HR0.out.1 (qB HB)) HR0.out.2 (Kd.C_below HR1.out.1 (qB HB)) HR1.out.2 HE.out.1 HE.out.2.1 HE.out.2.2.1 HE.out.2.2.2.1 HE.out.2.2.2.2.1 HE.out.2.2.2.2.2.1 HE.out.2.2.2.2.2.2 rfl).mono ?_); rintro e w10 ⟨gt, gs, gr, c, rfl, hT, hst, hS, hl1, hl2, hl3, hb⟩; refine ⟨_, rfl, ?_⟩; have SZ := aM (below_size (qB (p := Below W.heap.size W _) HB)); have T0 := aM (ten_lower hT SZ.out); have BS := aM hst; have HS := aM (Kd.S_lower hS SZ.out); have HX := aM (show W.heap.size ≤ gs ∧ W.heap.size ≤ gr ∧ gs ≠ gr from ⟨Nat.le_trans SZ.out hl1, Nat.le_trans SZ.out hl2, fun e_ => Kd.S_ne hS hst (by decide) (by rw [e_]; simp [Value.ownBlock])⟩); replace BA := bK BA hb; replace HB := bS (qB HB) hb; replace hza := blk2 BA.out; clear hb hT hst hS hl1 hl2 hl3 SZ) | (go_at_call 9; (with_reducible refine (gradineref19_Check.calls kc A0 c0 d 0 _ (Kd.C_below HR0.out.1 (qB HB)) HR0.out.2 HC.out).mono ?_); rintro e w9 ⟨rfl, hb0⟩; have hb := hb0.below; replace T0 := aM (T0.out.below hb); replace BS := bK BS hb; replace HS := aM (Kd.S_below (by (with_reducible repeat (first | apply Kd.S_alloc | apply Kd.S_drewN | apply Kd.S_drew)); exact HS.out) hb); replace BA := bK BA hb; replace HB := bS (qB HB) hb; replace hza := blk2 BA.out; clear hb hb0))
 clear hza
 replace HB := aM (below_drew1 HB.out)
 replace BA := aM (bD BA.out)
 replace T0 := aM (T0.out.below (Below.refl _ _).drew)
 replace BS := aM (bD BS.out)
 replace HS := aM (Kd.S_drew HS.out)
 refine start_ (n := 11) (S := fun w' => w'.cell? ⟨ga, 0, none⟩ = some (.slice A0 d.length c0) ∧ w'.cell? ⟨ga, 1, none⟩ = some (.slice A1 l.length c1)) (ds := []) (bm 11 0) (by kernel_rfl) rfl rfl ⟨(blk2 BA.out).1, (blk2 BA.out).2.1⟩ (fun hHeld => ?_); refine with_tabW tb.tab5 tb.bits5 (fun HT_ HW_ => ?_)
 refine pP (i := 0) (N := some 34) (bm 11 1) rfl rfl HT_.out ?_
 refine pP (i := 1) (N := some 35) (bm 11 3) rfl rfl HT_.out ?_
 refine pP (i := 2) (N := some 36) (bm 11 7) rfl rfl HT_.out ?_
 refine pP (i := 3) (N := some 37) (bm 11 15) rfl rfl HT_.out ?_
 refine pP (i := 6) (N := some 40) (bm 11 79) rfl rfl HT_.out ?_
 refine pT (i := 4) (N := some 38) (bm 11 95) rfl rfl HT_.out HW_.out hHeld (by rintro w' ⟨s0, s1⟩; go_simp; with_reducible rfl) ?_
 refine pP (i := 5) (N := some 39) (bm 11 127) rfl rfl HT_.out ?_
 refine pT (i := 7) (N := some 41) (bm 11 255) rfl rfl HT_.out HW_.out hHeld (by rintro w' ⟨s0, s1⟩; go_simp; with_reducible rfl) ?_
 refine one_ (i := 8) (N := some 42) (bm 11 511) rfl rfl (one_of HT_.out (by kernel_rfl)) (by decide) (fun K hK => ?_)
 refine goes_ Try.func10 (by kernel_rfl) rfl #[.slice A0 d.length c0] (by rfl) rfl rfl pA ?_
 with_reducible refine (gradineref19_Count.calls kc A0 c0 d n _ (Kd.C_below HR0.out.1 HB.out) HR0.out.2 HN.out).mono ?_
 rintro e w11 ⟨rfl, hb0⟩
 refine ⟨_, rfl, ?_⟩
 have hb := hb0.below
 replace T0 := aM (T0.out.below hb)
 replace BS := bK BS hb
 replace HS := aM (Kd.S_below HS.out hb)
 replace HB := bS (qB HB) hb
 replace BA := bK BA hb
 clear hb hb0
 refine hK.out _ _ ⟨(blk2 BA.out).1, (blk2 BA.out).2.1⟩ (fun hHeld => ?_)
 clear hK K
 refine norm_ (a' := ?_) ?_ ?_
 rotate_left
 ·show Act.put _ (some 42) _ = _
  simp only [Act.put, sP, i64_w, i32_w]
  rfl
 refine pP (i := 9) (N := some 43) (bm 11 1023) rfl rfl HT_.out ?_
 refine pP (i := 10) (N := some 44) (bm 11 2047) rfl rfl HT_.out ?_
 refine done_ (done_of HT_.out (by kernel_rfl)) ?_
 clear hHeld HT_ HW_ e1 e2
 have hza := blk2 BA.out
 go_wp2_with (first | ((with_reducible refine gate_dst (N := 60) rfl ?_); refine box_event ?hg (N := 60) ?hd (cs := #[.slice A1 l.length c1, .int .i64 0]) (t := 38) ?hr ?_; (case hd => rfl); (case hg => rfl); (case hr => first | (go_simp; done) | (go_simp; rfl)); intro gf hg_ w13 hbox hb; have GF := gE (w := W) hg_ (qB HB); have INV := aM (Sb.Inv.mk (W := W) (c' := c1) (blk_below (by (with_reducible repeat (first | apply bN | apply bD | apply bA)); exact BS.out) hb) (Kd.S_below (by (with_reducible repeat (first | apply Kd.S_alloc | apply Kd.S_drewN | apply Kd.S_drew)); exact HS.out) hb) hbox (Or.inl ⟨A1, c1, rfl, HR1.out.2, HR1.out.1⟩) (below_step (qB HB) hb)); replace T0 := aM (T0.out.below hb); replace BA := bK BA hb; replace HB := bS (qB HB) hb; replace hza := blk2 BA.out; clear BS HS; clear hb hbox hg_) | ((with_reducible refine gate_dst (N := 62) rfl ?_); refine Kd.R_lit kP (w0 := W) W.heap.size 31 ?hg (N := 62) ?hd (xs := [gt]) (inner := [.pointer (some ⟨gt, 0, none⟩)]) (ok := fun _ => True) (okp := fun _ => False) ?hr (Reps.snoc (Reps.none _ _) rfl rfl) (fun _ h_ => h_.elim) trivial (qB HB) (below_size (qB HB)) (by simp) ?_; (case hd => rfl); (case hg => rfl); (case hr => first | (go_simp; done) | (go_simp; rfl)); intro vt w14 hvt hb hgr _; have VT := aM hvt; have HF := aM (Fr.of_grown0 (Q := []) hgr); replace INV := aM (HF.out.Inv INV.out hb (fun _ _ h_ => by simp at h_)); replace T0 := aM (HF.out.Ten T0.out (by simp) (by simp)); replace BA := aM (HF.out.blk BA.out (by simp)); replace HB := aM hb; replace hza := blk2 BA.out; clear hvt hb hgr HF))
 clear hza
 go_loopg [10, 66] l.length (fun kq v10 v66 w' => ∃ (i : Nat), v66 = .int .i64 (i : Int) ∧ Aside0 (i + kq = l.length) ∧ Aside0 (Kd.R (Kd.int .i64) 3 w' w14.heap.size (fun _ => True) v10 (St.idx i)) ∧ Aside0 (Below w14.heap.size w14 w'))
 case atStart => exact ⟨0, rfl, ⟨by omega⟩, ⟨Kd.R_nil _ _ _ _ _⟩, ⟨by repeat (first | exact Below.refl _ _ | apply below_alloc | apply pw_below_drewN | apply below_drew1)⟩⟩
 case round =>
  obtain ⟨i, rfl, HK, zd, HZ⟩ := hrel
  cases gk with
  | succ kq =>
   have d1 : decide ((i : Int) < (l.length : Int)) = true := decide_eq_true (by have := HK.out; omega)
   have d2 : decide (i < l.length) = true := decide_eq_true (by have := HK.out; omega)
   have p1 : (0 ≤ (i : Int)) = True := eq_true (by omega)
   have q1 : ((i : Int) < (l.length : Int)) = True := eq_true (by have := HK.out; omega)
   have q2 : (i < l.length) = True := eq_true (by have := HK.out; omega)
   go_wp2_with (first | ((with_reducible refine gate_builtin (b := .append) (xs := #[.tmp 69, .tmp 71]) rfl ?_); at_builtin; refine Kd.R_append (Kd.int .i64) (w0 := w14) w14.heap.size rfl (.tmp 69) (.tmp 71) 22 3 (.int .i64 0) 8 rfl Try.underlying22 info3 rfl (by decide) (by omega) u10 (St.idx i) (i : Int) [.int .i64 (i : Int)] (fun _ => True) (fun _ => False) rfl rfl rfl (fun _ hk => hk.elim) (fun _ _ => trivial) (pR zd.out) (qB HZ) (below_size (qB HZ)) (by have := St.idx_len i; have := HK.out; have := HE.out.2.2.2.2.2.1; omega) ?_; intro v51 w22 ho hb hg hat; rw [← St.idx_succ] at ho; replace HZ := aM (hb); have HO := aM (ho); clear zd; clear ho hb hg hat))
   go_roundg kq
   case measure => omega
   case rel => exact ⟨i + 1, by first | rfl | (rw [w64o (by have := HK.out; have := HE.out.2.2.2.2.2.1; omega) (by have := HK.out; have := HE.out.2.2.2.2.2.1; omega)]; rfl), ⟨by have := HK.out; omega⟩, ⟨pR HO.out⟩, ⟨qB HZ⟩⟩
  | zero =>
   have hin : i = l.length := by have := HK.out; omega
   clear HK
   subst hin
   have d1 : decide ((l.length : Int) < (l.length : Int)) = false := decide_eq_false (by omega)
   have d2 : decide (l.length < l.length) = false := decide_eq_false (by omega)
   have FZ := aM (Fr.of_below (Q := []) HZ.out)
   replace INV := aM (FZ.out.Inv INV.out (below_step HB.out HZ.out) (fun _ _ h_ => by simp at h_))
   replace T0 := aM (FZ.out.Ten T0.out (by simp) (by simp))
   replace BA := aM (FZ.out.blk BA.out (by simp))
   replace VT := aM (FZ.out.R VT.out (fun _ _ h_ => by simp at h_))
   have SZ := aM (below_size HB.out)
   replace HB := aM (below_step HB.out HZ.out)
   have WR := aM (Kd.R_lower zd.out SZ.out)
   clear FZ HZ zd SZ
   obtain ⟨Aw, cw, ew⟩ := Kd.R_slice WR.out
   subst ew
   go_wp2_with (first | ((with_reducible refine gate_dst (N := 75) rfl ?_); refine Kd.R_lit (Kd.slice 3 (Kd.int .i64)) (w0 := W) W.heap.size 22 ?hg (N := 75) ?hd (xs := [St.idx l.length]) (inner := [.slice Aw (St.idx l.length).length cw]) (ok := fun _ => True) (okp := fun _ => True) ?hr (Reps.snoc (Reps.none _ _) ⟨_, rfl, pR WR.out⟩ rfl) (fun _ h_ => h_) trivial (qB HB) (below_size (qB HB)) (by simp) ?_; (case hd => rfl); (case hg => rfl); (case hr => first | (go_simp; done) | (go_simp; rfl)); intro va w15 hva hb hgr _; have VA := aM hva; have HF := aM (Fr.of_grown0 (Q := []) hgr); replace INV := aM (HF.out.Inv (by first | exact INV.out | exact Sb.Inv.step INV.out (by repeat (first | exact Below.refl _ _ | apply below_alloc | apply pw_below_drewN | apply below_drew1))) hb (fun _ _ h_ => by simp at h_)); replace T0 := aM (HF.out.Ten T0.out (by simp) (by simp)); replace BA := aM (HF.out.blk BA.out (by simp)); replace VT := aM (HF.out.R VT.out (fun _ _ h_ => by simp at h_)); replace HB := aM hb; clear hva hb hgr HF WR))
   have I0 := aM (AI.mk INV.out (ts := [⟨gt, 0, d, sd, St.idx l.length⟩]) (fun x hx => by rw [List.mem_singleton.1 hx]; exact ⟨T0.out, by obtain ⟨k, hk⟩ := Pure.t_list 0 d sd; rw [HD.out.2] at hk; exact ⟨k, hk⟩, by have := HD.out.1; show d.length ≤ 1000; omega, by have h_ := St.idx_len l.length; have := HE.out.2.2.2.2.2.1; show (St.idx l.length).length ≤ 100; omega, idx_in⟩) (fun x hx => by rw [List.mem_singleton.1 hx]; exact HD.out.2.symm) VT.out VA.out BA.out T0.out)
   clear INV VT VA BA T0 HB d1 d2
   go_loopg [9, 12, 78] la.length (fun kq v9 v12 v78 w' => ∃ (i : Nat) (V : List S80) (ver : Int) (A : Option Addr) (c' : Nat) (ts : List Tz), v78 = .int .i64 (i : Int) ∧ Aside0 (i + kq = la.length) ∧ Aside0 (V.length = l.length ∧ (∀ x ∈ V, St.sw x) ∧ 0 ≤ ver ∧ ver ≤ i) ∧ Aside0 (1 ≤ ts.length ∧ ts.length ≤ i + 1) ∧ Aside0 (AI W w' gs gr c gf ga gt A0 c0 d sd A1 c1 l V ver A c' ts v9 v12))
   case atStart => exact ⟨0, l, 0, A1, c1, [⟨gt, 0, d, sd, St.idx l.length⟩], rfl, ⟨by omega⟩, ⟨rfl, HSW.out, Int.le_refl _, Int.le_refl _⟩, ⟨Nat.le_refl 1, Nat.le_refl 1⟩, ⟨by first | exact I0.out | exact AI.step I0.out (Below.refl _ _).drew | exact AI.step I0.out (by repeat (first | exact Below.refl _ _ | apply below_alloc | apply pw_below_drewN | apply below_drew1))⟩⟩
   case round =>
    clear I0
    obtain ⟨i, V, ver, A, c', ts, rfl, HK, HV, HT, I1⟩ := hrel
    obtain ⟨At, ct, et, _⟩ := I1.out.vts
    obtain ⟨Ac, cc, ea, _⟩ := I1.out.vas
    subst et
    subst ea
    cases gk with
    | succ kq =>
     have d1 : decide ((i : Int) < (la.length : Int)) = true := decide_eq_true (by have := HK.out; omega)
     have d2 : decide (i < la.length) = true := decide_eq_true (by have := HK.out; omega)
     have p1 : (0 ≤ (i : Int)) = True := eq_true (by omega)
     have q1 : ((i : Int) < (la.length : Int)) = True := eq_true (by have := HK.out; omega)
     have q2 : (i < la.length) = True := eq_true (by have := HK.out; omega)
     obtain ⟨ad, B1, b1, B2, b2, B3, b3, ead, hy0, hy1, hy2, hy3, hl1, hi1, hl2, hi2, hl3, hi3⟩ := at_T45 HR2.out.1 (i : Int) (by omega) (by have := HK.out; omega)
     cases ead
     rw [Int.toNat_natCast] at hy0 hy1 hy2 hy3
     have QY := aM (And.intro hy0 (And.intro hy1 (And.intro hy2 hy3)))
     have HY1 := aM (And.intro hi1 hl1)
     have HY2 := aM (And.intro hi2 hl2)
     have HY3 := aM (And.intro hi3 hl3)
     clear hy0 hy1 hy2 hy3 hl1 hi1 hl2 hi2 hl3 hi3
     have ACT := aM (HACT.out.2 i (by have := HK.out; omega))
     obtain ⟨cl, hcl⟩ : ∃ x, Gr.cls (rd_T45 la (i : Int)).f0.f0 (rd_T45 la (i : Int)).f0.f1 (rd_T45 la (i : Int)).f0.f2 (l.length : Int) = x := ⟨_, rfl⟩
     have CL := aM hcl
     have CB := aM (show cl.length ≤ 64 by rw [← hcl]; exact (Pure.t_bound _ _ _ _).1)
     obtain ⟨kz, hkz⟩ := Pure.t_cells (rd_T45 la (i : Int)).f0.f0 (rd_T45 la (i : Int)).f0.f1 (rd_T45 la (i : Int)).f0.f2 (l.length : Int)
     rw [hcl] at hkz
     have KZ := aM hkz
     clear hkz hcl
     go_upto_region 21 with (fail)
     replace I1 := aM (AI.step I1.out (Below.refl _ _).drew)
     have mv : ∀ {a : Addr} {v : Value}, W.cell? a = some v → wr.drew.cell? a = some v := fun h_ => (I1.out.inv.bel.cell (World.block_lt_of_cell? W _ h_)).trans h_
     refine start_ (n := 10) (S := fun w' => w'.cell? (ad.add (i * 4)) = some (.int .i64 (rd_T45 la (i : Int)).f0.f0) ∧ w'.cell? ⟨(ad.add (i * 4)).block, (ad.add (i * 4)).off + 1, none⟩ = some (.slice B1 (rd_T45 la (i : Int)).f0.f1.length b1) ∧ w'.cell? ⟨(ad.add (i * 4)).block, (ad.add (i * 4)).off + 2, none⟩ = some (.slice B2 (rd_T45 la (i : Int)).f0.f2.length b2) ∧ w'.cell? ⟨ga, 1, none⟩ = some (.slice A1 l.length c1)) (ds := []) (bm 10 0) (by kernel_rfl) rfl rfl ⟨mv QY.out.1, mv QY.out.2.1, mv QY.out.2.2.1, (blk2 I1.out.box).2.1⟩ (fun hHeld => ?_); refine with_tabW tb.tab21 tb.bits21 (fun HT_ HW_ => ?_)
     generalize wr.drew = wd at I1 mv hHeld ⊢
     refine pP (i := 0) (N := some 81) (bm 10 1) rfl rfl HT_.out ?_
     refine pP (i := 1) (N := some 82) (bm 10 3) rfl rfl HT_.out ?_
     refine pP (i := 2) (N := some 83) (bm 10 7) rfl rfl HT_.out ?_
     refine pP (i := 3) (N := some 84) (bm 10 15) rfl rfl HT_.out ?_
     refine pP (i := 5) (N := some 86) (bm 10 47) rfl rfl HT_.out ?_
     refine pT (i := 4) (N := some 85) (bm 10 63) rfl rfl HT_.out HW_.out hHeld (by rintro w' ⟨s0, s1, s2, s3⟩; go_simp; with_reducible rfl) ?_
     refine pT (i := 6) (N := some 87) (bm 10 127) rfl rfl HT_.out HW_.out hHeld (by rintro w' ⟨s0, s1, s2, s3⟩; go_simp; with_reducible rfl) ?_
     refine pP (i := 7) (N := some 88) (bm 10 255) rfl rfl HT_.out ?_
     refine one_ (i := 8) (N := some 89) (bm 10 511) rfl rfl (one_of HT_.out (by kernel_rfl)) (by decide) (fun K hK => ?_)
     refine goes_ Try.func11 (by kernel_rfl) rfl #[.agg #[.int .i64 (rd_T45 la (i : Int)).f0.f0, .slice B1 (rd_T45 la (i : Int)).f0.f1.length b1, .slice B2 (rd_T45 la (i : Int)).f0.f2.length b2], .int .i64 (l.length : Int)] (by rfl) rfl rfl pA ?_
     with_reducible refine (gradineref22_Cells.calls kz (rd_T45 la (i : Int)).f0.f0 B1 b1 (rd_T45 la (i : Int)).f0.f1 B2 b2 (rd_T45 la (i : Int)).f0.f2 (l.length : Int) cl _ (Kd.C_below HY1.out.1 I1.out.inv.bel) HY1.out.2 (Kd.C_below HY2.out.1 I1.out.inv.bel) HY2.out.2 KZ.out).mono ?_
     rintro e w21 ⟨v14, rfl, ho, hb⟩
     refine ⟨_, rfl, ?_⟩
     obtain ⟨xA, xc, ex⟩ := Kd.R_slice ho
     subst ex
     have xR := aM (Kd.R_lower ho (below_size I1.out.inv.bel))
     replace I1 := aM (I1.out.step hb)
     clear ho hb mv
     have mv : ∀ {a : Addr} {v : Value}, W.cell? a = some v → w21.cell? a = some v := fun h_ => (I1.out.inv.bel.cell (World.block_lt_of_cell? W _ h_)).trans h_
     refine hK.out _ _ ⟨mv QY.out.1, mv QY.out.2.1, mv QY.out.2.2.1, (blk2 I1.out.box).2.1⟩ (fun hHeld => ?_)
     clear hK K
     refine norm_ (a' := ?_) ?_ ?_
     rotate_left
     ·show Act.put _ (some 89) _ = _
      simp only [Act.put, sP, i64_w, i32_w]
      rfl
     refine pP (i := 9) (N := some 14) (bm 10 1023) rfl rfl HT_.out ?_
     refine done_ (done_of HT_.out (by kernel_rfl)) ?_
     clear hHeld HT_ HW_
     have my0 := mv QY.out.1
     have my1 := mv QY.out.2.1
     have my2 := mv QY.out.2.2.1
     clear mv
     cases hrg : Gr.rgt (rd_T45 la (i : Int)).f0.f0 (rd_T45 la (i : Int)).f0.f1 (rd_T45 la (i : Int)).f0.f2 (l.length : Int) with
     | false =>
      have hc0 : cl.length = 0 := by have h_ := (Pure.t_pos (rd_T45 la (i : Int)).f0.f0 (rd_T45 la (i : Int)).f0.f1 (rd_T45 la (i : Int)).f0.f2 (l.length : Int)); rw [hrg, CL.out] at h_; simp at h_; simp [h_]
      obtain ⟨kr, hkr⟩ := Pure.t_right (rd_T45 la (i : Int)).f0.f0 (rd_T45 la (i : Int)).f0.f1 (rd_T45 la (i : Int)).f0.f2 (V.length : Int)
      rw [HV.out.1, hrg] at hkr
      rw [← HV.out.1] at hkr
      have KR := aM hkr
      have z1 : ((cl.length : Int) == 0) = true := beq_iff_eq.mpr (by omega)
      have z2 : decide ((cl.length : Int) = 0) = true := decide_eq_true (by omega)
      have z3 : (cl.length == 0) = true := beq_iff_eq.mpr hc0
      have z4 : decide (cl.length = 0) = true := decide_eq_true hc0
      have z5 : cl = [] := List.length_eq_zero_iff.1 hc0
      clear hrg hkr hc0 z5
      go_wp2_with (first | ((with_reducible refine gate_callee (f := 12) rfl ?_); refine goesL_ (some 97) rfl rfl Try.func12 (by kernel_rfl) rfl #[.pointer (some ⟨gt, 0, none⟩), .agg #[.int .i64 (rd_T45 la (i : Int)).f0.f0, .slice B1 (rd_T45 la (i : Int)).f0.f1.length b1, .slice B2 (rd_T45 la (i : Int)).f0.f2.length b2]] rfl pA ?_; (with_reducible refine (share_bad kr W.heap.size gt gs 0 d sd (some ⟨gr, 0, none⟩) V.length c (.int .i64 ver) (rd_T45 la (i : Int)).f0.f0 B1 b1 (rd_T45 la (i : Int)).f0.f1 B2 b2 (rd_T45 la (i : Int)).f0.f2 _ (AI.ten0 (by first | exact I1.out | exact AI.step I1.out (Below.refl _ _).drew | exact AI.step I1.out (by repeat (first | exact Below.refl _ _ | apply below_alloc | apply pw_below_drewN | apply below_drew1)))) (Sb.Inv.atS (AI.inv (by first | exact I1.out | exact AI.step I1.out (Below.refl _ _).drew | exact AI.step I1.out (by repeat (first | exact Below.refl _ _ | apply below_alloc | apply pw_below_drewN | apply below_drew1))))) (Kd.C_below HY1.out.1 (Sb.Inv.bel (AI.inv (by first | exact I1.out | exact AI.step I1.out (Below.refl _ _).drew | exact AI.step I1.out (by repeat (first | exact Below.refl _ _ | apply below_alloc | apply pw_below_drewN | apply below_drew1)))))) HY1.out.2 (Kd.C_below HY2.out.1 (Sb.Inv.bel (AI.inv (by first | exact I1.out | exact AI.step I1.out (Below.refl _ _).drew | exact AI.step I1.out (by repeat (first | exact Below.refl _ _ | apply below_alloc | apply pw_below_drewN | apply below_drew1)))))) HY2.out.2 KR.out).mono ?_); rintro e w22 ⟨rfl, hb⟩; refine ⟨_, rfl, ?_⟩; replace I1 := aM (AI.step (by first | exact I1.out | exact AI.step I1.out (Below.refl _ _).drew | exact AI.step I1.out (by repeat (first | exact Below.refl _ _ | apply below_alloc | apply pw_below_drewN | apply below_drew1))) hb); clear hb my0 my1 my2))
      go_roundg kq
      case measure => omega
      case rel => exact ⟨i + 1, V, ver, A, c', ts, by first | rfl | (rw [w64o (by have := HK.out; have := HACT.out.1; omega) (by have := HK.out; have := HACT.out.1; omega)]; rfl), ⟨by have := HK.out; omega⟩, ⟨HV.out.1, HV.out.2.1, HV.out.2.2.1, by have := HV.out.2.2.2; omega⟩, ⟨HT.out.1, by have := HT.out.2; omega⟩, ⟨by first | exact I1.out | exact AI.step I1.out (Below.refl _ _).drew | exact AI.step I1.out (by repeat (first | exact Below.refl _ _ | apply below_alloc | apply pw_below_drewN | apply below_drew1))⟩⟩
     | true =>
      have hc0 : 0 < cl.length := by have h_ := (Pure.t_pos (rd_T45 la (i : Int)).f0.f0 (rd_T45 la (i : Int)).f0.f1 (rd_T45 la (i : Int)).f0.f2 (l.length : Int)).2 hrg; rw [CL.out] at h_; exact h_
      have RM := aM (show Gr.cls (rd_T45 la (i : Int)).f0.f0 (rd_T45 la (i : Int)).f0.f1 (rd_T45 la (i : Int)).f0.f2 64 = cl from (Pure.t_room hrg).2.trans CL.out)
      have D6 := aM (show (rd_T45 la (i : Int)).f0.f1.length ≤ 6 ∧ (rd_T45 la (i : Int)).f0.f2.length ≤ 6 by have h_ := Pure.t_rgt hrg; have := Pure.t_chk6 h_.1; omega)
      have CIN := aM (show ∀ c ∈ cl, 0 ≤ c ∧ c < (V.length : Int) by rw [HV.out.1]; exact cls_in hrg CL.out)
      obtain ⟨kr, hkr⟩ := Pure.t_right (rd_T45 la (i : Int)).f0.f0 (rd_T45 la (i : Int)).f0.f1 (rd_T45 la (i : Int)).f0.f2 (V.length : Int)
      rw [HV.out.1, hrg] at hkr
      rw [← HV.out.1] at hkr
      have KR := aM hkr
      have z1 : ((cl.length : Int) == 0) = false := beq_eq_false_iff_ne.mpr (by omega)
      have z2 : decide ((cl.length : Int) = 0) = false := decide_eq_false (by omega)
      have z3 : (cl.length == 0) = false := beq_eq_false_iff_ne.mpr (by omega)
      have z4 : decide (cl.length = 0) = false := decide_eq_false (by omega)
      clear hrg hkr hc0
      go_upto_region 26 with (first | ((with_reducible refine gate_callee (f := 12) rfl ?_); refine goesL_ (some 97) rfl rfl Try.func12 (by kernel_rfl) rfl #[.pointer (some ⟨gt, 0, none⟩), .agg #[.int .i64 (rd_T45 la (i : Int)).f0.f0, .slice B1 (rd_T45 la (i : Int)).f0.f1.length b1, .slice B2 (rd_T45 la (i : Int)).f0.f2.length b2]] rfl pA ?_; (with_reducible refine (share_ok kr W.heap.size gt gs 0 d sd (some ⟨gr, 0, none⟩) V.length c (.int .i64 ver) (rd_T45 la (i : Int)).f0.f0 B1 b1 (rd_T45 la (i : Int)).f0.f1 B2 b2 (rd_T45 la (i : Int)).f0.f2 _ (AI.ten0 (by first | exact I1.out | exact AI.step I1.out (Below.refl _ _).drew | exact AI.step I1.out (by repeat (first | exact Below.refl _ _ | apply below_alloc | apply pw_below_drewN | apply below_drew1)))) (Sb.Inv.atS (AI.inv (by first | exact I1.out | exact AI.step I1.out (Below.refl _ _).drew | exact AI.step I1.out (by repeat (first | exact Below.refl _ _ | apply below_alloc | apply pw_below_drewN | apply below_drew1))))) (Kd.C_below HY1.out.1 (Sb.Inv.bel (AI.inv (by first | exact I1.out | exact AI.step I1.out (Below.refl _ _).drew | exact AI.step I1.out (by repeat (first | exact Below.refl _ _ | apply below_alloc | apply pw_below_drewN | apply below_drew1)))))) HY1.out.2 (Kd.C_below HY2.out.1 (Sb.Inv.bel (AI.inv (by first | exact I1.out | exact AI.step I1.out (Below.refl _ _).drew | exact AI.step I1.out (by repeat (first | exact Below.refl _ _ | apply below_alloc | apply pw_below_drewN | apply below_drew1)))))) HY2.out.2 KR.out (by have := D6.out.1; omega) (by have := D6.out.2; omega)).mono ?_); rintro e w22 ⟨gu, rfl, hT, _, hb⟩; refine ⟨_, rfl, ?_⟩; have TU := aM (ten_lower hT (below_size (Sb.Inv.bel (AI.inv (by first | exact I1.out | exact AI.step I1.out (Below.refl _ _).drew | exact AI.step I1.out (by repeat (first | exact Below.refl _ _ | apply below_alloc | apply pw_below_drewN | apply below_drew1))))))); replace xR := aM (Kd.R_below (by (with_reducible repeat (first | apply Kd.R_alloc | apply Kd.R_drewN | apply Kd.R_drew)); exact xR.out) hb); replace I1 := aM (AI.step (by first | exact I1.out | exact AI.step I1.out (Below.refl _ _).drew | exact AI.step I1.out (by repeat (first | exact Below.refl _ _ | apply below_alloc | apply pw_below_drewN | apply below_drew1))) hb); clear hb hT my0 my1 my2))
      clear z1 z2 z3 z4
      obtain ⟨m, hm⟩ : ∃ m, ts.length = m + 1 := ⟨ts.length - 1, by have := HT.out.1; omega⟩
      obtain ⟨xl, hxl, hg, hcl⟩ : ∃ x ∈ ts, (ts.map Tz.g).getD m 0 = x.g ∧ rd_L6 (ts.map Tz.cl) (m : Int) = x.cl := by
        have hi : m < ts.length := by omega
        refine ⟨ts[m], List.getElem_mem _, ?_, ?_⟩
        · rw [List.getD_eq_getElem?_getD, List.getElem?_map, List.getElem?_eq_getElem hi]; rfl
        · unfold rd_L6; rw [List.getD_eq_getElem?_getD, Int.toNat_natCast, List.getElem?_map, List.getElem?_eq_getElem hi]; rfl
      obtain ⟨adt, eat, hx⟩ := at_P I1.out.vtC (m : Int) (by omega) (by omega)
      cases eat
      rw [Int.toNat_natCast, hg] at hx
      obtain ⟨adc, Bl, bl, eac, hy, hle, hci⟩ := at_L6 I1.out.vaC (m : Int) (by omega) (by omega)
      cases eac
      rw [Int.toNat_natCast] at hy
      rw [hcl] at hy hle hci
      have OX := aM (I1.out.tz xl hxl)
      have XC := aM (show xl.cl.length ≤ 64 by rw [I1.out.cls xl hxl]; exact (Pure.t_bound _ _ _ _).1)
      obtain ⟨km, hkm⟩ := Pure.t_meet (rd_T45 la (i : Int)).f0.f0 (rd_T45 la (i : Int)).f0.f1 (rd_T45 la (i : Int)).f0.f2 xl.o xl.d xl.s
      rw [RM.out, ← I1.out.cls xl hxl] at hkm
      obtain ⟨kn, hkn⟩ := Pure.t_rmeet cl xl.cl CB.out XC.out
      obtain ⟨br, hbr⟩ : ∃ b, (cl.any fun x => xl.cl.contains x) = b := ⟨_, rfl⟩
      rw [hbr] at hkm hkn
      have KM := aM hkm
      have KN := aM hkn
      have QT := aM hx
      have QC := aM hy
      have HI := aM (And.intro hci hle)
      have f1 : wrap64 ((ts.length : Int) - 1) = (m : Int) := by rw [w64o (by omega) (by have := HT.out.2; have := HK.out; have := HACT.out.1; omega)]; omega
      have f2 : (0 ≤ (m : Int)) = True := eq_true (by omega)
      have f3 : ((m : Int) < (ts.length : Int)) = True := eq_true (by omega)
      have f4 : (m < ts.length) = True := eq_true (by omega)
      have f5 : (br != br) = false := bne_self_eq_false br
      clear hm hxl hg hcl hx hy hle hci hkm hkn hbr
      have HZ := aM (below_drew1 (Below.refl w22.heap.size w22))
      replace I1 := aM (AI.step I1.out (Below.refl _ _).drew)
      replace TU := aM (TU.out.below (Below.refl _ _).drew)
      replace OX := aM (Tz.ok.fr OX.out (Fr.of_below (Q := []) (Below.refl _ _).drew) (by simp) (by simp))
      replace xR := aM (Kd.R_drew xR.out)
      have mz : ∀ {a : Addr} {v : Value}, w22.cell? a = some v → w22.drew.cell? a = some v := fun h_ => (HZ.out.cell (World.block_lt_of_cell? w22 _ h_)).trans h_
      refine start_ (n := 27) (S := fun w' => w'.cell? (adt.add m) = some (.pointer (some ⟨xl.g, 0, none⟩)) ∧ w'.cell? (adc.add m) = some (.slice Bl xl.cl.length bl)) (ds := []) (bm 27 0) (by kernel_rfl) rfl rfl ⟨mz QT.out, mz QC.out⟩ (fun hHeld => ?_); refine with_tabW tb.tab26 tb.bits26 (fun HT_ HW_ => ?_)
      refine pP (i := 0) (N := some 109) (bm 27 1) rfl rfl HT_.out ?_
      refine pP (i := 1) (N := some 110) (bm 27 3) rfl rfl HT_.out ?_
      refine pP (i := 2) (N := some 111) (bm 27 7) rfl rfl HT_.out ?_
      refine pP (i := 3) (N := some 112) (bm 27 15) rfl rfl HT_.out ?_
      refine pP (i := 4) (N := some 113) (bm 27 31) rfl rfl HT_.out ?_
      refine one_ (i := 5) (N := some 114) (bm 27 63) rfl rfl (one_of HT_.out (by kernel_rfl)) (by decide) (fun K hK => ?_)
      refine goes_ Try.func13 (by kernel_rfl) rfl #[.pointer (some ⟨gu, 0, none⟩), .pointer (some ⟨gt, 0, none⟩)] (by rfl) rfl rfl pA ?_
      with_reducible refine (with_yes gu gt gs _ TU.out.st I1.out.ten0.st).mono ?_
      rintro e w23 ⟨rfl, hb⟩
      refine ⟨_, rfl, ?_⟩
      replace I1 := aM (I1.out.step hb)
      replace TU := aM (TU.out.below hb)
      replace OX := aM (Tz.ok.fr OX.out (Fr.of_below (Q := []) hb) (by simp) (by simp))
      replace xR := aM (Kd.R_below xR.out hb)
      replace HZ := bS (qB HZ) hb
      clear hb mz
      have mz : ∀ {a : Addr} {v : Value}, w22.cell? a = some v → w23.cell? a = some v := fun h_ => (HZ.out.cell (World.block_lt_of_cell? w22 _ h_)).trans h_
      refine hK.out _ _ ⟨mz QT.out, mz QC.out⟩ (fun hHeld => ?_)
      clear hK K
      refine norm_ (a' := ?_) ?_ ?_
      rotate_left
      ·show Act.put _ (some 114) _ = _
       simp only [Act.put, sP, i64_w, i32_w]
       rfl
      refine pP (i := 6) (N := some 115) (bm 27 127) rfl rfl HT_.out ?_
      refine pP (i := 7) (N := some 116) (bm 27 255) rfl rfl HT_.out ?_
      refine pP (i := 8) (N := some 117) (bm 27 511) rfl rfl HT_.out ?_
      refine pP (i := 9) (N := some 118) (bm 27 1023) rfl rfl HT_.out ?_
      refine pP (i := 10) (N := some 119) (bm 27 2047) rfl rfl HT_.out ?_
      refine pP (i := 11) (N := some 120) (bm 27 4095) rfl rfl HT_.out ?_
      refine pP (i := 12) (N := some 121) (bm 27 8191) rfl rfl HT_.out ?_
      refine pP (i := 13) (N := some 122) (bm 27 16383) rfl rfl HT_.out ?_
      refine pP (i := 14) (N := some 123) (bm 27 32767) rfl rfl HT_.out ?_
      refine pP (i := 17) (N := some 126) (bm 27 163839) rfl rfl HT_.out ?_
      refine pP (i := 18) (N := some 127) (bm 27 425983) rfl rfl HT_.out ?_
      refine pP (i := 19) (N := some 128) (bm 27 950271) rfl rfl HT_.out ?_
      refine pP (i := 20) (N := some 129) (bm 27 1998847) rfl rfl HT_.out ?_
      refine pP (i := 21) (N := some 130) (bm 27 4095999) rfl rfl HT_.out ?_
      refine pP (i := 22) (N := some 131) (bm 27 8290303) rfl rfl HT_.out ?_
      refine pT (i := 15) (N := some 124) (bm 27 8323071) rfl rfl HT_.out HW_.out hHeld (by rintro w' ⟨s0, s1⟩; go_simp; with_reducible rfl) ?_
      refine pT (i := 23) (N := some 132) (bm 27 16711679) rfl rfl HT_.out HW_.out hHeld (by rintro w' ⟨s0, s1⟩; go_simp; with_reducible rfl) ?_
      refine one_ (i := 16) (N := some 125) (bm 27 16777215) rfl rfl (one_of HT_.out (by kernel_rfl)) (by decide) (fun K hK => ?_)
      refine goes_ Try.func14 (by kernel_rfl) rfl #[.pointer (some ⟨gu, 0, none⟩), .pointer (some ⟨xl.g, 0, none⟩)] (by rfl) rfl rfl pA ?_
      with_reducible refine (meets_yes km W.heap.size W.heap.size gu xl.g gs (rd_T45 la (i : Int)).f0.f0 (rd_T45 la (i : Int)).f0.f1 (rd_T45 la (i : Int)).f0.f2 xl.o xl.d xl.s br _ TU.out OX.out.ten KM.out).mono ?_
      rintro e w24 ⟨rfl, hb⟩
      refine ⟨_, rfl, ?_⟩
      replace I1 := aM (I1.out.step hb)
      replace TU := aM (TU.out.below hb)
      replace OX := aM (Tz.ok.fr OX.out (Fr.of_below (Q := []) hb) (by simp) (by simp))
      replace xR := aM (Kd.R_below xR.out hb)
      replace HZ := bS (qB HZ) hb
      clear hb mz
      have mz : ∀ {a : Addr} {v : Value}, w22.cell? a = some v → w24.cell? a = some v := fun h_ => (HZ.out.cell (World.block_lt_of_cell? w22 _ h_)).trans h_
      refine hK.out _ _ ⟨mz QT.out, mz QC.out⟩ (fun hHeld => ?_)
      clear hK K
      refine norm_ (a' := ?_) ?_ ?_
      rotate_left
      ·show Act.put _ (some 125) _ = _
       simp only [Act.put, sP, i64_w, i32_w]
       rfl
      refine one_ (i := 24) (N := some 133) (bm 27 33554431) rfl rfl (one_of HT_.out (by kernel_rfl)) (by decide) (fun K hK => ?_)
      refine goes_ Try.func15 (by kernel_rfl) rfl #[.slice xA cl.length xc, .slice Bl xl.cl.length bl] (by rfl) rfl rfl pA ?_
      with_reducible refine (gradineref23_Meet.calls kn xA xc cl Bl bl xl.cl br _ (Kd.R_reads' xR.out).2.2 (Kd.R_reads' xR.out).2.1 (Kd.C_below HI.out.1 HZ.out) HI.out.2 KN.out).mono ?_
      rintro e w25 ⟨rfl, hb0⟩
      refine ⟨_, rfl, ?_⟩
      have hb := hb0.below
      clear hb0
      replace I1 := aM (I1.out.step hb)
      replace TU := aM (TU.out.below hb)
      replace OX := aM (Tz.ok.fr OX.out (Fr.of_below (Q := []) hb) (by simp) (by simp))
      replace xR := aM (Kd.R_below xR.out hb)
      replace HZ := bS (qB HZ) hb
      clear hb mz
      have mz : ∀ {a : Addr} {v : Value}, w22.cell? a = some v → w25.cell? a = some v := fun h_ => (HZ.out.cell (World.block_lt_of_cell? w22 _ h_)).trans h_
      refine hK.out _ _ ⟨mz QT.out, mz QC.out⟩ (fun hHeld => ?_)
      clear hK K
      refine norm_ (a' := ?_) ?_ ?_
      rotate_left
      ·show Act.put _ (some 133) _ = _
       simp only [Act.put, sP, i64_w, i32_w]
       rfl
      refine pP (i := 25) (N := some 134) (bm 27 67108863) rfl rfl HT_.out ?_
      refine pP (i := 26) (N := some 135) (bm 27 134217727) rfl rfl HT_.out ?_
      refine done_ (done_of HT_.out (by kernel_rfl)) ?_
      clear hHeld HT_ HW_ mz HZ OX XC KM KN QT QC HI f1 f2 f3 f4 f5
      go_upto_region 30 with (first | ((with_reducible refine gate_builtin (b := .append) (xs := #[.tmp 136, .tmp 138]) rfl ?_); at_builtin; refine Kd.R_append kP (w0 := W) W.heap.size rfl (.tmp 136) (.tmp 138) 39 31 (.pointer none) 8 rfl Try.underlying39 info31 rfl (by decide) (by omega) (.slice (some adt) ts.length ct) (ts.map Tz.g) gu [.pointer (some ⟨gu, 0, none⟩)] (fun _ => True) (fun _ => False) rfl rfl rfl (fun _ hk => hk.elim) (fun _ _ => trivial) (pR I1.out.vt) (Sb.Inv.bel (AI.inv (by first | exact I1.out | exact AI.step I1.out (Below.refl _ _).drew | exact AI.step I1.out (by repeat (first | exact Below.refl _ _ | apply below_alloc | apply pw_below_drewN | apply below_drew1))))) (below_size (Sb.Inv.bel (AI.inv (by first | exact I1.out | exact AI.step I1.out (Below.refl _ _).drew | exact AI.step I1.out (by repeat (first | exact Below.refl _ _ | apply below_alloc | apply pw_below_drewN | apply below_drew1)))))) (by have h_ : (ts.map Tz.g).length = ts.length := List.length_map _; have := HT.out.2; have := HK.out; have := HACT.out.1; omega) ?_; intro v1 w28 ho hb hg _; have F1 := aM (show Fr [31] w25 w28 from Fr.trans (Q := []) (Fr.of_below (by repeat (first | exact Below.refl _ _ | apply below_alloc | apply pw_below_drewN | apply below_drew1))) (Fr.of_row (d := kP) (e := 31) (pR I1.out.vt) hg)); have R1 := aM ho; have B1_ := aM hb; have xR1 := aM (F1.out.R xR.out (fun q hm => by have : q ∈ [3] := hm; simp at this ⊢; omega)); have VA1 := aM (F1.out.R I1.out.va (fun q hm => by have : q ∈ [22, 3] := hm; simp at this ⊢; omega)); clear ho hb hg) | ((with_reducible refine gate_builtin (b := .append) (xs := #[.tmp 140, .tmp 142]) rfl ?_); at_builtin; refine Kd.R_append (Kd.slice 3 (Kd.int .i64)) (w0 := W) W.heap.size rfl (.tmp 140) (.tmp 142) 40 22 (.slice none 0 0) 24 rfl Try.underlying40 info22 rfl (by decide) (by omega) (.slice (some adc) ts.length cc) (ts.map Tz.cl) cl [.slice xA cl.length xc] (fun _ => True) (fun k => some k = (Value.slice xA cl.length xc).ownBlock) rfl rfl ⟨_, rfl, Kd.R_tight rfl (pR xR1.out)⟩ (fun k hk => ⟨trivial, row_ne xR1.out VA1.out k hk⟩) (fun _ _ => trivial) (pR VA1.out) (qB B1_) (below_size (qB B1_)) (by have h_ : (ts.map Tz.cl).length = ts.length := List.length_map _; have := HT.out.2; have := HK.out; have := HACT.out.1; omega) ?_; intro v2 w29 ho hb hg _; have F2 := aM (show Fr [22] w28 w29 from Fr.trans (Q := []) (Fr.of_below (by repeat (first | exact Below.refl _ _ | apply below_alloc | apply pw_below_drewN | apply below_drew1))) (Fr.of_row (d := Kd.slice 3 (Kd.int .i64)) (e := 22) (pR VA1.out) hg)); have R2 := aM ho; have B2_ := aM hb; clear ho hb hg VA1 xR1))
      have F12 := aM (F1.out.trans F2.out)
      obtain ⟨ts2, ht2, hi2⟩ : ∃ ts2 : List Tz, (1 ≤ ts2.length ∧ ts2.length ≤ i + 2) ∧ AI W w29 gs gr c gf ga gt A0 c0 d sd A1 c1 l V ver A c' ts2 v1 v2 := ⟨_, ⟨by simp, by have := HT.out.2; simp; omega⟩, AI.add I1.out ⟨gu, (rd_T45 la (i : Int)).f0.f0, (rd_T45 la (i : Int)).f0.f1, (rd_T45 la (i : Int)).f0.f2, cl⟩ ⟨TU.out, by obtain ⟨k, hk⟩ := Pure.t_list (rd_T45 la (i : Int)).f0.f0 (rd_T45 la (i : Int)).f0.f1 (rd_T45 la (i : Int)).f0.f2; rw [RM.out] at hk; exact ⟨k, hk⟩, by have := D6.out.1; show (rd_T45 la (i : Int)).f0.f1.length ≤ 1000; omega, by have := CB.out; show cl.length ≤ 100; omega, CIN.out⟩ RM.out.symm F1.out F2.out R1.out R2.out B2_.out⟩
      have HT2 := aM ht2
      clear I1
      have I1 := aM hi2
      clear ht2 hi2 R1 R2 B1_ B2_ HT
      replace TU := aM (F12.out.Ten TU.out (by simp) (by simp))
      replace xR := aM (F12.out.R xR.out (fun q hm => by have : q ∈ [3] := hm; simp at this ⊢; omega))
      clear F1 F2 F12
      obtain ⟨At2, ct2, et, _⟩ := I1.out.vts
      obtain ⟨Ac2, cc2, ea, _⟩ := I1.out.vas
      subst et
      subst ea
      obtain ⟨kw, hkw⟩ := Pure.t_list (rd_T45 la (i : Int)).f0.f0 (rd_T45 la (i : Int)).f0.f1 (rd_T45 la (i : Int)).f0.f2
      rw [RM.out] at hkw
      have KW := aM hkw
      obtain ⟨E, U, hp, hUl, hUs, _, _⟩ := St.put_f (V := V) (l1 := cl) (l2 := (rd_T45 la (i : Int)).f1) (by have := HV.out.1; have := HE.out.2.2.2.2.2.1; omega) HV.out.2.1 ACT.out.sw
      have EP := aM hp
      have HUL := aM hUl
      have HUS := aM hUs
      have REQ := aM ((St.put_eq (V := V) (l1 := cl) (l2 := (rd_T45 la (i : Int)).f1) (by have := CB.out; omega) (by have := HV.out.1; have := HE.out.2.2.2.2.2.1; omega)).trans EP.out)
      obtain ⟨ver', hver⟩ : ∃ v, v = if E = 0 then wrap64 (ver + 1) else ver := ⟨_, rfl⟩
      have HVER := aM hver
      clear hver hp hUl hUs hkw
      have g1 : (E != E) = false := bne_self_eq_false E
      replace I1 := aM (AI.step I1.out (Below.refl _ _).drew)
      replace TU := aM (TU.out.below (Below.refl _ _).drew)
      replace xR := aM (Kd.R_drew xR.out)
      have mv : ∀ {a : Addr} {v : Value}, W.cell? a = some v → w29.drew.cell? a = some v := fun h_ => (I1.out.inv.bel.cell (World.block_lt_of_cell? W _ h_)).trans h_
      refine start_ (n := 23) (S := fun w' => w'.cell? ⟨(ad.add (i * 4)).block, (ad.add (i * 4)).off + 3, none⟩ = some (.slice B3 (rd_T45 la (i : Int)).f1.length b3)) (ds := []) (bm 23 0) (by kernel_rfl) rfl rfl (mv QY.out.2.2.2) (fun hHeld => ?_); refine with_tabW tb.tab30 tb.bits30 (fun HT_ HW_ => ?_)
      generalize w29.drew = we at I1 TU xR mv hHeld ⊢
      refine pP (i := 0) (N := some 144) (bm 23 1) rfl rfl HT_.out ?_
      refine pP (i := 1) (N := some 145) (bm 23 3) rfl rfl HT_.out ?_
      refine pP (i := 2) (N := some 146) (bm 23 7) rfl rfl HT_.out ?_
      refine pP (i := 3) (N := some 147) (bm 23 15) rfl rfl HT_.out ?_
      refine pP (i := 4) (N := some 148) (bm 23 31) rfl rfl HT_.out ?_
      refine pP (i := 7) (N := some 151) (bm 23 159) rfl rfl HT_.out ?_
      refine pP (i := 8) (N := some 152) (bm 23 415) rfl rfl HT_.out ?_
      refine pP (i := 9) (N := some 153) (bm 23 927) rfl rfl HT_.out ?_
      refine pP (i := 10) (N := some 154) (bm 23 1951) rfl rfl HT_.out ?_
      refine pP (i := 11) (N := some 155) (bm 23 3999) rfl rfl HT_.out ?_
      refine pP (i := 12) (N := some 156) (bm 23 8095) rfl rfl HT_.out ?_
      refine pT (i := 5) (N := some 149) (bm 23 8127) rfl rfl HT_.out HW_.out hHeld (by rintro w' s0; go_simp; with_reducible rfl) ?_
      refine pT (i := 13) (N := some 157) (bm 23 16319) rfl rfl HT_.out HW_.out hHeld (by rintro w' s0; go_simp; with_reducible rfl) ?_
      refine one_ (i := 6) (N := some 150) (bm 23 16383) rfl rfl (one_of HT_.out (by kernel_rfl)) (by decide) (fun K hK => ?_)
      refine goes_ Try.func16 (by kernel_rfl) rfl #[.pointer (some ⟨gu, 0, none⟩), .slice B3 (rd_T45 la (i : Int)).f1.length b3] (by rfl) rfl rfl pA ?_
      with_reducible refine (write kw W.heap.size gu gs gr c (rd_T45 la (i : Int)).f0.f0 (rd_T45 la (i : Int)).f0.f1 (rd_T45 la (i : Int)).f0.f2 V ver (fun k => k ≠ gs) cl B3 b3 (rd_T45 la (i : Int)).f1 E U W _ TU.out KW.out I1.out.inv.atS I1.out.inv.row (fun _ h_ => h_) HX.out (by have := HV.out.1; have := HE.out.2.2.2.2.2.1; omega) (by have := CB.out; omega) I1.out.inv.bel (fun w' b _ => Kd.C_below HY3.out.1 b) (fun hp ad e => by have a := blk_old HY3.out.1 hp ad e; have := HX.out.2.1; omega) ACT.out.sw EP.out HUL.out).mono ?_
      rintro e w30 ⟨rfl, k1, k2, k3, k4, k5⟩
      refine ⟨_, rfl, ?_⟩
      rw [← HVER.out] at k1
      have P1 := aM k1
      have P2 := aM k2
      have P3_ := aM k3
      have P4 := aM (And.intro k4 k5)
      clear k1 k2 k3 k4 k5 mv
      have FP := aM (Fr.of_put I1.out.inv.atS (Kd.S_typed I1.out.inv.row gr (by simp [Value.ownBlock])).choose_spec P4.out.1 P4.out.2)
      have mv : ∀ {a : Addr} {v : Value}, W.cell? a = some v → w30.cell? a = some v := fun h_ => (P3_.out.cell (World.block_lt_of_cell? W _ h_)).trans h_
      refine hK.out _ _ (mv QY.out.2.2.2) (fun hHeld => ?_)
      clear hK K
      refine norm_ (a' := ?_) ?_ ?_
      rotate_left
      ·show Act.put _ (some 150) _ = _
       simp only [Act.put, sP, i64_w, i32_w]
       rfl
      refine one_ (i := 14) (N := some 158) (bm 23 32767) rfl rfl (one_of HT_.out (by kernel_rfl)) (by decide) (fun K hK => ?_)
      refine goes_ Try.func17 (by kernel_rfl) rfl #[.pointer (some ⟨gf, 0, none⟩), .slice xA cl.length xc, .slice B3 (rd_T45 la (i : Int)).f1.length b3] (by rfl) rfl rfl pA ?_
      have NE := aM (I1.out.inv.ne (by have := HV.out.1; have := HE.out.2.2.2.2.1; omega))
      have hgf1 := (P4.out.2 gf (blk_lt I1.out.inv.atF) NE.out.1.symm NE.out.2.1.symm).trans I1.out.inv.atF
      have hVr := (Rf.V_reads (Rf.V_step I1.out.inv.ref (fun k hk hl => P4.out.2 k hl hk.1 hk.2.1)) P3_.out).2.2
      have xR0 := FP.out.R xR.out (fun q hm => by have : q ∈ [3] := hm; simp at this ⊢; omega)
      with_reducible refine (Rf.put.calls gf A c' V ver xA xc cl B3 b3 (rd_T45 la (i : Int)).f1 _ _ _ W _ hgf1 GF.out hVr (by have := HV.out.1; have := HE.out.2.2.2.2.1; omega) (by have := HV.out.1; have := HE.out.2.2.2.2.2.1; omega) P3_.out (Kd.R_reads' xR0).2.2 (Kd.R_reads' xR0).2.1 HY3.out.1 (by have := CB.out; omega) rfl rfl rfl E U REQ.out).mono ?_
      rintro e w31 hpp
      have FQ := aM (FP.out.trans (PP_fr hgf1 hpp))
      obtain ⟨rfl, A3, c3, hinv⟩ := I1.out.inv.put (by have := HV.out.1; have := HE.out.2.2.2.2.1; omega) HUL.out HX.out.1 HX.out.2.1 GF.out P1.out P2.out P3_.out P4.out.2 HVER.out hpp
      refine ⟨_, rfl, ?_⟩
      clear hpp hgf1 hVr xR0
      replace I1 := aM (AI.put I1.out HUL.out hinv FQ.out)
      replace TU := aM (FQ.out.Ten TU.out (by simp) (by simp))
      replace xR := aM (FQ.out.R xR.out (fun q hm => by have : q ∈ [3] := hm; simp at this ⊢; omega))
      clear hinv P1 P2 P3_ P4 NE FP FQ mv
      have mv : ∀ {a : Addr} {v : Value}, W.cell? a = some v → w31.cell? a = some v := fun h_ => (I1.out.inv.bel.cell (World.block_lt_of_cell? W _ h_)).trans h_
      refine hK.out _ _ (mv QY.out.2.2.2) (fun hHeld => ?_)
      clear hK K
      refine norm_ (a' := ?_) ?_ ?_
      rotate_left
      ·show Act.put _ (some 158) _ = _
       simp only [Act.put, sP, i64_w, i32_w]
       rfl
      refine pP (i := 15) (N := some 159) (bm 23 65535) rfl rfl HT_.out ?_
      refine pP (i := 16) (N := some 160) (bm 23 131071) rfl rfl HT_.out ?_
      refine pP (i := 17) (N := some 161) (bm 23 262143) rfl rfl HT_.out ?_
      refine pP (i := 18) (N := some 162) (bm 23 524287) rfl rfl HT_.out ?_
      refine pP (i := 19) (N := some 163) (bm 23 1048575) rfl rfl HT_.out ?_
      refine one_ (i := 20) (N := some 164) (bm 23 2097151) rfl rfl (one_of HT_.out (by kernel_rfl)) (by decide) (fun K hK => ?_)
      refine goes_ Try.func18 (by kernel_rfl) rfl #[.slice At2 ts2.length ct2, .slice Ac2 ts2.length cc2, .pointer (some ⟨gf, 0, none⟩)] (by rfl) rfl rfl pA ?_
      with_reducible refine (all.calls gs gr c gf U ver' A3 c3 ts2 At2 ct2 Ac2 cc2 W _ I1.out.inv I1.out.tz I1.out.vtC I1.out.vaC (by have := HT2.out.2; have := HK.out; have := HACT.out.1; omega) (by have := HUL.out; have := HV.out.1; have := HE.out.2.2.2.2.2.1; omega) HUS.out).mono ?_
      rintro e w32 ⟨rfl, hb⟩
      refine ⟨_, rfl, ?_⟩
      replace I1 := aM (I1.out.step hb)
      replace TU := aM (TU.out.below hb)
      replace xR := aM (Kd.R_below xR.out hb)
      clear hb mv
      have mv : ∀ {a : Addr} {v : Value}, W.cell? a = some v → w32.cell? a = some v := fun h_ => (I1.out.inv.bel.cell (World.block_lt_of_cell? W _ h_)).trans h_
      refine hK.out _ _ (mv QY.out.2.2.2) (fun hHeld => ?_)
      clear hK K
      refine norm_ (a' := ?_) ?_ ?_
      rotate_left
      ·show Act.put _ (some 164) _ = _
       simp only [Act.put, sP, i64_w, i32_w]
       rfl
      refine pP (i := 21) (N := some 165) (bm 23 4194303) rfl rfl HT_.out ?_
      refine pP (i := 22) (N := some 166) (bm 23 8388607) rfl rfl HT_.out ?_
      refine done_ (done_of HT_.out (by kernel_rfl)) ?_
      clear hHeld HT_ HW_ mv g1 KW
      replace HV := aM (show U.length = l.length ∧ (∀ x ∈ U, St.sw x) ∧ 0 ≤ ver' ∧ ver' ≤ i + 1 from ⟨HUL.out.trans HV.out.1, HUS.out, by have h_ := HV.out.2.2; have := HK.out; have := HACT.out.1; rw [HVER.out]; split; (rw [w64o (by omega) (by omega)]; omega); exact h_.1, by have h_ := HV.out.2.2; have := HK.out; have := HACT.out.1; rw [HVER.out]; split; (rw [w64o (by omega) (by omega)]; omega); omega⟩)
      clear EP HUL HUS REQ HVER CIN
      go_upto_region 33 with (first | ((with_reducible refine gate_callee (f := 19) rfl ?_); refine goesL_ (some 168) rfl rfl Try.func19 (by kernel_rfl) rfl #[.pointer (some ⟨gu, 0, none⟩)] rfl pA ?_; (with_reducible refine (view W.heap.size gu gs (rd_T45 la (i : Int)).f0.f0 (rd_T45 la (i : Int)).f0.f1 (rd_T45 la (i : Int)).f0.f2 w32 TU.out (by have := D6.out.1; omega) (by have := D6.out.2; omega)).mono ?_); rintro e w33 ⟨pA_, pc, qA, qc, rfl, h1, h2, hb⟩; refine ⟨_, rfl, ?_⟩; have PR := aM h1; have QR := aM h2; replace I1 := aM (AI.step I1.out hb); replace xR := aM (Kd.R_below xR.out hb); clear h1 h2 hb TU) | ((with_reducible refine gate_dst (N := 17) rfl ?_); refine box_event ?hg (N := 17) ?hd (cs := #[.int .i64 0, .slice none 0 0, .slice none 0 0]) (t := 43) ?hr ?_; (case hd => rfl); (case hg => rfl); (case hr => first | (go_simp; done) | (go_simp; rfl)); intro gv hg_ w34 hbox hb; have BV := aM hbox; have GV := aM (Nat.le_of_eq hg_.symm); have HBr := aM hb; have hczs := blk3 BV.out; clear hb hbox hg_))
      clear hczs
      replace BV := aM (P3 (u0 := .int .i64 (rd_T45 la (i : Int)).f0.f0) (u1 := .slice pA_ (rd_T45 la (i : Int)).f0.f1.length pc) (u2 := .slice qA (rd_T45 la (i : Int)).f0.f2.length qc) BV)
      have HR := aM (below_drew1 (below_set (j := 2) (v := .slice qA (rd_T45 la (i : Int)).f0.f2.length qc) (below_set (j := 1) (v := .slice pA_ (rd_T45 la (i : Int)).f0.f1.length pc) (below_set (j := 0) (v := .int .i64 (rd_T45 la (i : Int)).f0.f0) HBr.out GV.out) GV.out) GV.out))
      replace I1 := aM (AI.step I1.out HR.out)
      replace xR := aM (Kd.R_below xR.out HR.out)
      replace PR := aM (Kd.R_below PR.out HR.out)
      replace QR := aM (Kd.R_below QR.out HR.out)
      replace BV := aM (bD BV.out)
      clear HBr GV HR
      generalize ((w34.setCell ⟨gv, 0, none⟩ (.int .i64 (rd_T45 la (i : Int)).f0.f0)).setCell ⟨gv, 1, none⟩ (.slice pA_ (rd_T45 la (i : Int)).f0.f1.length pc)).setCell ⟨gv, 2, none⟩ (.slice qA (rd_T45 la (i : Int)).f0.f2.length qc) = wf at I1 xR PR QR BV ⊢
      have mv : ∀ {a : Addr} {v : Value}, W.cell? a = some v → wf.drew.cell? a = some v := fun h_ => (I1.out.inv.bel.cell (World.block_lt_of_cell? W _ h_)).trans h_
      obtain ⟨ki, hki⟩ := Pure.t_ints (rd_T45 la (i : Int)).f0.f1 (by have := D6.out.1; omega)
      obtain ⟨kj, hkj⟩ := Pure.t_ints cl (by have := CB.out; omega)
      obtain ⟨kv, hkv⟩ := Pure.t_cells (rd_T45 la (i : Int)).f0.f0 (rd_T45 la (i : Int)).f0.f1 (rd_T45 la (i : Int)).f0.f2 64
      rw [RM.out] at hkv
      have KI := aM hki
      have KJ := aM hkj
      have KV := aM hkv
      clear hki hkj hkv
      refine start_ (n := 17) (S := fun w' => w'.cell? ⟨gv, 0, none⟩ = some (.int .i64 (rd_T45 la (i : Int)).f0.f0) ∧ w'.cell? ⟨gv, 1, none⟩ = some (.slice pA_ (rd_T45 la (i : Int)).f0.f1.length pc) ∧ w'.cell? ⟨gv, 2, none⟩ = some (.slice qA (rd_T45 la (i : Int)).f0.f2.length qc) ∧ w'.cell? ⟨(ad.add (i * 4)).block, (ad.add (i * 4)).off + 1, none⟩ = some (.slice B1 (rd_T45 la (i : Int)).f0.f1.length b1)) (ds := []) (bm 17 0) (by kernel_rfl) rfl rfl ⟨(blk3 BV.out).1, (blk3 BV.out).2.1, (blk3 BV.out).2.2.1, mv QY.out.2.1⟩ (fun hHeld => ?_); refine with_tabW tb.tab33 tb.bits33 (fun HT_ HW_ => ?_)
      refine pP (i := 0) (N := some 169) (bm 17 1) rfl rfl HT_.out ?_
      refine pP (i := 2) (N := some 171) (bm 17 5) rfl rfl HT_.out ?_
      refine pP (i := 3) (N := some 172) (bm 17 13) rfl rfl HT_.out ?_
      refine pP (i := 4) (N := some 173) (bm 17 29) rfl rfl HT_.out ?_
      refine pP (i := 5) (N := some 174) (bm 17 61) rfl rfl HT_.out ?_
      refine pP (i := 6) (N := some 175) (bm 17 125) rfl rfl HT_.out ?_
      refine pT (i := 1) (N := some 170) (bm 17 127) rfl rfl HT_.out HW_.out hHeld (by rintro w' ⟨s0, s1, s2, s3⟩; go_simp; with_reducible rfl) ?_
      refine pT (i := 7) (N := some 176) (bm 17 255) rfl rfl HT_.out HW_.out hHeld (by rintro w' ⟨s0, s1, s2, s3⟩; go_simp; with_reducible rfl) ?_
      refine one_ (i := 8) (N := some 177) (bm 17 511) rfl rfl (one_of HT_.out (by kernel_rfl)) (by decide) (fun K hK => ?_)
      refine goes_ Try.func20 (by kernel_rfl) rfl #[.slice pA_ (rd_T45 la (i : Int)).f0.f1.length pc, .slice B1 (rd_T45 la (i : Int)).f0.f1.length b1] (by rfl) rfl rfl pA ?_
      with_reducible refine (gradineplain_Ints.calls ki pA_ pc (rd_T45 la (i : Int)).f0.f1 B1 b1 (rd_T45 la (i : Int)).f0.f1 true _ (Kd.R_reads' PR.out).2.2 (Kd.R_reads' PR.out).2.1 (Kd.C_below HY1.out.1 I1.out.inv.bel) HY1.out.2 KI.out).mono ?_
      rintro e w35 ⟨rfl, hb0⟩
      refine ⟨_, rfl, ?_⟩
      have hb := hb0.below
      replace I1 := aM (AI.step I1.out hb)
      replace xR := aM (Kd.R_below xR.out hb)
      replace PR := aM (Kd.R_below PR.out hb)
      replace QR := aM (Kd.R_below QR.out hb)
      replace BV := bK BV hb
      clear hb hb0 mv
      have mv : ∀ {a : Addr} {v : Value}, W.cell? a = some v → w35.cell? a = some v := fun h_ => (I1.out.inv.bel.cell (World.block_lt_of_cell? W _ h_)).trans h_
      refine hK.out _ _ ⟨(blk3 BV.out).1, (blk3 BV.out).2.1, (blk3 BV.out).2.2.1, mv QY.out.2.1⟩ (fun hHeld => ?_)
      clear hK K
      refine norm_ (a' := ?_) ?_ ?_
      rotate_left
      ·show Act.put _ (some 177) _ = _
       simp only [Act.put, sP, i64_w, i32_w]
       rfl
      refine pP (i := 9) (N := some 178) (bm 17 1023) rfl rfl HT_.out ?_
      refine pP (i := 10) (N := some 179) (bm 17 2047) rfl rfl HT_.out ?_
      refine pP (i := 13) (N := some 182) (bm 17 10239) rfl rfl HT_.out ?_
      refine pT (i := 11) (N := some 180) (bm 17 12287) rfl rfl HT_.out HW_.out hHeld (by rintro w' ⟨s0, s1, s2, s3⟩; go_simp; with_reducible rfl) ?_
      refine one_ (i := 12) (N := some 181) (bm 17 16383) rfl rfl (one_of HT_.out (by kernel_rfl)) (by decide) (fun K hK => ?_)
      refine goes_ Try.func11 (by kernel_rfl) rfl #[.agg #[.int .i64 (rd_T45 la (i : Int)).f0.f0, .slice pA_ (rd_T45 la (i : Int)).f0.f1.length pc, .slice qA (rd_T45 la (i : Int)).f0.f2.length qc], .int .i64 64] (by rfl) rfl rfl pA ?_
      with_reducible refine (gradineref22_Cells.calls kv (rd_T45 la (i : Int)).f0.f0 pA_ pc (rd_T45 la (i : Int)).f0.f1 qA qc (rd_T45 la (i : Int)).f0.f2 64 cl _ (Kd.R_reads' PR.out).2.2 (Kd.R_reads' PR.out).2.1 (Kd.R_reads' QR.out).2.2 (Kd.R_reads' QR.out).2.1 KV.out).mono ?_
      rintro e w36 ⟨v15, rfl, ho, hb⟩
      refine ⟨_, rfl, ?_⟩
      obtain ⟨yA, yc, ey⟩ := Kd.R_slice ho
      subst ey
      have yR := aM ho
      replace I1 := aM (AI.step I1.out hb)
      replace xR := aM (Kd.R_below xR.out hb)
      replace PR := aM (Kd.R_below PR.out hb)
      replace QR := aM (Kd.R_below QR.out hb)
      replace BV := bK BV hb
      clear ho hb mv
      have mv : ∀ {a : Addr} {v : Value}, W.cell? a = some v → w36.cell? a = some v := fun h_ => (I1.out.inv.bel.cell (World.block_lt_of_cell? W _ h_)).trans h_
      refine hK.out _ _ ⟨(blk3 BV.out).1, (blk3 BV.out).2.1, (blk3 BV.out).2.2.1, mv QY.out.2.1⟩ (fun hHeld => ?_)
      clear hK K
      refine norm_ (a' := ?_) ?_ ?_
      rotate_left
      ·show Act.put _ (some 181) _ = _
       simp only [Act.put, sP, i64_w, i32_w]
       rfl
      refine one_ (i := 14) (N := some 183) (bm 17 32767) rfl rfl (one_of HT_.out (by kernel_rfl)) (by decide) (fun K hK => ?_)
      refine goes_ Try.func20 (by kernel_rfl) rfl #[.slice yA cl.length yc, .slice xA cl.length xc] (by rfl) rfl rfl pA ?_
      with_reducible refine (gradineplain_Ints.calls kj yA yc cl xA xc cl true _ (Kd.R_reads' yR.out).2.2 (Kd.R_reads' yR.out).2.1 (Kd.R_reads' xR.out).2.2 (Kd.R_reads' xR.out).2.1 KJ.out).mono ?_
      rintro e w37 ⟨rfl, hb0⟩
      refine ⟨_, rfl, ?_⟩
      have hb := hb0.below
      replace I1 := aM (AI.step I1.out hb)
      replace xR := aM (Kd.R_below xR.out hb)
      replace PR := aM (Kd.R_below PR.out hb)
      replace QR := aM (Kd.R_below QR.out hb)
      replace BV := bK BV hb
      clear hb hb0 mv yR
      have mv : ∀ {a : Addr} {v : Value}, W.cell? a = some v → w37.cell? a = some v := fun h_ => (I1.out.inv.bel.cell (World.block_lt_of_cell? W _ h_)).trans h_
      refine hK.out _ _ ⟨(blk3 BV.out).1, (blk3 BV.out).2.1, (blk3 BV.out).2.2.1, mv QY.out.2.1⟩ (fun hHeld => ?_)
      clear hK K
      refine norm_ (a' := ?_) ?_ ?_
      rotate_left
      ·show Act.put _ (some 183) _ = _
       simp only [Act.put, sP, i64_w, i32_w]
       rfl
      refine pP (i := 15) (N := some 184) (bm 17 65535) rfl rfl HT_.out ?_
      refine pP (i := 16) (N := some 185) (bm 17 131071) rfl rfl HT_.out ?_
      refine done_ (done_of HT_.out (by kernel_rfl)) ?_
      clear hHeld HT_ HW_ mv KI KJ KV BV PR QR xR
      try go_wp2
      go_roundg kq
      case measure => omega
      case rel => exact ⟨i + 1, U, ver', A3, c3, ts2, by first | rfl | (rw [w64o (by have := HK.out; have := HACT.out.1; omega) (by have := HK.out; have := HACT.out.1; omega)]; rfl), ⟨by have := HK.out; omega⟩, ⟨HV.out.1, HV.out.2.1, HV.out.2.2.1, by have := HV.out.2.2.2; omega⟩, ⟨HT2.out.1, by have := HT2.out.2; omega⟩, ⟨by first | exact I1.out | exact AI.step I1.out (Below.refl _ _).drew | exact AI.step I1.out (by repeat (first | exact Below.refl _ _ | apply below_alloc | apply pw_below_drewN | apply below_drew1))⟩⟩
    | zero =>
     have hin : i = la.length := by have := HK.out; omega
     clear HK
     subst hin
     have d1 : decide ((la.length : Int) < (la.length : Int)) = false := decide_eq_false (by omega)
     have d2 : decide (la.length < la.length) = false := decide_eq_false (by omega)
     go_wp2_with (first | (go_at_call 18; (with_reducible refine (all.calls gs gr c gf V ver A c' ts At ct Ac cc W _ (AI.inv (by first | exact I1.out | exact AI.step I1.out (Below.refl _ _).drew | exact AI.step I1.out (by repeat (first | exact Below.refl _ _ | apply below_alloc | apply pw_below_drewN | apply below_drew1)))) (AI.tz (by first | exact I1.out | exact AI.step I1.out (Below.refl _ _).drew | exact AI.step I1.out (by repeat (first | exact Below.refl _ _ | apply below_alloc | apply pw_below_drewN | apply below_drew1)))) (AI.vtC (by first | exact I1.out | exact AI.step I1.out (Below.refl _ _).drew | exact AI.step I1.out (by repeat (first | exact Below.refl _ _ | apply below_alloc | apply pw_below_drewN | apply below_drew1)))) (AI.vaC (by first | exact I1.out | exact AI.step I1.out (Below.refl _ _).drew | exact AI.step I1.out (by repeat (first | exact Below.refl _ _ | apply below_alloc | apply pw_below_drewN | apply below_drew1)))) (by have := HT.out.2; have := HACT.out.1; omega) (by have := HV.out.1; have := HE.out.2.2.2.2.2.1; omega) HV.out.2.1).mono ?_); rintro e w40 ⟨rfl, hb⟩; replace I1 := aM (AI.step (by first | exact I1.out | exact AI.step I1.out (Below.refl _ _).drew | exact AI.step I1.out (by repeat (first | exact Below.refl _ _ | apply below_alloc | apply pw_below_drewN | apply below_drew1))) hb); clear hb) | (go_at_call 7; (with_reducible refine (gradinelaw25_same.calls _).mono ?_); rintro e w41 ⟨rfl, hb⟩; replace I1 := aM (AI.step (by first | exact I1.out | exact AI.step I1.out (Below.refl _ _).drew | exact AI.step I1.out (by repeat (first | exact Below.refl _ _ | apply below_alloc | apply pw_below_drewN | apply below_drew1))) hb); clear hb))
     go_ret
     exact ⟨pE, I1.out.inv.bel⟩
end Tn
end Go.Proofs.Ytmhikecbajkonaa.Q
namespace Go.Proofs.Ytmhikecbajkonaa.O
open Go.RowKit Go.Proofs.YtmhikecbajkonaaW.PrintWords
set_option linter.unusedVariables false
/-- Whatever cells of type t can be read are a value of kind d with 'ok'. -/
def Opens {α : Type} (P : Program) (d : Kd α) (t : TypeId) (ok : α → Prop) : Prop :=
  P.cellsOf t = d.sz ∧ ∀ (H : Type) (enc : TypeId × Value → H) (w : World) (fuel : Nat) (cs : List Value) (x : DataW H × List MemPlace),
    DataW.trod enc P w 0 (fun _ => true) true fuel t cs = some x → ∃ a, d.K w a cs ∧ ok a
theorem opens_int {P : Program} {t : TypeId} (k : IntKind) (ht : P.underlying t = some (.int k)) (hc : P.cellsOf t = 1) : Opens P (Kd.int k) t (fun n => (Lit.int k n).wf = true) := by
  refine ⟨hc, fun H enc w fuel cs x h => ?_⟩
  obtain ⟨n, rfl, _, hw⟩ := DataW.trod_int ht h
  exact ⟨n, rfl, hw⟩
theorem opens_bool {P : Program} {t : TypeId} (ht : P.underlying t = some .bool) (hc : P.cellsOf t = 1) : Opens P Kd.bool t (fun _ => True) := by
  refine ⟨hc, fun H enc w fuel cs x h => ?_⟩
  obtain ⟨n, rfl, _⟩ := DataW.trod_bool ht h
  exact ⟨n, rfl, trivial⟩
theorem opens_string {P : Program} {t : TypeId} (ht : P.underlying t = some .string) (hc : P.cellsOf t = 1) : Opens P Kd.string t (fun s => s.size ≤ maxLen) := by
  refine ⟨hc, fun H enc w fuel cs x h => ?_⟩
  obtain ⟨n, rfl, _, hs⟩ := DataW.trod_string ht h
  exact ⟨n, rfl, hs⟩
theorem cells_each {w : World} {a : Addr} {n : Nat} {cs : List Value} (h : w.cells? 0 a n = some cs) : cs.length = n ∧ ∀ i u, cs[i]? = some u → w.cell? (a.add i) = some u := by
  obtain ⟨h1, h2, h3⟩ := World.cells?_some h
  refine ⟨h2, fun i u hu => ?_⟩
  have hi : i < n := by
    have := (List.getElem?_eq_some_iff.1 hu).1
    omega
  rw [h3 i hi, hu]
theorem opens_slice {α : Type} {P : Program} {t e : TypeId} {d : Kd α} {ok : α → Prop} [Inhabited α] (ht : P.underlying t = some (.slice e)) (hc : P.cellsOf t = 1) (h : Opens P d e ok) :
    Opens P (Kd.slice e d) t (fun l => ∀ x ∈ l, ok x) := by
  refine ⟨hc, fun H enc w fuel cs x hx => ?_⟩
  rcases Go.Deep.open_slice ht hx with ⟨rfl, _⟩ | ⟨a, len, cap, m, n, D, Pl, rfl, _, hl, hm, hmm, _, hel⟩
  · exact ⟨[], ⟨none, 0, rfl, Nat.le_refl _, rfl, by simp, fun h0 => absurd h0 (by simp)⟩, by simp⟩
  · simp only [if_true] at hmm
    subst hmm
    have each : ∀ i, i < m → ∃ y : α, ∃ cs', w.cells? 0 (a.add (i * P.cellsOf e)) (P.cellsOf e) = some cs' ∧ d.K w y cs' ∧ ok y := by
      intro i hi
      obtain ⟨cs', h1, h2⟩ := hel i hi
      obtain ⟨y, h3, h4⟩ := h.2 H enc w n cs' _ h2
      exact ⟨y, cs', h1, h3, h4⟩
    obtain ⟨f, hf⟩ := Go.Deep.choose_lt each
    refine ⟨(List.range len).map f, ⟨some a, m, by simp, by simpa using hl, by simp, ?_, fun _ => ⟨a, rfl, fun j p hp => ?_⟩⟩, ?_⟩
    · simp only [List.length_map, List.length_range]
      unfold maxLen at hm
      omega
    · rw [List.getElem?_map] at hp
      have hj : j < len := by
        apply Decidable.byContradiction
        intro hj
        rw [List.getElem?_eq_none (by simpa using hj)] at hp
        simp at hp
      rw [List.getElem?_eq_getElem (by simpa using hj)] at hp
      simp only [List.getElem_range, Option.map_some, Option.some.injEq] at hp
      subst hp
      obtain ⟨cs', h1, h3, _⟩ := hf j (by omega)
      obtain ⟨h5, h6⟩ := cells_each h1
      refine ⟨cs', by rw [h5, h.1], h3, fun i u hu => ?_⟩
      have := h6 i u hu
      rw [Go.Deep.add_add, h.1] at this
      exact this
    · intro y hy
      simp only [List.mem_map, List.mem_range] at hy
      obtain ⟨i, hi, rfl⟩ := hy
      exact (hf i (by omega)).choose_spec.2.2
theorem opens_sliceL {α : Type} {P : Program} {t e : TypeId} {d : Kd α} {ok : α → Prop} [Inhabited α] (ht : P.underlying t = some (.slice e)) (hc : P.cellsOf t = 1) (h : Opens P d e ok) :
    Opens P (Kd.slice e d) t (fun l => l.length ≤ maxLen ∧ ∀ x ∈ l, ok x) := by
  refine ⟨hc, fun H enc w fuel cs x hx => ?_⟩
  rcases Go.Deep.open_slice ht hx with ⟨rfl, _⟩ | ⟨a, len, cap, m, n, D, Pl, rfl, _, hl, hm, hmm, _, hel⟩
  · exact ⟨[], ⟨none, 0, rfl, Nat.le_refl _, rfl, by simp, fun h0 => absurd h0 (by simp)⟩, by simp, by simp⟩
  · simp only [if_true] at hmm
    subst hmm
    have each : ∀ i, i < m → ∃ y : α, ∃ cs', w.cells? 0 (a.add (i * P.cellsOf e)) (P.cellsOf e) = some cs' ∧ d.K w y cs' ∧ ok y := by
      intro i hi
      obtain ⟨cs', h1, h2⟩ := hel i hi
      obtain ⟨y, h3, h4⟩ := h.2 H enc w n cs' _ h2
      exact ⟨y, cs', h1, h3, h4⟩
    obtain ⟨f, hf⟩ := Go.Deep.choose_lt each
    refine ⟨(List.range len).map f, ⟨some a, m, by simp, by simpa using hl, by simp, ?_, fun _ => ⟨a, rfl, fun j p hp => ?_⟩⟩, by simp only [List.length_map, List.length_range]; omega, ?_⟩
    · simp only [List.length_map, List.length_range]
      unfold maxLen at hm
      omega
    · rw [List.getElem?_map] at hp
      have hj : j < len := by
        apply Decidable.byContradiction
        intro hj
        rw [List.getElem?_eq_none (by simpa using hj)] at hp
        simp at hp
      rw [List.getElem?_eq_getElem (by simpa using hj)] at hp
      simp only [List.getElem_range, Option.map_some, Option.some.injEq] at hp
      subst hp
      obtain ⟨cs', h1, h3, _⟩ := hf j (by omega)
      obtain ⟨h5, h6⟩ := cells_each h1
      refine ⟨cs', by rw [h5, h.1], h3, fun i u hu => ?_⟩
      have := h6 i u hu
      rw [Go.Deep.add_add, h.1] at this
      exact this
    · intro y hy
      simp only [List.mem_map, List.mem_range] at hy
      obtain ⟨i, hi, rfl⟩ := hy
      exact (hf i (by omega)).choose_spec.2.2
/-- The fields of a struct, one by one. -/
theorem field {H : Type} {enc : TypeId × Value → H} {P : Program} {w : World} {t : TypeId} {fs : Array Field} {fuel : Nat} {cs : List Value} {x : DataW H × List MemPlace} (ht : P.underlying t = some (.struct fs)) (h : DataW.trod enc P w 0 (fun _ => true) true fuel t cs = some x)
    (j : Nat) (f : Field) (hj : fs[j]? = some f) : ∃ y n, DataW.trod enc P w 0 (fun _ => true) true n f.type ((cs.drop f.offset).take (P.cellsOf f.type)) = some y := by
  obtain ⟨xs, n, _, rfl, hl, hlen, hf⟩ := DataW.trod_struct ht h
  have hjl : j < fs.size := (Array.getElem?_eq_some_iff.1 hj).1
  exact ⟨xs[j]'(by omega), n, by rw [hf j f hj, List.getElem?_eq_getElem (by omega)]⟩
theorem seg {l : List Value} {j : Nat} {v : Value} {vs : List Value} (h : (l.drop j).take 1 = [v]) (h2 : l.drop (j + 1) = vs) : l.drop j = v :: vs := by
  rw [← h2, ← List.drop_drop]
  rcases hd : l.drop j with _ | ⟨a, m⟩
  · rw [hd] at h; simp at h
  · rw [hd] at h; simp at h; simp [h]
theorem seg_end {l : List Value} {n : Nat} (h : l.length = n) : l.drop n = [] := by rw [← h]; exact List.drop_length
end Go.Proofs.Ytmhikecbajkonaa.O
namespace Go.Proofs.Ytmhikecbajkonaa.Q
open Go.RowKit Go.Proofs.YtmhikecbajkonaaW.PrintWords Go.Proofs.YtmhikecbajkonaaW.PrintLast Go.Proofs.YtmhikecbajkonaaW.PrintMore
set_option linter.unusedVariables false
set_option linter.unusedSimpArgs false
instance : Inhabited S80 := ⟨z80⟩
def ok80 : S80 → Prop := fun _ => True
set_option maxRecDepth 100000 in
theorem opens78 : O.Opens Try.prog k78 78 (fun _ => True) := by
  refine ⟨by kernel_rfl, fun H enc w fuel cs x h => ?_⟩
  obtain ⟨_, _, _, _, hl, _, _⟩ := DataW.trod_struct Try.underlying78 h
  obtain ⟨y0, n0, g0⟩ := O.field Try.underlying78 h 0 _ rfl
  obtain ⟨y1, n1, g1⟩ := O.field Try.underlying78 h 1 _ rfl
  obtain ⟨y2, n2, g2⟩ := O.field Try.underlying78 h 2 _ rfl
  have o38 := O.opens_slice Try.underlying76 (by kernel_rfl) (O.opens_int .u64 Try.underlying61 (by kernel_rfl))
  obtain ⟨a0, e0, _⟩ := (O.opens_bool Try.underlying4 (by kernel_rfl)).2 H enc w _ _ _ g0
  obtain ⟨l1, ⟨A1, c1, e1, hle1, hr1⟩, _⟩ := o38.2 H enc w _ _ _ g1
  obtain ⟨l2, ⟨A2, c2, e2, hle2, hr2⟩, _⟩ := o38.2 H enc w _ _ _ g2
  have hl3 : cs.length = 3 := hl.trans (by kernel_rfl)
  have k4 : Try.prog.cellsOf 4 = 1 := by kernel_rfl
  have k76 : Try.prog.cellsOf 76 = 1 := by kernel_rfl
  clear hl g0 g1 g2 h
  match cs, hl3 with
  | [u0, u1, u2], _ =>
    have q0 : ([u0, u1, u2].drop 0).take (Try.prog.cellsOf 4) = [.bool a0] := e0
    have q1 : ([u0, u1, u2].drop 1).take (Try.prog.cellsOf 76) = [.slice A1 l1.length c1] := e1
    have q2 : ([u0, u1, u2].drop 2).take (Try.prog.cellsOf 76) = [.slice A2 l2.length c2] := e2
    rw [k4] at q0
    rw [k76] at q1 q2
    have r0 : u0 = .bool a0 := by simpa using q0
    have r1 : u1 = .slice A1 l1.length c1 := by simpa using q1
    have r2 : u2 = .slice A2 l2.length c2 := by simpa using q2
    subst r0; subst r1; subst r2
    exact ⟨⟨a0, l1, l2⟩, k78_mk w ⟨a0, l1, l2⟩ hle1 hr1 hle2 hr2, trivial⟩
set_option maxRecDepth 100000 in
theorem opens80 : O.Opens Try.prog k80 80 ok80 := by
  refine ⟨by kernel_rfl, fun H enc w fuel cs x h => ?_⟩
  obtain ⟨_, _, _, _, hl, _, _⟩ := DataW.trod_struct Try.underlying80 h
  obtain ⟨y0, n0, g0⟩ := O.field Try.underlying80 h 0 _ rfl
  obtain ⟨y1, n1, g1⟩ := O.field Try.underlying80 h 1 _ rfl
  obtain ⟨y2, n2, g2⟩ := O.field Try.underlying80 h 2 _ rfl
  obtain ⟨a0, e0, _⟩ := opens78.2 H enc w _ _ _ g0
  obtain ⟨a1, e1, _⟩ := (O.opens_int .u64 Try.underlying61 (by kernel_rfl)).2 H enc w _ _ _ g1
  obtain ⟨a2, e2, _⟩ := (O.opens_int .i64 Try.underlying3 (by kernel_rfl)).2 H enc w _ _ _ g2
  have hl5 : cs.length = 5 := hl.trans (by kernel_rfl)
  have k78_ : Try.prog.cellsOf 78 = 3 := by kernel_rfl
  have k61_ : Try.prog.cellsOf 61 = 1 := by kernel_rfl
  have k3_ : Try.prog.cellsOf 3 = 1 := by kernel_rfl
  clear hl g0 g1 g2 h
  match cs, hl5 with
  | [u0, u1, u2, u3, u4], _ =>
    have q0 : k78.K w a0 (([u0, u1, u2, u3, u4].drop 0).take (Try.prog.cellsOf 78)) := e0
    have q1 : ([u0, u1, u2, u3, u4].drop 3).take (Try.prog.cellsOf 61) = [.int .u64 a1] := e1
    have q2 : ([u0, u1, u2, u3, u4].drop 4).take (Try.prog.cellsOf 3) = [.int .i64 a2] := e2
    rw [k78_] at q0
    rw [k61_] at q1
    rw [k3_] at q2
    have r1 : u3 = .int .u64 a1 := by simpa using q1
    have r2 : u4 = .int .i64 a2 := by simpa using q2
    subst r1; subst r2
    obtain ⟨A1, c1, A2, c2, e, l1, g1, l2, g2⟩ := k78_open q0
    have e' : u0 = .bool a0.f0 ∧ u1 = .slice A1 a0.f1.length c1 ∧ u2 = .slice A2 a0.f2.length c2 := by simpa using e
    obtain ⟨rfl, rfl, rfl⟩ := e'
    exact ⟨⟨a0, a1, a2⟩, k80_mk w ⟨a0, a1, a2⟩ l1 g1 l2 g2, trivial⟩
instance : Inhabited S43 := ⟨z43⟩
instance : Inhabited S45 := ⟨z45⟩
def ok43 : S43 → Prop := fun _ => True
def ok45 : S45 → Prop := fun _ => True
set_option maxRecDepth 100000 in
theorem opens43 : O.Opens Try.prog k43 43 ok43 := by
  refine ⟨by kernel_rfl, fun H enc w fuel cs x h => ?_⟩
  obtain ⟨_, _, _, _, hl, _, _⟩ := DataW.trod_struct Try.underlying43 h
  obtain ⟨y0, n0, g0⟩ := O.field Try.underlying43 h 0 _ rfl
  obtain ⟨y1, n1, g1⟩ := O.field Try.underlying43 h 1 _ rfl
  obtain ⟨y2, n2, g2⟩ := O.field Try.underlying43 h 2 _ rfl
  have o22 := O.opens_slice Try.underlying22 (by kernel_rfl) (O.opens_int .i64 Try.underlying3 (by kernel_rfl))
  obtain ⟨a0, e0, _⟩ := (O.opens_int .i64 Try.underlying3 (by kernel_rfl)).2 H enc w _ _ _ g0
  obtain ⟨l1, ⟨A1, c1, e1, hle1, hr1⟩, _⟩ := o22.2 H enc w _ _ _ g1
  obtain ⟨l2, ⟨A2, c2, e2, hle2, hr2⟩, _⟩ := o22.2 H enc w _ _ _ g2
  have hl3 : cs.length = 3 := hl.trans (by kernel_rfl)
  have k3 : Try.prog.cellsOf 3 = 1 := by kernel_rfl
  have k22 : Try.prog.cellsOf 22 = 1 := by kernel_rfl
  clear hl g0 g1 g2 h
  match cs, hl3 with
  | [u0, u1, u2], _ =>
    have q0 : ([u0, u1, u2].drop 0).take (Try.prog.cellsOf 3) = [.int .i64 a0] := e0
    have q1 : ([u0, u1, u2].drop 1).take (Try.prog.cellsOf 22) = [.slice A1 l1.length c1] := e1
    have q2 : ([u0, u1, u2].drop 2).take (Try.prog.cellsOf 22) = [.slice A2 l2.length c2] := e2
    rw [k3] at q0
    rw [k22] at q1 q2
    have r0 : u0 = .int .i64 a0 := by simpa using q0
    have r1 : u1 = .slice A1 l1.length c1 := by simpa using q1
    have r2 : u2 = .slice A2 l2.length c2 := by simpa using q2
    subst r0; subst r1; subst r2
    exact ⟨⟨a0, l1, l2⟩, k43_mk w ⟨a0, l1, l2⟩ hle1 hr1 hle2 hr2, trivial⟩
set_option maxRecDepth 100000 in
theorem opens45 : O.Opens Try.prog k45 45 ok45 := by
  refine ⟨by kernel_rfl, fun H enc w fuel cs x h => ?_⟩
  obtain ⟨_, _, _, _, hl, _, _⟩ := DataW.trod_struct Try.underlying45 h
  obtain ⟨y0, n0, g0⟩ := O.field Try.underlying45 h 0 _ rfl
  obtain ⟨y1, n1, g1⟩ := O.field Try.underlying45 h 1 _ rfl
  have o23 := O.opens_slice Try.underlying23 (by kernel_rfl) opens80
  obtain ⟨a0, e0, _⟩ := opens43.2 H enc w _ _ _ g0
  obtain ⟨l3, ⟨A3, c3, e3, hle3, hr3⟩, _⟩ := o23.2 H enc w _ _ _ g1
  have hl4 : cs.length = 4 := hl.trans (by kernel_rfl)
  have k43_ : Try.prog.cellsOf 43 = 3 := by kernel_rfl
  have k23 : Try.prog.cellsOf 23 = 1 := by kernel_rfl
  clear hl g0 g1 h
  match cs, hl4 with
  | [u0, u1, u2, u3], _ =>
    have q0 : k43.K w a0 (([u0, u1, u2, u3].drop 0).take (Try.prog.cellsOf 43)) := e0
    have q1 : ([u0, u1, u2, u3].drop 3).take (Try.prog.cellsOf 23) = [.slice A3 l3.length c3] := e3
    rw [k43_] at q0
    rw [k23] at q1
    have r1 : u3 = .slice A3 l3.length c3 := by simpa using q1
    subst r1
    obtain ⟨A1, c1, A2, c2, e, l1, g1, l2, g2⟩ := k43_open q0
    have e' : u0 = .int .i64 a0.f0 ∧ u1 = .slice A1 a0.f1.length c1 ∧ u2 = .slice A2 a0.f2.length c2 := by simpa using e
    obtain ⟨rfl, rfl, rfl⟩ := e'
    exact ⟨⟨a0, l3⟩, k45_mk w ⟨a0, l3⟩ l1 g1 l2 g2 hle3 hr3, trivial⟩
end Go.Proofs.Ytmhikecbajkonaa.Q
set_option linter.unusedVariables false
namespace Go.Proofs.Ytmhikecbajkonaa.Pure
open Go.RowKit Go.Proofs.YtmhikecbajkonaaW.PrintWords Go.Proofs.YtmhikecbajkonaaW.PrintLast Go.Proofs.YtmhikecbajkonaaW.PrintMore
theorem new_hyp {d : List Int} (h : Gr.chk d = 0) {l : List Q.S80} (hl : (l.length : Int) = Gr.cnt d) (hs : ∀ x ∈ l, Q.St.sw x) : ∃ k, Q.shape_Check.f d = some 0 ∧ Q.shape_Count.f k d = some (Gr.cnt d) ∧ (l.length : Int) = Gr.cnt d ∧ Q.view_Whole.f k d = some (0, d, Gr.stp d) ∧ 1 ≤ l.length ∧ l.length ≤ 64 ∧ Q.store_copies.f k l = some l := by
  obtain ⟨K1, h1⟩ := t_countE d
  obtain ⟨K2, h2⟩ := t_wholeE h
  have hb := t_cnt h
  refine ⟨K1 + K2 + l.length + 1, by show some _ = _; rw [h], h1 _ (by omega), hl, h2 _ (by omega), by omega, by omega, Q.St.copies_f _ (by omega) hs (by omega)⟩
theorem TensorActs_walk (W : World) (A0 : Option Addr) (c0 : Nat) (d : List Int) (hr0 : Kd.C (Kd.int .i64) W A0 d.length d) (hc0 : d.length ≤ c0) (ok0 : ∀ x ∈ d, (Lit.int .i64 x).wf = true) (A1 : Option Addr) (c1 : Nat) (l : List Q.S80) (hr1 : Kd.C Q.k80 W A1 l.length l) (hc1 : l.length ≤ c1) (ok1 : ∀ x ∈ l, Q.ok80 x) (A2 : Option Addr) (c2 : Nat) (la : List Q.S45) (hr2 : Kd.C Q.k45 W A2 la.length la) (hc2 : la.length ≤ c2) (ok2 : ∀ x ∈ la, Q.ok45 x) :
    Calls Try.prog 3 #[.agg #[.slice A0 d.length c0, .slice A1 l.length c1], .slice A2 la.length c2] W fun e W' => e = .returned (.bool true) ∧ Below W.heap.size W W' := by
  obtain ⟨ba, ha, hs⟩ := Q.Tn.args_f d l
  cases ba with
  | true => exact Q.Tn.acts_A W A0 c0 d hr0 hc0 A1 c1 l hr1 hc1 A2 c2 la hr2 hc2 ha
  | false =>
  obtain ⟨bm, hm, hms⟩ := Q.Tn.many25 (l := la) hr2.2.1
  cases bm with
  | true => exact Q.Tn.acts_B W A0 c0 d hr0 hc0 A1 c1 l hr1 hc1 A2 c2 la hr2 hc2 ha hm
  | false =>
  obtain ⟨h20, h100, hsw⟩ := hs rfl
  obtain ⟨m20, hact⟩ := hms rfl
  obtain ⟨kc, hk1, hk2⟩ := t_refs d
  by_cases hk : Gr.chk d = 0
  · rw [hk] at hk1
    have hck : Q.shape_Check.f d = some 0 := by show some _ = _; rw [hk]
    obtain ⟨ks, hks⟩ := t_count d
    by_cases hl : (l.length : Int) = Gr.cnt d
    · obtain ⟨k, hyp⟩ := new_hyp hk hl hsw
      refine Q.Tn.acts_E W A0 c0 d hr0 hc0 A1 c1 l hr1 hc1 A2 c2 la hr2 hc2 ha hm kc k _ _ hk1 hk2 hyp hsw (t_chk6 hk) ?_ m20 hact
      rw [t_whole_cls hk, ← hl]
      rfl
    · exact Q.Tn.acts_C2 W A0 c0 d hr0 hc0 A1 c1 l hr1 hc1 A2 c2 la hr2 hc2 ha hm kc ks _ hck hks hk1 hk2 hl
  · exact Q.Tn.acts_C1 W A0 c0 d hr0 hc0 A1 c1 l hr1 hc1 A2 c2 la hr2 hc2 ha hm kc (Gr.chk d) hk rfl hk1
end Go.Proofs.Ytmhikecbajkonaa.Pure
