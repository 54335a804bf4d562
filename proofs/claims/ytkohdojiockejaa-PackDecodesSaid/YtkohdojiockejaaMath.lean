namespace Gr

/-- The product of some numbers. -/
def prod : List Int → Int
  | [] => 1
  | x :: l => x * prod l

/-- What is wrong with dims (0: nothing). -/
def chk (d : List Int) : Int :=
  if 6 < d.length then 9 else if d.any (fun x => decide (x < 1)) then 8 else if 64 < prod d then 12 else 0

theorem prod_append (a b : List Int) : prod (a ++ b) = prod a * prod b := by
  induction a with
  | nil => simp [prod]
  | cons x a ih => simp [prod, ih, Int.mul_assoc]

theorem prod_pos (l : List Int) (h : ∀ x ∈ l, 1 ≤ x) : 1 ≤ prod l := by
  induction l with
  | nil => simp [prod]
  | cons x l ih =>
    have h1 := h x (by simp)
    have h2 := ih (fun y hy => h y (by simp [hy]))
    have h3 : 0 < x * prod l := Int.mul_pos (by omega) (by omega)
    simp only [prod]
    omega

theorem prod_take_succ (l : List Int) (k : Nat) (h : k < l.length) : prod (l.take (k + 1)) = prod (l.take k) * l[k] := by
  rw [List.take_succ_eq_append_getElem h, prod_append]
  simp [prod]

theorem prod_take_le (l : List Int) (h : ∀ x ∈ l, 1 ≤ x) (k : Nat) : prod (l.take k) ≤ prod l := by
  have e : prod l = prod (l.take k) * prod (l.drop k) := by
    rw [← prod_append, List.take_append_drop]
  have h1 := prod_pos (l.take k) (fun x hx => h x (List.mem_of_mem_take hx))
  have h2 := prod_pos (l.drop k) (fun x hx => h x (List.mem_of_mem_drop hx))
  rw [e]
  have h3 : prod (l.take k) * 1 ≤ prod (l.take k) * prod (l.drop k) := Int.mul_le_mul_of_nonneg_left h2 (by omega)
  omega

/-- The least cell, the greatest one, is there any: of how often each is one. -/
def spn : List Int → Int → Int → Int → Bool → Int × Int × Bool
  | [], _, lo, hi, sm => (lo, hi, sm)
  | x :: l, i, lo, hi, sm => if x = 0 then spn l (i + 1) lo hi sm else spn l (i + 1) (if sm = true then lo else i) i true

end Gr
