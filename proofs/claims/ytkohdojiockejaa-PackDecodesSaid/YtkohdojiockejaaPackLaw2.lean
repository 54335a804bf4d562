/- The plain laws: what is written is read as it was, and what is read is written so. -/
import Derived.Test.YtkohdojiockejaaQxfPlainBytes
import Derived.Test.YtkohdojiockejaaQxfLaw45Many
import Derived.Test.YtkohdojiockejaaQxfRef45Encode
import Derived.Test.YtkohdojiockejaaPackBits
import Derived.Test.YtkohdojiockejaaPackW0
import Derived.Test.YtkohdojiockejaaPackW1
import Derived.Test.YtkohdojiockejaaPackW2
import Derived.Test.YtkohdojiockejaaPackW3
import Derived.Test.YtkohdojiockejaaPackR0
import Derived.Test.YtkohdojiockejaaPackR1
import Derived.Test.YtkohdojiockejaaPackR4
import Derived.Test.YtkohdojiockejaaPackR5
import Derived.Test.YtkohdojiockejaaPackR6
import Derived.Test.YtkohdojiockejaaPackLaw
namespace Go.Proofs.Ytkohdojiockejaa.Q
open Go.RowKit Go.Proofs.YtkohdojiockejaaW.PrintWords Go.Proofs.YtkohdojiockejaaW.PrintLast Go.Proofs.YtkohdojiockejaaW.PrintMore
set_option linter.unusedVariables false
set_option linter.unusedSimpArgs false
namespace Pk
theorem mul_split (y p : Int) : y % 128 * p + y / 128 * (p * 128) = y * p := by
  have h : y = y % 128 + y / 128 * 128 := by omega
  have e : y * p = (y % 128 + y / 128 * 128) * p := by rw [← h]
  rw [e, Int.add_mul, Int.mul_assoc, Int.mul_comm 128 p]
theorem rdW_eW (rest : List Int) : ∀ (q : Nat) (x p y : Int), q ≤ 9 → 0 ≤ y → y < 2 * 128 ^ q → (1 ≤ y ∨ q = 9) → rdW (q + 1) x p (eW (q + 1) y ++ rest) = some (x + y * p, rest)
  | q, x, p, y, hq, h0, h1, h2 => by
    by_cases hy : 128 ≤ y
    · cases q with
      | zero => exact absurd h1 (by simp; omega)
      | succ q =>
        rw [eW_more hy, List.cons_append, rdW_more (by omega) (by omega)]
        have e : (y % 128 + 128) % 128 = y % 128 := by omega
        rw [e, rdW_eW rest q _ _ (y / 128) (by omega) (by omega) (by rw [Int.pow_succ] at h1; omega) (by omega), Int.add_assoc, mul_split]
    · rw [eW_last hy, List.singleton_append, rdW_last (by
        intro h
        rcases h with ⟨rfl, h⟩ | ⟨h, h'⟩
        · rw [Int.pow_zero] at h1; omega
        · omega) (by omega), Int.emod_eq_of_lt h0 (by omega)]
theorem u64_pow : (18446744073709551616 : Int) = 2 * 128 ^ 9 := by decide
theorem rw_eW (y : Int) (rest : List Int) (h0 : 0 ≤ y) (h1 : y < 18446744073709551616) : rw_ (eW 10 y ++ rest) = .ok y rest := by
  unfold rw_
  rw [rdW_eW rest 9 0 1 y (Nat.le_refl _) h0 (u64_pow ▸ h1) (Or.inr rfl)]
  simp
theorem rdN_eN (n : Int) (rest : List Int) (h : i64 n) : rdN (eN n ++ rest) = some (n, rest) := by
  have hz := zz_range h.1 h.2
  unfold rdN eN
  rw [rdW_eW rest 9 0 1 (zz n) (Nat.le_refl _) hz.1 (u64_pow ▸ hz.2) (Or.inr rfl)]
  simp [uz_zz]
theorem rn_eN (n : Int) (rest : List Int) (h : i64 n) : rn (eN n ++ rest) = .ok n rest := by
  unfold rn
  rw [rdN_eN n rest h]
theorem rm_eN (most n : Int) (rest : List Int) (h : i64 n) (h0 : 0 ≤ n) (h1 : n ≤ most) : rm most (eN n ++ rest) = .ok n rest := by
  unfold rm
  rw [rdN_eN n rest h]
  dsimp only
  rw [if_neg (by omega), if_neg (by omega)]
theorem rns_eN (rest : List Int) : ∀ (l : List Int), (∀ x ∈ l, i64 x) → rns l.length (l.flatMap eN ++ rest) = .ok l rest
  | [], _ => rfl
  | n :: l, h => by
    rw [List.length_cons, rns, List.flatMap_cons, List.append_assoc, rn_eN n _ (h n (List.mem_cons_self ..)), next_ok, rns_eN rest l (fun x hx => h x (List.mem_cons_of_mem _ hx)), next_ok]
theorem rl_eL (l rest : List Int) (h : ∀ x ∈ l, i64 x) (hl : l.length ≤ 256) : rl (eL l ++ rest) = .ok l rest := by
  unfold rl eL
  rw [List.append_assoc, rm_eN 256 _ _ (i64_len (by omega)) (by omega) (by omega), next_ok, Int.toNat_natCast, rns_eN rest l h]
theorem rb_eB (b : Bool) (rest : List Int) : rb (eB b ++ rest) = .ok b rest := by cases b <;> rfl
theorem rt_eT (t : S71) (rest : List Int) (h : i64 t.f0 ∧ i64 t.f1 ∧ 0 ≤ t.f2 ∧ t.f2 < 18446744073709551616) : rt (eT t ++ rest) = .ok t rest := by
  unfold rt eT
  rw [List.append_assoc, rn_eN _ _ h.1, next_ok, List.append_assoc, rn_eN _ _ h.2.1, next_ok, rw_eW _ _ h.2.2.1 h.2.2.2, next_ok]
theorem rts_eT (rest : List Int) : ∀ (l : List S71), (∀ t ∈ l, i64 t.f0 ∧ i64 t.f1 ∧ 0 ≤ t.f2 ∧ t.f2 < 18446744073709551616) → rts l.length (l.flatMap eT ++ rest) = .ok l rest
  | [], _ => rfl
  | t :: l, h => by
    rw [List.length_cons, rts, List.flatMap_cons, List.append_assoc, rt_eT t _ (h t (List.mem_cons_self ..)), next_ok, rts_eT rest l (fun x hx => h x (List.mem_cons_of_mem _ hx)), next_ok]
theorem longC_le {c : S45} (h : longC c = false) : c.f3.length ≤ 256 ∧ c.f4.f9.length ≤ 256 ∧ c.f5.length ≤ 256 ∧ c.f6.length ≤ 256 := by
  have := longC_f h
  omega
theorem rc_eC (c : S45) (rest : List Int) (h : okC c) (hL : longC c = false) : rc (eC c ++ rest) = .ok c rest := by
  obtain ⟨l1, l2, l3, l4⟩ := longC_le hL
  obtain ⟨h0, h1, h2⟩ := h.a
  obtain ⟨b0, b1, b2, b3, b4, b5, b6, b7⟩ := h.b
  obtain ⟨s1, s2, s3⟩ := h.s
  unfold rc eC
  have e3 := fun r => rns_eN r [c.f0, c.f1, c.f2] (fun x hx => by simp only [List.mem_cons, List.not_mem_nil, or_false] at hx; rcases hx with rfl | rfl | rfl <;> assumption)
  have e8 := fun r => rns_eN r [c.f4.f0, c.f4.f1, c.f4.f2, c.f4.f3, c.f4.f4, c.f4.f5, c.f4.f6, c.f4.f7] (fun x hx => by simp only [List.mem_cons, List.not_mem_nil, or_false] at hx; rcases hx with rfl | rfl | rfl | rfl | rfl | rfl | rfl | rfl <;> assumption)
  have e3' : ∀ r, rns 3 ([c.f0, c.f1, c.f2].flatMap eN ++ r) = .ok [c.f0, c.f1, c.f2] r := e3
  have e8' : ∀ r, rns 8 ([c.f4.f0, c.f4.f1, c.f4.f2, c.f4.f3, c.f4.f4, c.f4.f5, c.f4.f6, c.f4.f7].flatMap eN ++ r) = .ok [c.f4.f0, c.f4.f1, c.f4.f2, c.f4.f3, c.f4.f4, c.f4.f5, c.f4.f6, c.f4.f7] r := e8
  rw [List.append_assoc, e3', next_ok, rc1, List.append_assoc, rl_eL _ _ s1 l1, next_ok, rc2, List.append_assoc, e8', next_ok, rc3, List.append_assoc, rb_eB, next_ok, rc4, List.append_assoc, rl_eL _ _ s2 l2, next_ok, rc5, List.append_assoc, rl_eL _ _ s3 l3, next_ok, rc6, List.append_assoc, rm_eN 256 _ _ (i64_len (by omega)) (by omega) (by omega), next_ok, Int.toNat_natCast, List.append_assoc, rts_eT _ _ h.t, next_ok, rc8, rb_eB, next_ok]
  rfl
theorem rcs_eC (rest : List Int) : ∀ (l : List S45), (∀ c ∈ l, okC c ∧ longC c = false) → rcs l.length (l.flatMap eC ++ rest) = .ok l rest
  | [], _ => rfl
  | c :: l, h => by
    have hc := h c (List.mem_cons_self ..)
    rw [List.length_cons, rcs, List.flatMap_cons, List.append_assoc, rc_eC c _ hc.1 hc.2, next_ok, rcs_eC rest l (fun x hx => h x (List.mem_cons_of_mem _ hx)), next_ok]
/-- What is written is read as it was. -/
theorem ra_enc (l : List S45) (h : ∀ c ∈ l, okC c ∧ longC c = false) (hl : l.length ≤ 200) : ra (encB l) = .ok l [] ∧ encC l = 0 := by
  have ha : l.any longC = false := by
    rw [List.any_eq_false]
    intro c hc
    rw [(h c hc).2]
    simp
  have hd : decide (200 < l.length) = false := decide_eq_false (by omega)
  unfold encB encC ra
  rw [ha, hd]
  refine ⟨?_, rfl⟩
  have e := rcs_eC [] l h
  rw [List.append_nil] at e
  rw [if_neg (by simp), rm_eN 200 _ _ (i64_len (by omega)) (by omega) (by omega), next_ok, Int.toNat_natCast, e]
/-- Bytes. -/
def Bs (bs : List Int) : Prop := ∀ b ∈ bs, 0 ≤ b ∧ b < 256
theorem Bs.tail {p l : List Int} (h : Bs (p ++ l)) : Bs l := fun b hb => h b (List.mem_append_right _ hb)
theorem eW_rdW : ∀ (q : Nat) (x p : Int) (bs : List Int) (z : Int) (l : List Int), q ≤ 9 → Bs bs → rdW (q + 1) x p bs = some (z, l) → ∃ y, 0 ≤ y ∧ y < 2 * 128 ^ q ∧ (1 ≤ y ∨ q = 9) ∧ z = x + y * p ∧ bs = eW (q + 1) y ++ l
  | q, x, p, [], z, l, hq, hb, h => by cases h
  | q, x, p, b :: t, z, l, hq, hb, h => by
    have hbb := hb b (List.mem_cons_self ..)
    by_cases hbad : (q = 0 ∧ 1 < b) ∨ (b = 0 ∧ q < 9)
    · rw [rdW_bad hbad] at h; cases h
    · by_cases hlt : b < 128
      · rw [rdW_last hbad hlt] at h
        cases h
        refine ⟨b, hbb.1, ?_, by omega, by rw [Int.emod_eq_of_lt hbb.1 hlt], by rw [eW_last (by omega)]; rfl⟩
        cases q with
        | zero => rw [Int.pow_zero]; omega
        | succ q =>
          have h1 : (0 : Int) < 128 ^ q := Int.pow_pos (by decide)
          rw [Int.pow_succ]
          omega
      · cases q with
        | zero => exact absurd (Or.inl ⟨rfl, by omega⟩) hbad
        | succ q =>
          rw [rdW_more hbad hlt] at h
          obtain ⟨y, h1, h2, h3, h4, h5⟩ := eW_rdW q _ _ t z l (by omega) (fun c hc => hb c (List.mem_cons_of_mem _ hc)) h
          have hy : 1 ≤ y := by omega
          refine ⟨y * 128 + (b - 128), by omega, by rw [Int.pow_succ]; omega, by omega, ?_, ?_⟩
          · have e1 : b % 128 = (y * 128 + (b - 128)) % 128 := by omega
            have e2 : y = (y * 128 + (b - 128)) / 128 := by omega
            rw [h4, ← mul_split (y * 128 + (b - 128)) p, ← e1, ← e2, Int.add_assoc]
          · rw [eW_more (by omega), show (y * 128 + (b - 128)) % 128 + 128 = b by omega, show (y * 128 + (b - 128)) / 128 = y by omega, h5]
            rfl
theorem rn_bad {bs : List Int} {k : Int} (h : rn bs = .bad k) : k = 2 := by
  unfold rn at h
  split at h
  · cases h
  · cases h; rfl
theorem rw_bad {bs : List Int} {k : Int} (h : rw_ bs = .bad k) : k = 2 := by
  unfold rw_ at h
  split at h
  · cases h
  · cases h; rfl
theorem rm_bad {most : Int} {bs : List Int} {k : Int} (h : rm most bs = .bad k) : k = 2 ∨ k = 3 := by
  unfold rm at h
  split at h
  · split at h
    · cases h; exact Or.inl rfl
    · split at h
      · cases h; exact Or.inr rfl
      · cases h
  · cases h; exact Or.inl rfl
theorem rb_bad {bs : List Int} {k : Int} (h : rb bs = .bad k) : k = 2 := by
  unfold rb at h
  split at h
  · cases h; rfl
  · split at h
    · cases h; rfl
    · cases h
theorem next_bad_inv {α β : Type} {r : Rd α} {f : α → List Int → Rd β} {k : Int} (h : r.next f = .bad k) : r = .bad k ∨ ∃ x l, r = .ok x l ∧ f x l = .bad k := by
  cases r with
  | ok x l => exact Or.inr ⟨x, l, rfl, h⟩
  | bad k' => cases h; exact Or.inl rfl
def E23 (k : Int) : Prop := k = 2 ∨ k = 3
theorem rns_bad : ∀ (n : Nat) (bs : List Int) (k : Int), rns n bs = .bad k → E23 k
  | 0, bs, k, h => by cases h
  | n + 1, bs, k, h => by
    rw [rns] at h
    rcases next_bad_inv h with h | ⟨x, l, _, h⟩
    · exact Or.inl (rn_bad h)
    · rcases next_bad_inv h with h | ⟨y, l', _, h⟩
      · exact rns_bad n l k h
      · cases h
theorem rl_bad {bs : List Int} {k : Int} (h : rl bs = .bad k) : E23 k := by
  unfold rl at h
  rcases next_bad_inv h with h | ⟨x, l, _, h⟩
  · exact rm_bad h
  · exact rns_bad _ _ _ h
theorem rt_bad {bs : List Int} {k : Int} (h : rt bs = .bad k) : E23 k := by
  unfold rt at h
  rcases next_bad_inv h with h | ⟨x, l, _, h⟩
  · exact Or.inl (rn_bad h)
  rcases next_bad_inv h with h | ⟨x, l, _, h⟩
  · exact Or.inl (rn_bad h)
  rcases next_bad_inv h with h | ⟨x, l, _, h⟩
  · exact Or.inl (rw_bad h)
  · cases h
theorem rts_bad : ∀ (n : Nat) (bs : List Int) (k : Int), rts n bs = .bad k → E23 k
  | 0, bs, k, h => by cases h
  | n + 1, bs, k, h => by
    rw [rts] at h
    rcases next_bad_inv h with h | ⟨x, l, _, h⟩
    · exact rt_bad h
    · rcases next_bad_inv h with h | ⟨y, l', _, h⟩
      · exact rts_bad n l k h
      · cases h
theorem rc_bad {bs : List Int} {k : Int} (h : rc bs = .bad k) : E23 k := by
  unfold rc at h
  rcases next_bad_inv h with h | ⟨x, l, _, h⟩
  · exact rns_bad _ _ _ h
  unfold rc1 at h
  rcases next_bad_inv h with h | ⟨x, l, _, h⟩
  · exact rl_bad h
  unfold rc2 at h
  rcases next_bad_inv h with h | ⟨x, l, _, h⟩
  · exact rns_bad _ _ _ h
  unfold rc3 at h
  rcases next_bad_inv h with h | ⟨x, l, _, h⟩
  · exact Or.inl (rb_bad h)
  unfold rc4 at h
  rcases next_bad_inv h with h | ⟨x, l, _, h⟩
  · exact rl_bad h
  unfold rc5 at h
  rcases next_bad_inv h with h | ⟨x, l, _, h⟩
  · exact rl_bad h
  unfold rc6 at h
  rcases next_bad_inv h with h | ⟨x, l, _, h⟩
  · exact rm_bad h
  rcases next_bad_inv h with h | ⟨x, l, _, h⟩
  · exact rts_bad _ _ _ h
  unfold rc8 at h
  rcases next_bad_inv h with h | ⟨x, l, _, h⟩
  · exact Or.inl (rb_bad h)
  · cases h
theorem rcs_bad : ∀ (n : Nat) (bs : List Int) (k : Int), rcs n bs = .bad k → E23 k
  | 0, bs, k, h => by cases h
  | n + 1, bs, k, h => by
    rw [rcs] at h
    rcases next_bad_inv h with h | ⟨x, l, _, h⟩
    · exact rc_bad h
    · rcases next_bad_inv h with h | ⟨y, l', _, h⟩
      · exact rcs_bad n l k h
      · cases h
theorem ra_bad {bs : List Int} {k : Int} (h : ra bs = .bad k) : E23 k := by
  unfold ra at h
  rcases next_bad_inv h with h | ⟨x, l, _, h⟩
  · exact rm_bad h
  · exact rcs_bad _ _ _ h
theorem ra_not_zero {bs : List Int} {k : Int} (h : k = 0) : ra bs ≠ .bad k := by
  subst h
  intro h
  rcases ra_bad h with h | h <;> cases h
theorem next_inv {α β : Type} {r : Rd α} {f : α → List Int → Rd β} {y : β} {l' : List Int} (h : r.next f = .ok y l') : ∃ x l, r = .ok x l ∧ f x l = .ok y l' := by
  cases r with
  | ok x l => exact ⟨x, l, rfl, h⟩
  | bad k => cases h
theorem zz_uz {y : Int} (h0 : 0 ≤ y) : zz (uz y) = y := by
  unfold uz zz
  split <;> split <;> omega
theorem rw_bs {bs l : List Int} {y : Int} (hb : Bs bs) (h : rw_ bs = .ok y l) : 0 ≤ y ∧ y < 18446744073709551616 ∧ bs = eW 10 y ++ l := by
  unfold rw_ at h
  cases hr : rdW 10 0 1 bs with
  | none => rw [hr] at h; cases h
  | some z =>
    rw [hr] at h
    obtain ⟨z, l'⟩ := z
    cases h
    obtain ⟨y, h1, h2, _, h4, h5⟩ := eW_rdW 9 0 1 bs z l' (Nat.le_refl _) hb hr
    have e : z = y := by omega
    subst e
    exact ⟨h1, u64_pow ▸ h2, h5⟩
theorem rdN_bs {bs l : List Int} {n : Int} (hb : Bs bs) (h : rdN bs = some (n, l)) : i64 n ∧ bs = eN n ++ l := by
  unfold rdN at h
  cases hr : rdW 10 0 1 bs with
  | none => rw [hr] at h; cases h
  | some z =>
    rw [hr] at h
    obtain ⟨z, l'⟩ := z
    cases h
    obtain ⟨y, h1, h2, _, h4, h5⟩ := eW_rdW 9 0 1 bs z l' (Nat.le_refl _) hb hr
    have e : z = y := by omega
    subst e
    refine ⟨uz_range h1 (u64_pow ▸ h2), ?_⟩
    show bs = eW 10 (zz (uz z)) ++ l'
    rw [zz_uz h1]
    exact h5
theorem rn_bs {bs l : List Int} {n : Int} (hb : Bs bs) (h : rn bs = .ok n l) : i64 n ∧ bs = eN n ++ l := by
  unfold rn at h
  cases hr : rdN bs with
  | none => rw [hr] at h; cases h
  | some z =>
    rw [hr] at h
    obtain ⟨z, l'⟩ := z
    cases h
    exact rdN_bs hb hr
theorem rm_bs {most : Int} {bs l : List Int} {n : Int} (hb : Bs bs) (h : rm most bs = .ok n l) : i64 n ∧ bs = eN n ++ l := by
  unfold rm at h
  cases hr : rdN bs with
  | none => rw [hr] at h; cases h
  | some z =>
    rw [hr] at h
    obtain ⟨z, l'⟩ := z
    dsimp only at h
    split at h
    · cases h
    split at h
    · cases h
    cases h
    exact rdN_bs hb hr
theorem rns_bs : ∀ (k : Nat) (bs ns l : List Int), Bs bs → rns k bs = .ok ns l → ns.length = k ∧ (∀ x ∈ ns, i64 x) ∧ bs = ns.flatMap eN ++ l
  | 0, bs, ns, l, hb, h => by
    cases h
    exact ⟨rfl, fun x hx => (by cases hx), rfl⟩
  | k + 1, bs, ns, l, hb, h => by
    rw [rns] at h
    obtain ⟨n, l1, e1, h⟩ := next_inv h
    obtain ⟨ms, l2, e2, h⟩ := next_inv h
    cases h
    obtain ⟨h1, rfl⟩ := rn_bs hb e1
    obtain ⟨h2, h3, rfl⟩ := rns_bs k l1 ms l hb.tail e2
    refine ⟨by rw [List.length_cons, h2], fun x hx => ?_, by rw [List.flatMap_cons, List.append_assoc]⟩
    rcases List.mem_cons.mp hx with rfl | hx
    · exact h1
    · exact h3 x hx
theorem toNat_len {n : Int} {k : Nat} (h0 : 0 ≤ n) (h : k = n.toNat) : (k : Int) = n := by omega
theorem rl_bs {bs s l : List Int} (hb : Bs bs) (h : rl bs = .ok s l) : (∀ x ∈ s, i64 x) ∧ s.length ≤ 256 ∧ bs = eL s ++ l := by
  unfold rl at h
  obtain ⟨n, l1, e1, h'⟩ := next_inv h
  clear h
  have h := h'
  clear h'
  have hr := rm_range e1
  obtain ⟨h1, rfl⟩ := rm_bs hb e1
  obtain ⟨h2, h3, rfl⟩ := rns_bs _ l1 s l hb.tail h
  have e := toNat_len hr.1 h2
  refine ⟨h3, by omega, ?_⟩
  unfold eL
  rw [e, List.append_assoc]
theorem rb_bs {bs l : List Int} {b : Bool} (hb : Bs bs) (h : rb bs = .ok b l) : bs = eB b ++ l := by
  cases bs with
  | nil => cases h
  | cons x t =>
    have hx := hb x (List.mem_cons_self ..)
    by_cases hx1 : 1 < x
    · rw [rb, if_pos hx1] at h
      cases h
    · rw [rb, if_neg hx1] at h
      cases h
      by_cases h1 : x = 1
      · subst h1; rfl
      · have h0 : x = 0 := by omega
        subst h0; rfl
theorem rt_bs {bs l : List Int} {t : S71} (hb : Bs bs) (h : rt bs = .ok t l) : (i64 t.f0 ∧ i64 t.f1 ∧ 0 ≤ t.f2 ∧ t.f2 < 18446744073709551616) ∧ bs = eT t ++ l := by
  unfold rt at h
  obtain ⟨a, l1, e1, h⟩ := next_inv h
  obtain ⟨b, l2, e2, h⟩ := next_inv h
  obtain ⟨c, l3, e3, h⟩ := next_inv h
  cases h
  obtain ⟨h1, rfl⟩ := rn_bs hb e1
  obtain ⟨h2, rfl⟩ := rn_bs hb.tail e2
  obtain ⟨h3, h4, rfl⟩ := rw_bs hb.tail.tail e3
  refine ⟨⟨h1, h2, h3, h4⟩, ?_⟩
  unfold eT
  rw [List.append_assoc, List.append_assoc]
theorem rts_bs : ∀ (k : Nat) (bs : List Int) (ts : List S71) (l : List Int), Bs bs → rts k bs = .ok ts l → ts.length = k ∧ (∀ t ∈ ts, i64 t.f0 ∧ i64 t.f1 ∧ 0 ≤ t.f2 ∧ t.f2 < 18446744073709551616) ∧ bs = ts.flatMap eT ++ l
  | 0, bs, ts, l, hb, h => by
    cases h
    exact ⟨rfl, fun x hx => (by cases hx), rfl⟩
  | k + 1, bs, ts, l, hb, h => by
    rw [rts] at h
    obtain ⟨n, l1, e1, h⟩ := next_inv h
    obtain ⟨ms, l2, e2, h⟩ := next_inv h
    cases h
    obtain ⟨h1, rfl⟩ := rt_bs hb e1
    obtain ⟨h2, h3, rfl⟩ := rts_bs k l1 ms l hb.tail e2
    refine ⟨by rw [List.length_cons, h2], fun x hx => ?_, by rw [List.flatMap_cons, List.append_assoc]⟩
    rcases List.mem_cons.mp hx with rfl | hx
    · exact h1
    · exact h3 x hx
theorem rc_bs {bs l : List Int} {c : S45} (hb : Bs bs) (h : rc bs = .ok c l) : okC c ∧ longC c = false ∧ bs = eC c ++ l := by
  unfold rc at h
  obtain ⟨f, l1, e1, h⟩ := next_inv h
  unfold rc1 at h
  obtain ⟨s, l2, e2, h⟩ := next_inv h
  unfold rc2 at h
  obtain ⟨a, l3, e3, h⟩ := next_inv h
  unfold rc3 at h
  obtain ⟨k, l4, e4, h⟩ := next_inv h
  unfold rc4 at h
  obtain ⟨t, l5, e5, h⟩ := next_inv h
  unfold rc5 at h
  obtain ⟨d, l6, e6, h⟩ := next_inv h
  unfold rc6 at h
  obtain ⟨n, l7, e7, h⟩ := next_inv h
  obtain ⟨ts, l8, e8, h⟩ := next_inv h
  unfold rc8 at h
  obtain ⟨o, l9, e9, h⟩ := next_inv h
  cases h
  have hr := rm_range e7
  obtain ⟨f1, f2, rfl⟩ := rns_bs _ _ _ _ hb e1
  replace hb := hb.tail
  obtain ⟨s1, s2, rfl⟩ := rl_bs hb e2
  replace hb := hb.tail
  obtain ⟨a1, a2, rfl⟩ := rns_bs _ _ _ _ hb e3
  replace hb := hb.tail
  obtain rfl := rb_bs hb e4
  replace hb := hb.tail
  obtain ⟨t1, t2, rfl⟩ := rl_bs hb e5
  replace hb := hb.tail
  obtain ⟨d1, d2, rfl⟩ := rl_bs hb e6
  replace hb := hb.tail
  obtain ⟨n1, rfl⟩ := rm_bs hb e7
  replace hb := hb.tail
  obtain ⟨u1, u2, rfl⟩ := rts_bs _ _ _ _ hb e8
  replace hb := hb.tail
  obtain rfl := rb_bs hb e9
  have e := toNat_len hr.1 u1
  obtain ⟨f0, f1', f2', rfl⟩ := len3 f1
  obtain ⟨a0, a1', a2', a3, a4, a5, a6, a7, rfl⟩ := len8 a1
  simp only [List.mem_cons, List.not_mem_nil, or_false, forall_eq_or_imp, forall_eq] at f2 a2
  refine ⟨⟨f2, a2, ⟨s1, t1, d1⟩, u2⟩, ?_, ?_⟩
  · unfold longC
    simp only [Bool.or_eq_false_iff, decide_eq_false_iff_not]
    omega
  · subst e
    simp only [eC, List.append_assoc, List.getD_cons_zero, List.getD_cons_succ]
theorem rcs_bs : ∀ (k : Nat) (bs : List Int) (cs : List S45) (l : List Int), Bs bs → rcs k bs = .ok cs l → cs.length = k ∧ (∀ c ∈ cs, okC c ∧ longC c = false) ∧ bs = cs.flatMap eC ++ l
  | 0, bs, cs, l, hb, h => by
    cases h
    exact ⟨rfl, fun x hx => (by cases hx), rfl⟩
  | k + 1, bs, cs, l, hb, h => by
    rw [rcs] at h
    obtain ⟨n, l1, e1, h⟩ := next_inv h
    obtain ⟨ms, l2, e2, h⟩ := next_inv h
    cases h
    obtain ⟨h1, h1', rfl⟩ := rc_bs hb e1
    obtain ⟨h2, h3, rfl⟩ := rcs_bs k l1 ms l hb.tail e2
    refine ⟨by rw [List.length_cons, h2], fun x hx => ?_, by rw [List.flatMap_cons, List.append_assoc]⟩
    rcases List.mem_cons.mp hx with rfl | hx
    · exact ⟨h1, h1'⟩
    · exact h3 x hx
theorem ra_bs {bs l : List Int} {cs : List S45} (hb : Bs bs) (h : ra bs = .ok cs l) : cs.length ≤ 200 ∧ (∀ c ∈ cs, okC c ∧ longC c = false) ∧ bs = eN (cs.length : Int) ++ (cs.flatMap eC ++ l) := by
  unfold ra at h
  obtain ⟨n, l1, e1, h'⟩ := next_inv h
  clear h
  have h := h'
  clear h'
  have hr := rm_range e1
  obtain ⟨h1, rfl⟩ := rm_bs hb e1
  obtain ⟨h2, h3, rfl⟩ := rcs_bs _ l1 cs l hb.tail h
  have e := toNat_len hr.1 h2
  exact ⟨by omega, h3, by rw [e]⟩
/-- What is read is written so. -/
theorem enc_ra {bs : List Int} (hb : Bs bs) (h : decE bs = 0) : encB (decL bs) = bs ∧ encC (decL bs) = 0 ∧ (∀ c ∈ decL bs, okC c) ∧ (∀ c ∈ decL bs, smC c) ∧ (decL bs).length ≤ 200 := by
  unfold decE at h
  unfold decL
  cases hr : ra bs with
  | bad k =>
    rw [hr] at h
    exact absurd hr (ra_not_zero h)
  | ok cs l =>
    rw [hr] at h
    cases l with
    | cons x l =>
      have h2 : (2 : Int) = 0 := h
      exact absurd h2 (by decide)
    | nil =>
      obtain ⟨h1, h2, h3⟩ := ra_bs hb hr
      rw [List.append_nil] at h3
      have ha : cs.any longC = false := by
        rw [List.any_eq_false]
        intro c hc
        rw [(h2 c hc).2]
        simp
      have hd : decide (200 < cs.length) = false := decide_eq_false (by omega)
      refine ⟨?_, ?_, fun c hc => (h2 c hc).1, fun c hc => ?_, h1⟩
      · unfold encB
        rw [ha, hd, if_neg (by simp)]
        exact h3.symm
      · unfold encC
        rw [ha, hd]
        rfl
      · have := longC_le (h2 c hc).2
        exact ⟨by omega, by omega, by omega, by omega⟩
end Pk
end Go.Proofs.Ytkohdojiockejaa.Q
