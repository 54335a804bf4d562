/- Bits and numbers, plainly. -/
import Derived.Laws.BitsAllLaws
import Derived.Laws.Bits64b
import Derived.Laws.BitsLemmas
import Derived.Test.YtkohdojiockejaaProg
namespace Go.Proofs.Ytkohdojiockejaa.Q.Pk
set_option linter.unusedVariables false
theorem or128N : ∀ m : Fin 256, bits .or .u8 (m.val : Int) 128 = (m.val : Int) % 128 + 128 := by decide +kernel
theorem or128 (y : Int) (h : 0 ≤ y) : bits .or .u8 (y % 256) 128 = y % 128 + 128 := by
  have := or128N ⟨(y % 256).toNat, by omega⟩
  simp only [Int.toNat_of_nonneg (show 0 ≤ y % 256 by omega)] at this
  rw [this]
  omega
/-- A number as a word. -/
def zz (n : Int) : Int := if 0 ≤ n then 2 * n else -2 * n - 1
theorem zz_range {n : Int} (h0 : -9223372036854775808 ≤ n) (h1 : n ≤ 9223372036854775807) : 0 ≤ zz n ∧ zz n < 18446744073709551616 := by
  unfold zz
  split <;> omega
theorem xor_ones (a : Nat) (h : a < 18446744073709551616) : a ^^^ 18446744073709551615 = 18446744073709551615 - a := by
  have e : (BitVec.ofNat 64 a ^^^ BitVec.allOnes 64) = ~~~ BitVec.ofNat 64 a := BitVec.xor_allOnes
  have e2 := congrArg BitVec.toNat e
  rw [BitVec.toNat_xor, BitVec.toNat_not, BitVec.toNat_allOnes, BitVec.toNat_ofNat, Nat.mod_eq_of_lt h] at e2
  exact e2
theorem u64w {x : Int} : IntKind.u64.wrap x = x % 18446744073709551616 := rfl
theorem zig {x : Int} (h0 : -9223372036854775808 ≤ x) (h1 : x ≤ 9223372036854775807) : bits BinOp.xor IntKind.u64 (IntKind.u64.wrap (IntKind.u64.wrap x * 2)) (IntKind.u64.wrap (x / 9223372036854775808)) = zz x := by
  rw [u64w, u64w, u64w]
  by_cases hx : 0 ≤ x
  · rw [show (x % 18446744073709551616 * 2) % 18446744073709551616 = 2 * x by omega, show (x / 9223372036854775808) % 18446744073709551616 = 0 by omega, u64_xor _ _ (by omega) (by omega) (by omega) (by omega)]
    unfold zz
    rw [if_pos hx]
    simp
    omega
  · rw [show (x % 18446744073709551616 * 2) % 18446744073709551616 = 2 * x + 18446744073709551616 by omega, show (x / 9223372036854775808) % 18446744073709551616 = 18446744073709551615 by omega, u64_xor _ _ (by omega) (by omega) (by omega) (by omega)]
    unfold zz
    rw [if_neg hx, show (18446744073709551615 : Int).toNat = 18446744073709551615 from rfl, xor_ones _ (by omega)]
    omega
theorem and127N : ∀ m : Fin 256, bits .and .u8 (m.val : Int) 127 = (m.val : Int) % 128 := by decide +kernel
theorem and127 (b : Int) (h : 0 ≤ b ∧ b < 256) : bits .and .u8 b 127 = b % 128 := by
  have := and127N ⟨b.toNat, by omega⟩
  simp only [Int.toNat_of_nonneg h.1] at this
  exact this
theorem digL (n P : Nat) (hP : 2 ^ n = P) (hP0 : 0 < P) {x y : Int} (hx : 0 ≤ x ∧ x < (P : Int)) (hy : 0 ≤ y) (hm : y * (P : Int) < 18446744073709551616) (hl : y < 18446744073709551616) (hPl : (P : Int) < 18446744073709551616) : bits .or .u64 x (IntKind.u64.wrap (IntKind.u64.wrap y * 2 ^ n)) = x + y * (P : Int) := by
  obtain ⟨yn, rfl⟩ := Int.eq_ofNat_of_zero_le hy
  obtain ⟨xn, rfl⟩ := Int.eq_ofNat_of_zero_le hx.1
  have e : ((2 : Int) ^ n) = (P : Int) := by rw [← hP]; simp
  rw [u64w, u64w, Int.emod_eq_of_lt (by omega) hl, e, ← Int.natCast_mul, Int.emod_eq_of_lt (by omega) (by rw [Int.natCast_mul]; exact hm)]
  have hm' : yn * P < 18446744073709551616 := by
    have : ((yn * P : Nat) : Int) < 18446744073709551616 := by rw [Int.natCast_mul]; exact hm
    omega
  rw [u64_or_nat xn (yn * P) (by omega) hm', Nat.or_comm, nat_join n (yn * P) xn (by rw [hP]; exact Nat.mul_mod_left _ _) (by rw [hP]; omega)]
  omega
theorem dig {x b p i : Int} {kq : Nat} (hi : i = 7 * (10 - ((kq + 1 : Nat) : Int)) ∧ kq + 1 ≤ 10) (hp : p = 128 ^ (10 - (kq + 1)) ∧ 0 ≤ x ∧ x < p) (hb : 0 ≤ b ∧ b < 256) (h9 : kq = 0 → b ≤ 1) : bits .or .u64 x (IntKind.u64.wrap (IntKind.u64.wrap (bits .and .u8 b 127) * 2 ^ i.toNat)) = x + b % 128 * p ∧ 0 ≤ x + b % 128 * p ∧ x + b % 128 * p < p * 128 ∧ x + b % 128 * p < 18446744073709551616 := by
  rw [and127 b hb]
  have hk : kq = 0 ∨ kq = 1 ∨ kq = 2 ∨ kq = 3 ∨ kq = 4 ∨ kq = 5 ∨ kq = 6 ∨ kq = 7 ∨ kq = 8 ∨ kq = 9 := by omega
  obtain ⟨hp, hx0, hx1⟩ := hp
  rcases hk with rfl | rfl | rfl | rfl | rfl | rfl | rfl | rfl | rfl | rfl
  ·have e : i = 63 := by omega
   have ep : p = 9223372036854775808 := by rw [hp]; decide
   clear hp
   subst ep
   subst e
   have hb2 : b % 128 ≤ 127 := by omega
   have := h9 rfl
   exact ⟨digL 63 9223372036854775808 (by decide) (by decide) ⟨hx0, hx1⟩ (by omega) (by omega) (by omega) (by omega), by omega, by omega, by omega⟩
  ·have e : i = 56 := by omega
   have ep : p = 72057594037927936 := by rw [hp]; decide
   clear hp
   subst ep
   subst e
   have hb2 : b % 128 ≤ 127 := by omega
   exact ⟨digL 56 72057594037927936 (by decide) (by decide) ⟨hx0, hx1⟩ (by omega) (by omega) (by omega) (by omega), by omega, by omega, by omega⟩
  ·have e : i = 49 := by omega
   have ep : p = 562949953421312 := by rw [hp]; decide
   clear hp
   subst ep
   subst e
   have hb2 : b % 128 ≤ 127 := by omega
   exact ⟨digL 49 562949953421312 (by decide) (by decide) ⟨hx0, hx1⟩ (by omega) (by omega) (by omega) (by omega), by omega, by omega, by omega⟩
  ·have e : i = 42 := by omega
   have ep : p = 4398046511104 := by rw [hp]; decide
   clear hp
   subst ep
   subst e
   have hb2 : b % 128 ≤ 127 := by omega
   exact ⟨digL 42 4398046511104 (by decide) (by decide) ⟨hx0, hx1⟩ (by omega) (by omega) (by omega) (by omega), by omega, by omega, by omega⟩
  ·have e : i = 35 := by omega
   have ep : p = 34359738368 := by rw [hp]; decide
   clear hp
   subst ep
   subst e
   have hb2 : b % 128 ≤ 127 := by omega
   exact ⟨digL 35 34359738368 (by decide) (by decide) ⟨hx0, hx1⟩ (by omega) (by omega) (by omega) (by omega), by omega, by omega, by omega⟩
  ·have e : i = 28 := by omega
   have ep : p = 268435456 := by rw [hp]; decide
   clear hp
   subst ep
   subst e
   have hb2 : b % 128 ≤ 127 := by omega
   exact ⟨digL 28 268435456 (by decide) (by decide) ⟨hx0, hx1⟩ (by omega) (by omega) (by omega) (by omega), by omega, by omega, by omega⟩
  ·have e : i = 21 := by omega
   have ep : p = 2097152 := by rw [hp]; decide
   clear hp
   subst ep
   subst e
   have hb2 : b % 128 ≤ 127 := by omega
   exact ⟨digL 21 2097152 (by decide) (by decide) ⟨hx0, hx1⟩ (by omega) (by omega) (by omega) (by omega), by omega, by omega, by omega⟩
  ·have e : i = 14 := by omega
   have ep : p = 16384 := by rw [hp]; decide
   clear hp
   subst ep
   subst e
   have hb2 : b % 128 ≤ 127 := by omega
   exact ⟨digL 14 16384 (by decide) (by decide) ⟨hx0, hx1⟩ (by omega) (by omega) (by omega) (by omega), by omega, by omega, by omega⟩
  ·have e : i = 7 := by omega
   have ep : p = 128 := by rw [hp]; decide
   clear hp
   subst ep
   subst e
   have hb2 : b % 128 ≤ 127 := by omega
   exact ⟨digL 7 128 (by decide) (by decide) ⟨hx0, hx1⟩ (by omega) (by omega) (by omega) (by omega), by omega, by omega, by omega⟩
  ·have e : i = 0 := by omega
   have ep : p = 1 := by rw [hp]; decide
   clear hp
   subst ep
   subst e
   have hb2 : b % 128 ≤ 127 := by omega
   exact ⟨digL 0 1 (by decide) (by decide) ⟨hx0, hx1⟩ (by omega) (by omega) (by omega) (by omega), by omega, by omega, by omega⟩
/-- A word as a number. -/
def uz (x : Int) : Int := if x % 2 = 0 then x / 2 else -(x / 2) - 1
theorem unzig {x : Int} (h0 : 0 ≤ x) (h1 : x < 18446744073709551616) : bits BinOp.xor IntKind.i64 (x / 2) (-(x % 2)) = uz x := by
  show IntKind.i64.wrap ((BitVec.ofInt 64 (x / 2) ^^^ BitVec.ofInt 64 (-(x % 2))).toNat : Int) = _
  obtain ⟨a, ha⟩ := Int.eq_ofNat_of_zero_le (show 0 ≤ x / 2 by omega)
  have hal : a < 18446744073709551616 := by omega
  rw [BitVec.toNat_xor, ha, ofInt_u64 a hal, IntKind.wrap_i64]
  unfold uz
  by_cases hx : x % 2 = 0
  · rw [if_pos hx, hx, show (BitVec.ofInt 64 (-0)).toNat = 0 from by decide, Nat.xor_zero]
    omega
  · rw [if_neg hx, show x % 2 = 1 by omega, show (BitVec.ofInt 64 (-1)).toNat = 18446744073709551615 from by decide, xor_ones a hal]
    omega
theorem uz_zz {n : Int} : uz (zz n) = n := by
  unfold uz zz
  split <;> split <;> omega
theorem uz_range {x : Int} (h0 : 0 ≤ x) (h1 : x < 18446744073709551616) : -9223372036854775808 ≤ uz x ∧ uz x ≤ 9223372036854775807 := by
  unfold uz
  split <;> omega
end Go.Proofs.Ytkohdojiockejaa.Q.Pk
