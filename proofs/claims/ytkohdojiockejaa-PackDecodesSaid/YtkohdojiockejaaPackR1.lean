/- The reader: a word. -/
import Derived.Test.YtkohdojiockejaaQxfPlainBytes
import Derived.Test.YtkohdojiockejaaQxfLaw45Many
import Derived.Test.YtkohdojiockejaaQxfRef45Encode
import Derived.Test.YtkohdojiockejaaPackBits
import Derived.Test.YtkohdojiockejaaPackW0
import Derived.Test.YtkohdojiockejaaPackR0
namespace Go.Proofs.Ytkohdojiockejaa.Q
open Go.RowKit Go.Proofs.YtkohdojiockejaaW.PrintWords Go.Proofs.YtkohdojiockejaaW.PrintLast Go.Proofs.YtkohdojiockejaaW.PrintMore
attribute [local go_sem] max2_int min2_int max_two min_two max_three min_three max_four min_four
set_option linter.unusedVariables false
set_option linter.unusedSimpArgs false
namespace Pk
/-- A word read from bytes: with how many rounds to go, what is read, the next digit's worth. -/
def rdW : Nat → Int → Int → List Int → Option (Int × List Int)
 | 0, _, _, _ => none
 | _ + 1, _, _, [] => none
 | q + 1, x, p, b :: l => if (q = 0 ∧ 1 < b) ∨ (b = 0 ∧ q < 9) then none else if b < 128 then some (x + b % 128 * p, l) else rdW q (x + b % 128 * p) (p * 128) l
theorem rdW_nil (q : Nat) (x p : Int) : rdW (q + 1) x p [] = none := rfl
theorem rdW_bad {q : Nat} {x p b : Int} {l : List Int} (h : (q = 0 ∧ 1 < b) ∨ (b = 0 ∧ q < 9)) : rdW (q + 1) x p (b :: l) = none := if_pos h
theorem rdW_last {q : Nat} {x p b : Int} {l : List Int} (h : ¬ ((q = 0 ∧ 1 < b) ∨ (b = 0 ∧ q < 9))) (h' : b < 128) : rdW (q + 1) x p (b :: l) = some (x + b % 128 * p, l) := (if_neg h).trans (if_pos h')
theorem rdW_more {q : Nat} {x p b : Int} {l : List Int} (h : ¬ ((q = 0 ∧ 1 < b) ∨ (b = 0 ∧ q < 9))) (h' : ¬ b < 128) : rdW (q + 1) x p (b :: l) = rdW q (x + b % 128 * p) (p * 128) l := (if_neg h).trans (if_neg h')
/-- What a reading ends with. -/
def PW (W w : World) (gs : Nat) (mk : Int → Value) (r : Option (Int × List Int)) (e : Ending) (w' : World) : Prop := match r with
 | some (n, l) => e = .returned (mk n) ∧ Sr W w' gs l ∧ Fq gs w w'
 | none => Stops 2 W w e w'
set_option maxHeartbeats 16000000 in
set_option maxRecDepth 100000 in
theorem rword.calls (gs : Nat) (bs : List Int) (W w : World) (h : Sr W w gs bs) :
  Calls Try.prog 34 #[.pointer (some ⟨gs, 0, none⟩)] w (PW W w gs (Value.int .u64) (rdW 10 0 1 bs)) := by
 have HS := aM h
 clear h
 have HF := aM (Fq.refl gs w)
 obtain ⟨r, hr⟩ : ∃ r, rdW 10 0 1 bs = r := ⟨_, rfl⟩
 rw [hr]
 have HR := aM hr
 clear hr
 have hu54 := Try.underlying54
 go_enter Try.func34, Try.ntmps34
 go_wp2
 go_loopg [3, 4] 10 (fun kq v3 v4 w' => ∃ (x p i : Int) (cs : List Int), v3 = .int .u64 x ∧ v4 = .int .i64 i ∧ Aside0 (i = 7 * (10 - (kq : Int)) ∧ kq ≤ 10) ∧ Aside0 (p = 128 ^ (10 - kq) ∧ 0 ≤ x ∧ x < p) ∧ Aside0 (rdW kq x p cs = r) ∧ Aside0 (Sr W w' gs cs) ∧ Aside0 (Fq gs w w') ∧ Aside0 (1 ≤ kq))
 case atStart => exact ⟨0, 1, 0, bs, rfl, rfl, ⟨by omega, by omega⟩, ⟨rfl, by omega, by omega⟩, HR, HS, HF, ⟨by omega⟩⟩
 case round =>
  clear HS HF HR
  obtain ⟨x, p, i, cs, rfl, rfl, HI, HP, HR, HS, HF, HK⟩ := hrel
  cases gk with
  | zero => exact absurd HK.out (by omega)
  | succ kq =>
   cases cs with
   | nil =>
    obtain rfl : r = none := HR.out.symm
    clear HR
    go_wp2_with (first | (go_at_call 42; (with_reducible refine (next_none gs W _ HS.out).mono ?_); rintro e w1 ⟨rfl, h1, h2⟩; exact ⟨rfl, rfl, h1, HF.out.fr.trans h2⟩))
   | cons b cs =>
    have HBB := aM (HS.out.ok b (List.mem_cons_self ..))
    have hc : ((kq = 0) ∧ (1 < b)) ∨ ((kq = 0) ∧ (b = 0)) ∨ ((kq = 0) ∧ (b = 1)) ∨ ((0 < kq ∧ kq < 9) ∧ (b = 0)) ∨ ((kq = 9) ∧ (b = 0)) ∨ ((0 < kq ∧ kq ≤ 9) ∧ (0 < b ∧ b < 128)) ∨ ((0 < kq ∧ kq ≤ 9) ∧ (128 ≤ b)) := by have := HBB.out; have := HI.out; omega
    rcases hc with hc | hc | hc | hc | hc | hc | hc
    ·skip
     have ea0 : decide (i = 63) = true := by first | exact decide_eq_true (by have := HI.out; omega) | (simp; have := HI.out; omega)
     have ea1 : (i == 63) = true := by first | exact decide_eq_true (by have := HI.out; omega) | (simp; have := HI.out; omega)
     have eb0 : decide (b > 1) = true := by first | exact decide_eq_true (by have := HI.out; omega) | (simp; have := HI.out; omega)
     have eb1 : decide (1 < b) = true := by first | exact decide_eq_true (by have := HI.out; omega) | (simp; have := HI.out; omega)
     have hi0 : 0 ≤ i := by have := HI.out; omega
     have hi1 : ¬ (i < 0) := by omega
     have hi3 : min i.toNat 64 = i.toNat := by have := HI.out; omega
     have hi2 : decide (i < 0) = false := decide_eq_false hi1
     obtain rfl : r = none := by rw [← HR.out]; exact rdW_bad (by omega)
     clear HR hc
     go_wp2_with (first | (go_at_call 42; (with_reducible refine (next_some gs b cs W _ HS.out).mono ?_); rintro e w1 ⟨rfl, h1, h2⟩; replace HS := aM h1; replace HF := aM (HF.out.trans h2); clear h1 h2))
     exact ⟨rfl, rfl, HS.out.bel, HF.out.fr⟩
    ·skip
     have ea0 : decide (i = 63) = true := by first | exact decide_eq_true (by have := HI.out; omega) | (simp; have := HI.out; omega)
     have ea1 : (i == 63) = true := by first | exact decide_eq_true (by have := HI.out; omega) | (simp; have := HI.out; omega)
     have eb0 : decide (b > 1) = false := by first | exact decide_eq_false (by have := HI.out; omega) | (simp; have := HI.out; omega)
     have eb1 : decide (1 < b) = false := by first | exact decide_eq_false (by have := HI.out; omega) | (simp; have := HI.out; omega)
     have ec0 : decide (b = 0) = true := by first | exact decide_eq_true (by have := HI.out; omega) | (simp; have := HI.out; omega)
     have ec1 : (b == 0) = true := by first | exact decide_eq_true (by have := HI.out; omega) | (simp; have := HI.out; omega)
     have ed0 : decide (i > 0) = true := by first | exact decide_eq_true (by have := HI.out; omega) | (simp; have := HI.out; omega)
     have ed1 : decide (0 < i) = true := by first | exact decide_eq_true (by have := HI.out; omega) | (simp; have := HI.out; omega)
     have hi0 : 0 ≤ i := by have := HI.out; omega
     have hi1 : ¬ (i < 0) := by omega
     have hi3 : min i.toNat 64 = i.toNat := by have := HI.out; omega
     have hi2 : decide (i < 0) = false := decide_eq_false hi1
     obtain rfl : r = none := by rw [← HR.out]; exact rdW_bad (by omega)
     clear HR hc
     go_wp2_with (first | (go_at_call 42; (with_reducible refine (next_some gs b cs W _ HS.out).mono ?_); rintro e w1 ⟨rfl, h1, h2⟩; replace HS := aM h1; replace HF := aM (HF.out.trans h2); clear h1 h2))
     exact ⟨rfl, rfl, HS.out.bel, HF.out.fr⟩
    ·skip
     have ea0 : decide (i = 63) = true := by first | exact decide_eq_true (by have := HI.out; omega) | (simp; have := HI.out; omega)
     have ea1 : (i == 63) = true := by first | exact decide_eq_true (by have := HI.out; omega) | (simp; have := HI.out; omega)
     have eb0 : decide (b > 1) = false := by first | exact decide_eq_false (by have := HI.out; omega) | (simp; have := HI.out; omega)
     have eb1 : decide (1 < b) = false := by first | exact decide_eq_false (by have := HI.out; omega) | (simp; have := HI.out; omega)
     have ec0 : decide (b = 0) = false := by first | exact decide_eq_false (by have := HI.out; omega) | (simp; have := HI.out; omega)
     have ec1 : (b == 0) = false := by first | exact decide_eq_false (by have := HI.out; omega) | (simp; have := HI.out; omega)
     have ee0 : decide (b < 128) = true := by first | exact decide_eq_true (by have := HI.out; omega) | (simp; have := HI.out; omega)
     have hi0 : 0 ≤ i := by have := HI.out; omega
     have hi1 : ¬ (i < 0) := by omega
     have hi3 : min i.toNat 64 = i.toNat := by have := HI.out; omega
     have hi2 : decide (i < 0) = false := decide_eq_false hi1
     obtain rfl : r = some (x + b % 128 * p, cs) := by rw [← HR.out]; exact rdW_last (by omega) (by omega)
     have hz := (dig HI.out HP.out HBB.out (by omega)).1
     clear HR hc
     go_wp2_with (first | (go_at_call 42; (with_reducible refine (next_some gs b cs W _ HS.out).mono ?_); rintro e w1 ⟨rfl, h1, h2⟩; replace HS := aM h1; replace HF := aM (HF.out.trans h2); clear h1 h2))
     go_ret
     exact ⟨rfl, HS.out, HF.out⟩
    ·skip
     have ea0 : decide (i = 63) = false := by first | exact decide_eq_false (by have := HI.out; omega) | (simp; have := HI.out; omega)
     have ea1 : (i == 63) = false := by first | exact decide_eq_false (by have := HI.out; omega) | (simp; have := HI.out; omega)
     have ec0 : decide (b = 0) = true := by first | exact decide_eq_true (by have := HI.out; omega) | (simp; have := HI.out; omega)
     have ec1 : (b == 0) = true := by first | exact decide_eq_true (by have := HI.out; omega) | (simp; have := HI.out; omega)
     have ed0 : decide (i > 0) = true := by first | exact decide_eq_true (by have := HI.out; omega) | (simp; have := HI.out; omega)
     have ed1 : decide (0 < i) = true := by first | exact decide_eq_true (by have := HI.out; omega) | (simp; have := HI.out; omega)
     have hi0 : 0 ≤ i := by have := HI.out; omega
     have hi1 : ¬ (i < 0) := by omega
     have hi3 : min i.toNat 64 = i.toNat := by have := HI.out; omega
     have hi2 : decide (i < 0) = false := decide_eq_false hi1
     obtain rfl : r = none := by rw [← HR.out]; exact rdW_bad (by omega)
     clear HR hc
     go_wp2_with (first | (go_at_call 42; (with_reducible refine (next_some gs b cs W _ HS.out).mono ?_); rintro e w1 ⟨rfl, h1, h2⟩; replace HS := aM h1; replace HF := aM (HF.out.trans h2); clear h1 h2))
     exact ⟨rfl, rfl, HS.out.bel, HF.out.fr⟩
    ·skip
     have ea0 : decide (i = 63) = false := by first | exact decide_eq_false (by have := HI.out; omega) | (simp; have := HI.out; omega)
     have ea1 : (i == 63) = false := by first | exact decide_eq_false (by have := HI.out; omega) | (simp; have := HI.out; omega)
     have ec0 : decide (b = 0) = true := by first | exact decide_eq_true (by have := HI.out; omega) | (simp; have := HI.out; omega)
     have ec1 : (b == 0) = true := by first | exact decide_eq_true (by have := HI.out; omega) | (simp; have := HI.out; omega)
     have ed0 : decide (i > 0) = false := by first | exact decide_eq_false (by have := HI.out; omega) | (simp; have := HI.out; omega)
     have ed1 : decide (0 < i) = false := by first | exact decide_eq_false (by have := HI.out; omega) | (simp; have := HI.out; omega)
     have ee0 : decide (b < 128) = true := by first | exact decide_eq_true (by have := HI.out; omega) | (simp; have := HI.out; omega)
     have hi0 : 0 ≤ i := by have := HI.out; omega
     have hi1 : ¬ (i < 0) := by omega
     have hi3 : min i.toNat 64 = i.toNat := by have := HI.out; omega
     have hi2 : decide (i < 0) = false := decide_eq_false hi1
     obtain rfl : r = some (x + b % 128 * p, cs) := by rw [← HR.out]; exact rdW_last (by omega) (by omega)
     have hz := (dig HI.out HP.out HBB.out (by omega)).1
     clear HR hc
     go_wp2_with (first | (go_at_call 42; (with_reducible refine (next_some gs b cs W _ HS.out).mono ?_); rintro e w1 ⟨rfl, h1, h2⟩; replace HS := aM h1; replace HF := aM (HF.out.trans h2); clear h1 h2))
     go_ret
     exact ⟨rfl, HS.out, HF.out⟩
    ·skip
     have ea0 : decide (i = 63) = false := by first | exact decide_eq_false (by have := HI.out; omega) | (simp; have := HI.out; omega)
     have ea1 : (i == 63) = false := by first | exact decide_eq_false (by have := HI.out; omega) | (simp; have := HI.out; omega)
     have ec0 : decide (b = 0) = false := by first | exact decide_eq_false (by have := HI.out; omega) | (simp; have := HI.out; omega)
     have ec1 : (b == 0) = false := by first | exact decide_eq_false (by have := HI.out; omega) | (simp; have := HI.out; omega)
     have ee0 : decide (b < 128) = true := by first | exact decide_eq_true (by have := HI.out; omega) | (simp; have := HI.out; omega)
     have hi0 : 0 ≤ i := by have := HI.out; omega
     have hi1 : ¬ (i < 0) := by omega
     have hi3 : min i.toNat 64 = i.toNat := by have := HI.out; omega
     have hi2 : decide (i < 0) = false := decide_eq_false hi1
     obtain rfl : r = some (x + b % 128 * p, cs) := by rw [← HR.out]; exact rdW_last (by omega) (by omega)
     have hz := (dig HI.out HP.out HBB.out (by omega)).1
     clear HR hc
     go_wp2_with (first | (go_at_call 42; (with_reducible refine (next_some gs b cs W _ HS.out).mono ?_); rintro e w1 ⟨rfl, h1, h2⟩; replace HS := aM h1; replace HF := aM (HF.out.trans h2); clear h1 h2))
     go_ret
     exact ⟨rfl, HS.out, HF.out⟩
    ·skip
     have ea0 : decide (i = 63) = false := by first | exact decide_eq_false (by have := HI.out; omega) | (simp; have := HI.out; omega)
     have ea1 : (i == 63) = false := by first | exact decide_eq_false (by have := HI.out; omega) | (simp; have := HI.out; omega)
     have ec0 : decide (b = 0) = false := by first | exact decide_eq_false (by have := HI.out; omega) | (simp; have := HI.out; omega)
     have ec1 : (b == 0) = false := by first | exact decide_eq_false (by have := HI.out; omega) | (simp; have := HI.out; omega)
     have ee0 : decide (b < 128) = false := by first | exact decide_eq_false (by have := HI.out; omega) | (simp; have := HI.out; omega)
     have hi0 : 0 ≤ i := by have := HI.out; omega
     have hi1 : ¬ (i < 0) := by omega
     have hi3 : min i.toNat 64 = i.toNat := by have := HI.out; omega
     have hi2 : decide (i < 0) = false := decide_eq_false hi1
     have HR2 := aM (show rdW kq (x + b % 128 * p) (p * 128) cs = r by rw [← HR.out]; exact (rdW_more (by omega) (by omega)).symm)
     obtain ⟨hz, hz0, hz1, hz2⟩ := dig HI.out HP.out HBB.out (by omega)
     have HZ := aM (And.intro hz0 hz1)
     have hw : wrap64 (i + 7) = i + 7 := w64o (by have := HI.out; omega) (by have := HI.out; omega)
     have HQ := aM hc
     clear HR hc hz0 hz1 hz2
     go_wp2_with (first | (go_at_call 42; (with_reducible refine (next_some gs b cs W _ HS.out).mono ?_); rintro e w1 ⟨rfl, h1, h2⟩; replace HS := aM h1; replace HF := aM (HF.out.trans h2); clear h1 h2))
     go_roundg kq
     case measure => omega
     case rel => exact ⟨_, p * 128, i + 7, cs, rfl, by first | rfl | rw [hw], ⟨by have := HI.out; omega, by have := HI.out; omega⟩, ⟨by have h1 := HP.out.1; have h2 := HQ.out.1; rw [h1, show 10 - kq = (10 - (kq + 1)) + 1 by omega, Int.pow_succ], HZ.out.1, HZ.out.2⟩, HR2, HS, HF, ⟨HQ.out.1.1⟩⟩
/-- A number read. -/
def rdN (bs : List Int) : Option (Int × List Int) := (rdW 10 0 1 bs).map fun z => (uz z.1, z.2)
theorem rdW_range : ∀ (q : Nat) (x p : Int) (bs : List Int), q ≤ 10 → p = 128 ^ (10 - q) → 0 ≤ x → x < p → (∀ b ∈ bs, 0 ≤ b ∧ b < 256) → ∀ z, rdW q x p bs = some z → 0 ≤ z.1 ∧ z.1 < 18446744073709551616
  | 0, _, _, _, _, _, _, _, _, _, h => by cases h
  | _ + 1, _, _, [], _, _, _, _, _, _, h => by cases h
  | q + 1, x, p, b :: l, hq, hp, h0, h1, hb, z, h => by
    have hb' := hb b (List.mem_cons_self ..)
    unfold rdW at h
    by_cases hc : (q = 0 ∧ 1 < b) ∨ (b = 0 ∧ q < 9)
    · rw [if_pos hc] at h; cases h
    · rw [if_neg hc] at h
      have hd := dig (x := x) (b := b) (p := p) (i := 7 * (10 - ((q + 1 : Nat) : Int))) (kq := q) ⟨rfl, hq⟩ ⟨hp, h0, h1⟩ hb' (by omega)
      by_cases h8 : b < 128
      · rw [if_pos h8] at h
        cases h
        exact ⟨hd.2.1, hd.2.2.2⟩
      · rw [if_neg h8] at h
        exact rdW_range q _ _ l (by omega) (by rw [hp, show 10 - q = (10 - (q + 1)) + 1 by omega, Int.pow_succ]) hd.2.1 hd.2.2.1 (fun y hy => hb y (List.mem_cons_of_mem _ hy)) z h
theorem wz (x : Int) (h0 : 0 ≤ x) (h1 : x < 18446744073709551616) : bits .and .u64 x 1 = x % 2 := by
  rw [u64_and x 1 h0 h1 (by omega) (by omega)]
  rw [show (1 : Int).toNat = 1 from rfl, nat_mask1]
  omega
set_option maxHeartbeats 16000000 in
set_option maxRecDepth 100000 in
theorem rnumber.calls (gs : Nat) (bs : List Int) (W w : World) (h : Sr W w gs bs) :
  Calls Try.prog 31 #[.pointer (some ⟨gs, 0, none⟩)] w (PW W w gs (Value.int .i64) (rdN bs)) := by
 have HS := aM h
 have HB := aM h.ok
 clear h
 cases hr : rdW 10 0 1 bs with
 | none =>
  have hn : rdN bs = none := by unfold rdN; rw [hr]; rfl
  rw [hn]
  have hc := rword.calls gs bs W w HS.out
  rw [hr] at hc
  have HC := aM hc
  clear hc hr hn
  go_enter Try.func31, Try.ntmps31
  go_wp2_with (first | (go_at_call 34; refine HC.out.mono ?_; rintro e w1 ⟨rfl, h1, h2⟩; exact ⟨rfl, rfl, h1, h2⟩))
 | some z =>
  obtain ⟨x, l⟩ := z
  have hn : rdN bs = some (uz x, l) := by unfold rdN; rw [hr]; rfl
  rw [hn]
  obtain ⟨hx0, hx1⟩ := rdW_range 10 0 1 bs (by omega) rfl (by omega) (by omega) HB.out _ hr
  have hc := rword.calls gs bs W w HS.out
  rw [hr] at hc
  have HC := aM hc
  have hw := wz x hx0 hx1
  have hz := unzig hx0 hx1
  clear hc hr hn
  go_enter Try.func31, Try.ntmps31
  go_wp2_with (first | (go_at_call 34; refine HC.out.mono ?_; rintro e w1 ⟨rfl, h1, h2⟩; have HS1 := aM h1; have HF1 := aM h2; clear h1 h2))
  go_ret
  exact ⟨rfl, HS1.out, HF1.out⟩
/-- A length read: what is too much. -/
def PM (W w : World) (gs : Nat) (most : Int) (r : Option (Int × List Int)) (e : Ending) (w' : World) : Prop := match r with
 | some (n, l) => if n < 0 then Stops 2 W w e w' else if most < n then Stops 3 W w e w' else e = .returned (.int .i64 n) ∧ Sr W w' gs l ∧ Fq gs w w'
 | none => Stops 2 W w e w'
set_option maxHeartbeats 16000000 in
set_option maxRecDepth 100000 in
theorem many.calls (gs : Nat) (most : Int) (bs : List Int) (W w : World) (h : Sr W w gs bs) :
  Calls Try.prog 20 #[.pointer (some ⟨gs, 0, none⟩), .int .i64 most] w (PM W w gs most (rdN bs)) := by
 have HS := aM h
 clear h
 have hc := rnumber.calls gs bs W w HS.out
 cases hr : rdN bs with
 | none =>
  rw [hr] at hc
  have HC := aM hc
  clear hc hr
  go_enter Try.func20, Try.ntmps20
  go_wp2_with (first | (go_at_call 31; refine HC.out.mono ?_; rintro e w1 ⟨rfl, h1, h2⟩; exact ⟨rfl, rfl, h1, h2⟩))
 | some z =>
  obtain ⟨n, l⟩ := z
  rw [hr] at hc
  have HC := aM hc
  clear hc hr
  have hu54 := Try.underlying54
  by_cases hn : n < 0
  ·have d1 : decide (n < 0) = true := decide_eq_true hn
   have e0 : PM W w gs most (some (n, l)) = Stops 2 W w := by funext e w'; exact if_pos hn
   rw [e0]
   clear hn e0
   go_enter Try.func20, Try.ntmps20
   go_wp2_with (first | (go_at_call 31; refine HC.out.mono ?_; rintro e w1 ⟨rfl, h1, h2⟩; have HS1 := aM h1; have HF1 := aM h2; clear h1 h2))
   exact ⟨rfl, rfl, HS1.out.bel, HF1.out.fr⟩
  ·have d1 : decide (n < 0) = false := decide_eq_false hn
   by_cases hm : most < n
   ·have d2 : decide (most < n) = true := decide_eq_true hm
    have d3 : decide (n > most) = true := decide_eq_true hm
    have e0 : PM W w gs most (some (n, l)) = Stops 3 W w := by funext e w'; exact (if_neg hn).trans (if_pos hm)
    rw [e0]
    clear hn hm e0
    go_enter Try.func20, Try.ntmps20
    go_wp2_with (first | (go_at_call 31; refine HC.out.mono ?_; rintro e w1 ⟨rfl, h1, h2⟩; have HS1 := aM h1; have HF1 := aM h2; clear h1 h2))
    exact ⟨rfl, rfl, HS1.out.bel, HF1.out.fr⟩
   ·have d2 : decide (most < n) = false := decide_eq_false hm
    have d3 : decide (n > most) = false := decide_eq_false hm
    have e0 : PM W w gs most (some (n, l)) = fun e w' => e = .returned (.int .i64 n) ∧ Sr W w' gs l ∧ Fq gs w w' := by funext e w'; exact (if_neg hn).trans (if_neg hm)
    rw [e0]
    clear hn hm e0
    go_enter Try.func20, Try.ntmps20
    go_wp2_with (first | (go_at_call 31; refine HC.out.mono ?_; rintro e w1 ⟨rfl, h1, h2⟩; have HS1 := aM h1; have HF1 := aM h2; clear h1 h2))
    go_ret
    exact ⟨rfl, HS1.out, HF1.out⟩
end Pk
end Go.Proofs.Ytkohdojiockejaa.Q
