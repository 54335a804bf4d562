/- The reference's reader: a word, a number. -/
import Derived.Test.YtkohdojiockejaaQxfPlainBytes
import Derived.Test.YtkohdojiockejaaQxfLaw45Many
import Derived.Test.YtkohdojiockejaaQxfRef45Encode
import Derived.Test.YtkohdojiockejaaPackBits
import Derived.Test.YtkohdojiockejaaPackW0
import Derived.Test.YtkohdojiockejaaPackR0
import Derived.Test.YtkohdojiockejaaPackR1
import Derived.Test.YtkohdojiockejaaPackR4
namespace Go.Proofs.Ytkohdojiockejaa.Q
open Go.RowKit Go.Proofs.YtkohdojiockejaaW.PrintWords Go.Proofs.YtkohdojiockejaaW.PrintLast Go.Proofs.YtkohdojiockejaaW.PrintMore
attribute [local go_sem] max2_int min2_int max_two min_two max_three min_three max_four min_four
set_option linter.unusedVariables false
set_option linter.unusedSimpArgs false
namespace Pk
/-- The reader's state: what is left, or its error. -/
inductive RS where
  | ok (l : List Int)
  | bad (k : Int)
/-- Bytes lie in the memory that was there. -/
def Bw (W : World) (A : Option Addr) (bs : List Int) : Prop := ∀ (j : Nat) (x : Int), bs[j]? = some x → ∃ ad, A = some ad ∧ ad.spot = none ∧ ad.block < W.heap.size ∧ W.cell? ⟨ad.block, ad.off + j, none⟩ = some (.int .u8 x)
theorem cell_spot {w : World} {a : Addr} {v : Value} (h : w.cell? a = some v) : a.spot = none := by
  unfold World.cell? at h
  split at h
  · split at h
    · cases h
    · rename_i h1
      cases hs : a.spot with
      | none => rfl
      | some x => rw [hs] at h1; exact absurd rfl h1
  · cases h
theorem Bw_of_C {w : World} {A : Option Addr} {bs : List Int} (h : Kd.C (Kd.int .u8) w A bs.length bs) : Bw w A bs := by
  intro j x hj
  have hjl : j < bs.length := (List.getElem?_eq_some_iff.mp hj).1
  obtain ⟨ad, rfl, h0⟩ := Kd.at_int h (0 : Int) (by omega) (by omega)
  have e0 : ad.add (0 : Int).toNat = ad := rfl
  rw [e0] at h0
  have hs := cell_spot h0
  obtain ⟨ad', e, hx⟩ := Kd.at_int h (j : Int) (by omega) (by omega)
  cases e
  have e1 : rd bs (j : Int) = x := by simp [rd, hj]
  rw [e1, Int.toNat_natCast] at hx
  have e2 : ad.add j = ⟨ad.block, ad.off + j, none⟩ := by
    unfold Addr.add
    split
    · rename_i hj0
      subst hj0
      cases ad
      cases hs
      rfl
    · rfl
  rw [e2] at hx
  exact ⟨ad, rfl, hs, World.block_lt_of_cell? w _ h0, hx⟩
structure Rr (W w : World) (gr : Nat) (E : Int) (bs : List Int) : Prop where
  ex : ∃ A c, w.heap[gr]? = some (.cells #[.slice A bs.length c, .int .i64 E] 63 (0, 0)) ∧ bs.length ≤ c ∧ Bw W A bs
  ge : W.heap.size ≤ gr
  bel : Below W.heap.size W w
  ok : ∀ x ∈ bs, 0 ≤ x ∧ x < 256
theorem Rr.fr {W w w' : World} {gr : Nat} {E : Int} {bs : List Int} {Q : List Nat} (h : Rr W w gr E bs) (hf : Fr Q w w') (hq : 5 ∉ Q) (hq' : 63 ∉ Q) (hb : Below W.heap.size W w') : Rr W w' gr E bs := by
  obtain ⟨⟨A, c, h1, h2, h3⟩, h4, _, h6⟩ := h
  exact ⟨⟨A, c, hf.blk h1 hq', h2, h3⟩, h4, hb, h6⟩
def Rst (W w : World) (gr : Nat) : RS → Prop
  | .ok l => Rr W w gr 0 l
  | .bad k => k ≠ 0 ∧ ∃ l, Rr W w gr k l
theorem Rst.fr {W w w' : World} {gr : Nat} {s : RS} {Q : List Nat} (h : Rst W w gr s) (hf : Fr Q w w') (hq : 5 ∉ Q) (hq' : 63 ∉ Q) (hb : Below W.heap.size W w') : Rst W w' gr s := by
  cases s with
  | ok l => exact Rr.fr h hf hq hq' hb
  | bad k => exact ⟨h.1, h.2.imp fun l hl => Rr.fr hl hf hq hq' hb⟩
theorem Rst.bel {W w : World} {gr : Nat} {s : RS} (h : Rst W w gr s) : Below W.heap.size W w := by
  cases s with
  | ok l => exact Rr.bel h
  | bad k => obtain ⟨_, l, hl⟩ := h; exact hl.bel
theorem Rst.ge {W w : World} {gr : Nat} {s : RS} (h : Rst W w gr s) : W.heap.size ≤ gr := by
  cases s with
  | ok l => exact Rr.ge h
  | bad k => obtain ⟨_, l, hl⟩ := h; exact hl.ge
theorem blk2' {w : World} {g t : Nat} {a b : Value} (h : w.heap[g]? = some (.cells #[a, b] t (0, 0))) : w.cell? ⟨g, 0, none⟩ = some a ∧ w.frozen? ⟨g, 0, none⟩ = false ∧ w.cell? ⟨g, 1, none⟩ = some b ∧ w.frozen? ⟨g, 1, none⟩ = false := ⟨(blk_cell h 0).trans rfl, blk_frozen h 0, (blk_cell h 1).trans rfl, blk_frozen h 1⟩
theorem Rr.setE {W w : World} {gr : Nat} {E : Int} {bs : List Int} (h : Rr W w gr E bs) (k : Int) : Rr W (w.setCell ⟨gr, 1, none⟩ (.int .i64 k)) gr k bs ∧ Fr [63] w (w.setCell ⟨gr, 1, none⟩ (.int .i64 k)) := by
  obtain ⟨⟨A, c, h1, h2, h3⟩, h4, h5, h6⟩ := h
  have hf : Fr [63] w (w.setCell ⟨gr, 1, none⟩ (.int .i64 k)) := Fr.set (Fr.refl [63] w) h1 (by simp)
  exact ⟨⟨⟨A, c, blk_put h1 1 _ rfl, h2, h3⟩, h4, below_set h5 h4, h6⟩, hf⟩
theorem Rr.cons {W w : World} {gr : Nat} {E x : Int} {bs : List Int} (h : Rr W w gr E (x :: bs)) : ∃ ad c, (⟨ad.block, ad.off, none⟩ : Addr) = ad ∧ w.heap[gr]? = some (.cells #[.slice (some ad) (bs.length + 1) c, .int .i64 E] 63 (0, 0)) ∧ w.cell? ad = some (.int .u8 x) ∧ bs.length + 1 ≤ c ∧ (0 ≤ x ∧ x < 256) ∧
    ∀ A', A' = (if c = 1 then some ad else some ⟨ad.block, ad.off + 1, none⟩) → Rr W (w.setCell ⟨gr, 0, none⟩ (.slice A' bs.length (c - 1))) gr E bs ∧ Fr [63] w (w.setCell ⟨gr, 0, none⟩ (.slice A' bs.length (c - 1))) := by
  obtain ⟨⟨A, c, h1, h2, h3⟩, h4, h5, h6⟩ := h
  obtain ⟨ad, rfl, hs, hk, hx0⟩ := h3 0 x rfl
  rw [Nat.add_zero] at hx0
  have hx := (h5.cell (World.block_lt_of_cell? W _ hx0)).trans hx0
  have had : (⟨ad.block, ad.off, none⟩ : Addr) = ad := by cases ad; cases hs; rfl
  rw [had] at hx
  rw [List.length_cons] at h1 h2
  refine ⟨ad, c, had, h1, hx, h2, h6 x (List.mem_cons_self ..), fun A' hA => ?_⟩
  subst hA
  have hf : Fr [63] w (w.setCell ⟨gr, 0, none⟩ (.slice (if c = 1 then some ad else some ⟨ad.block, ad.off + 1, none⟩) bs.length (c - 1))) := Fr.set (Fr.refl [63] w) h1 (by simp)
  refine ⟨⟨⟨_, _, blk_put h1 0 _ rfl, by omega, ?_⟩, h4, below_set h5 h4, fun y hy => h6 y (List.mem_cons_of_mem _ hy)⟩, hf⟩
  intro j y hj
  have hl : j < bs.length := by
    by_cases hl : j < bs.length
    · exact hl
    · rw [List.getElem?_eq_none (by omega)] at hj; cases hj
  rw [if_neg (by omega)]
  obtain ⟨ad', e, hs, hcs, hx'⟩ := h3 (j + 1) y (by rw [List.getElem?_cons_succ]; exact hj)
  cases e
  exact ⟨_, rfl, rfl, hk, by rw [show ad.off + 1 + j = ad.off + (j + 1) by omega]; exact hx'⟩
/-- A word read. -/
def ws : RS → Int × RS
  | .ok bs => match rw_ bs with
    | .ok x l => (x, .ok l)
    | .bad k => (0, .bad k)
  | .bad k => (0, .bad k)
theorem dag {x b p i : Int} {kq : Nat} (hi : i = 10 - ((kq + 1 : Nat) : Int) ∧ kq + 1 ≤ 10) (hp : p = 128 ^ (10 - (kq + 1)) ∧ 0 ≤ x ∧ x < p) (hb : 0 ≤ b ∧ b < 256) (h9 : kq = 0 → b ≤ 1) : IntKind.u64.wrap (x + IntKind.u64.wrap (IntKind.u64.wrap (Int.tmod b 128) * 2 ^ (7 * i).toNat)) = x + b % 128 * p ∧ 0 ≤ x + b % 128 * p ∧ x + b % 128 * p < p * 128 ∧ x + b % 128 * p < 18446744073709551616 := by
  rw [Int.tmod_eq_emod_of_nonneg hb.1]
  have hk : kq = 0 ∨ kq = 1 ∨ kq = 2 ∨ kq = 3 ∨ kq = 4 ∨ kq = 5 ∨ kq = 6 ∨ kq = 7 ∨ kq = 8 ∨ kq = 9 := by omega
  obtain ⟨hp, hx0, hx1⟩ := hp
  rw [u64w, u64w, u64w]
  rcases hk with rfl | rfl | rfl | rfl | rfl | rfl | rfl | rfl | rfl | rfl
  ·have e : (7 * i).toNat = 63 := by omega
   have ep : p = 9223372036854775808 := by rw [hp]; decide
   have e2 : (2 : Int) ^ 63 = 9223372036854775808 := by decide
   rw [e, e2, ep]
   have h9' := h9 rfl
   omega
  ·have e : (7 * i).toNat = 56 := by omega
   have ep : p = 72057594037927936 := by rw [hp]; decide
   have e2 : (2 : Int) ^ 56 = 72057594037927936 := by decide
   rw [e, e2, ep]
   skip
   omega
  ·have e : (7 * i).toNat = 49 := by omega
   have ep : p = 562949953421312 := by rw [hp]; decide
   have e2 : (2 : Int) ^ 49 = 562949953421312 := by decide
   rw [e, e2, ep]
   skip
   omega
  ·have e : (7 * i).toNat = 42 := by omega
   have ep : p = 4398046511104 := by rw [hp]; decide
   have e2 : (2 : Int) ^ 42 = 4398046511104 := by decide
   rw [e, e2, ep]
   skip
   omega
  ·have e : (7 * i).toNat = 35 := by omega
   have ep : p = 34359738368 := by rw [hp]; decide
   have e2 : (2 : Int) ^ 35 = 34359738368 := by decide
   rw [e, e2, ep]
   skip
   omega
  ·have e : (7 * i).toNat = 28 := by omega
   have ep : p = 268435456 := by rw [hp]; decide
   have e2 : (2 : Int) ^ 28 = 268435456 := by decide
   rw [e, e2, ep]
   skip
   omega
  ·have e : (7 * i).toNat = 21 := by omega
   have ep : p = 2097152 := by rw [hp]; decide
   have e2 : (2 : Int) ^ 21 = 2097152 := by decide
   rw [e, e2, ep]
   skip
   omega
  ·have e : (7 * i).toNat = 14 := by omega
   have ep : p = 16384 := by rw [hp]; decide
   have e2 : (2 : Int) ^ 14 = 16384 := by decide
   rw [e, e2, ep]
   skip
   omega
  ·have e : (7 * i).toNat = 7 := by omega
   have ep : p = 128 := by rw [hp]; decide
   have e2 : (2 : Int) ^ 7 = 128 := by decide
   rw [e, e2, ep]
   skip
   omega
  ·have e : (7 * i).toNat = 0 := by omega
   have ep : p = 1 := by rw [hp]; decide
   have e2 : (2 : Int) ^ 0 = 1 := by decide
   rw [e, e2, ep]
   skip
   omega
set_option maxHeartbeats 16000000 in
set_option maxRecDepth 100000 in
theorem qword.calls (gr : Nat) (s : RS) (W w : World) (h : Rst W w gr s) : Calls Try.prog 38 #[.pointer (some ⟨gr, 0, none⟩)] w fun e w' => e = .returned (.int .u64 (ws s).1) ∧ Rst W w' gr (ws s).2 ∧ Fr [63] w w' := by
 have hu63 := Try.underlying63
 have HF := aM (Fr.refl [63] w)
 cases s with
 | bad k =>
  obtain ⟨hk, l, hl⟩ := h
  have HS := aM hl
  have HK := aM hk
  obtain ⟨A, c, h1, _, _⟩ := hl.ex
  have hc := blk2' h1
  have y1 : decide (k = 0) = false := decide_eq_false hk
  have y2 : (k == 0) = false := by simpa using hk
  clear h1 hl hk
  show Calls _ _ _ _ fun e w' => e = .returned (.int .u64 0) ∧ Rst W w' gr (.bad k) ∧ Fr [63] w w'
  go_enter Try.func38, Try.ntmps38
  go_wp2
  go_loopg [] 1 (fun kq w' => w' = w)
  case atStart => exact rfl
  case round =>
   obtain rfl := hrel
   go_wp2
   go_ret
   exact ⟨rfl, ⟨HK.out, _, HS.out⟩, HF.out⟩
 | ok bs =>
  have HS := aM (h : Rr W w gr 0 bs)
  clear h
  unfold ws rw_
  obtain ⟨r, hr⟩ : ∃ r, rdW 10 0 1 bs = r := ⟨_, rfl⟩
  dsimp only
  rw [hr]
  have HR := aM hr
  clear hr
  go_enter Try.func38, Try.ntmps38
  go_wp2
  go_loopg [3, 4] 10 (fun kq v3 v4 w' => ∃ (x p i : Int) (cs : List Int), v3 = .int .u64 x ∧ v4 = .int .i64 i ∧ Aside0 (i = 10 - (kq : Int) ∧ kq ≤ 10) ∧ Aside0 (p = 128 ^ (10 - kq) ∧ 0 ≤ x ∧ x < p) ∧ Aside0 (rdW kq x p cs = r) ∧ Aside0 (Rr W w' gr 0 cs) ∧ Aside0 (Fr [63] w w') ∧ Aside0 (1 ≤ kq))
  case atStart => exact ⟨0, 1, 0, bs, rfl, rfl, ⟨by omega, by omega⟩, ⟨rfl, by omega, by omega⟩, HR, HS, HF, ⟨by omega⟩⟩
  case round =>
   clear HS HF HR
   obtain ⟨x, p, i, cs, rfl, rfl, HI, HP, HR, HS, HF, HK⟩ := hrel
   cases gk with
   | zero => exact absurd HK.out (by omega)
   | succ kq =>
    cases cs with
    | nil =>
     obtain rfl : r = none := HR.out.symm
     clear HR
     obtain ⟨A, c, h1, _, _⟩ := HS.out.ex
     have hc := blk2' h1
     clear h1
     go_wp2
     go_ret
     exact ⟨rfl, ⟨by decide, _, (HS.out.setE 2).1⟩, HF.out.trans (HS.out.setE 2).2⟩
    | cons b cs =>
     obtain ⟨ad, c, had, h1, hx, h2, hbb, hn⟩ := HS.out.cons
     have HBB := aM hbb
     have hc := blk2' h1
     have HN := aM hn
     have H2 := aM h2
     have p1 : (0 : Int) < ((cs.length + 1 : Nat) : Int) := by omega
     have p2 : (0 : Int) < (cs.length : Int) + 1 := by omega
     have d1 : decide (((cs.length + 1 : Nat) : Int) = 0) = false := decide_eq_false (by omega)
     have d2 : decide ((cs.length : Int) + 1 = 0) = false := decide_eq_false (by omega)
     have d3 : ¬ ((cs.length : Int) + 1 = 0) := by omega
     have d4 : (1 : Int) ≤ (cs.length : Int) + 1 := by omega
     have d5 : ((cs.length : Int) + 1 == 0) = false := by simp; omega
     clear h1 h2 hn hbb had
     have hcs : (kq = 0 ∧ 1 < b) ∨ (kq = 0 ∧ b = 0) ∨ (kq = 0 ∧ b = 1) ∨ ((0 < kq ∧ kq < 9) ∧ b = 0) ∨ (kq = 9 ∧ b = 0) ∨ ((0 < kq ∧ kq ≤ 9) ∧ (0 < b ∧ b < 128)) ∨ ((0 < kq ∧ kq ≤ 9) ∧ 128 ≤ b) := by have := HBB.out; have := HI.out; omega
     rcases hcs with hc0 | hc0 | hc0 | hc0 | hc0 | hc0 | hc0
     ·skip
      have ea0 : decide (i = 9) = true := by first | exact decide_eq_true (by have := HI.out; omega) | (simp; have := HI.out; omega)
      have ea1 : (i == 9) = true := by first | exact decide_eq_true (by have := HI.out; omega) | (simp; have := HI.out; omega)
      have eb0 : decide (b > 1) = true := by first | exact decide_eq_true (by have := HI.out; omega) | (simp; have := HI.out; omega)
      have eb1 : decide (1 < b) = true := by first | exact decide_eq_true (by have := HI.out; omega) | (simp; have := HI.out; omega)
      obtain rfl : r = none := by rw [← HR.out]; exact rdW_bad (by omega)
      clear HR hc0
      have hs : IntKind.u64.wrap (wrap64 (7 * i)) = 7 * i := by rw [w64o (by have := HI.out; omega) (by have := HI.out; omega), u64w]; exact Int.emod_eq_of_lt (by have := HI.out; omega) (by have := HI.out; omega)
      have hm : min (7 * i).toNat 64 = (7 * i).toNat := by have := HI.out; omega
      have hm0 : ¬ (7 * i < 0) := by have := HI.out; omega
      by_cases hc1 : c = 1
      ·skip
       obtain ⟨hn1, hn2⟩ := HN.out (some ad) (if_pos hc1).symm
       subst hc1
       have HS2 := aM hn1
       have HF2 := aM (HF.out.trans hn2)
       clear hn1 hn2
       go_wp2
       go_ret
       exact ⟨rfl, ⟨by decide, _, (HS2.out.setE 2).1⟩, HF2.out.trans (HS2.out.setE 2).2⟩
      ·skip
       obtain ⟨hn1, hn2⟩ := HN.out (some ⟨ad.block, ad.off + 1, .none⟩) (if_neg hc1).symm
       have HS2 := aM hn1
       have HF2 := aM (HF.out.trans hn2)
       clear hn1 hn2
       go_wp2
       go_ret
       exact ⟨rfl, ⟨by decide, _, (HS2.out.setE 2).1⟩, HF2.out.trans (HS2.out.setE 2).2⟩
     ·skip
      have ea0 : decide (i = 9) = true := by first | exact decide_eq_true (by have := HI.out; omega) | (simp; have := HI.out; omega)
      have ea1 : (i == 9) = true := by first | exact decide_eq_true (by have := HI.out; omega) | (simp; have := HI.out; omega)
      have eb0 : decide (b > 1) = false := by first | exact decide_eq_false (by have := HI.out; omega) | (simp; have := HI.out; omega)
      have eb1 : decide (1 < b) = false := by first | exact decide_eq_false (by have := HI.out; omega) | (simp; have := HI.out; omega)
      have ec0 : decide (b = 0) = true := by first | exact decide_eq_true (by have := HI.out; omega) | (simp; have := HI.out; omega)
      have ec1 : (b == 0) = true := by first | exact decide_eq_true (by have := HI.out; omega) | (simp; have := HI.out; omega)
      have ed0 : decide (i > 0) = true := by first | exact decide_eq_true (by have := HI.out; omega) | (simp; have := HI.out; omega)
      have ed1 : decide (0 < i) = true := by first | exact decide_eq_true (by have := HI.out; omega) | (simp; have := HI.out; omega)
      obtain rfl : r = none := by rw [← HR.out]; exact rdW_bad (by omega)
      clear HR hc0
      have hs : IntKind.u64.wrap (wrap64 (7 * i)) = 7 * i := by rw [w64o (by have := HI.out; omega) (by have := HI.out; omega), u64w]; exact Int.emod_eq_of_lt (by have := HI.out; omega) (by have := HI.out; omega)
      have hm : min (7 * i).toNat 64 = (7 * i).toNat := by have := HI.out; omega
      have hm0 : ¬ (7 * i < 0) := by have := HI.out; omega
      by_cases hc1 : c = 1
      ·skip
       obtain ⟨hn1, hn2⟩ := HN.out (some ad) (if_pos hc1).symm
       subst hc1
       have HS2 := aM hn1
       have HF2 := aM (HF.out.trans hn2)
       clear hn1 hn2
       go_wp2
       go_ret
       exact ⟨rfl, ⟨by decide, _, (HS2.out.setE 2).1⟩, HF2.out.trans (HS2.out.setE 2).2⟩
      ·skip
       obtain ⟨hn1, hn2⟩ := HN.out (some ⟨ad.block, ad.off + 1, .none⟩) (if_neg hc1).symm
       have HS2 := aM hn1
       have HF2 := aM (HF.out.trans hn2)
       clear hn1 hn2
       go_wp2
       go_ret
       exact ⟨rfl, ⟨by decide, _, (HS2.out.setE 2).1⟩, HF2.out.trans (HS2.out.setE 2).2⟩
     ·skip
      have ea0 : decide (i = 9) = true := by first | exact decide_eq_true (by have := HI.out; omega) | (simp; have := HI.out; omega)
      have ea1 : (i == 9) = true := by first | exact decide_eq_true (by have := HI.out; omega) | (simp; have := HI.out; omega)
      have eb0 : decide (b > 1) = false := by first | exact decide_eq_false (by have := HI.out; omega) | (simp; have := HI.out; omega)
      have eb1 : decide (1 < b) = false := by first | exact decide_eq_false (by have := HI.out; omega) | (simp; have := HI.out; omega)
      have ec0 : decide (b = 0) = false := by first | exact decide_eq_false (by have := HI.out; omega) | (simp; have := HI.out; omega)
      have ec1 : (b == 0) = false := by first | exact decide_eq_false (by have := HI.out; omega) | (simp; have := HI.out; omega)
      have ee0 : decide (b < 128) = true := by first | exact decide_eq_true (by have := HI.out; omega) | (simp; have := HI.out; omega)
      have ed0 : decide (i > 0) = true := by first | exact decide_eq_true (by have := HI.out; omega) | (simp; have := HI.out; omega)
      have ed1 : decide (0 < i) = true := by first | exact decide_eq_true (by have := HI.out; omega) | (simp; have := HI.out; omega)
      obtain rfl : r = some (x + b % 128 * p, cs) := by rw [← HR.out]; exact rdW_last (by omega) (by omega)
      have hz := (dag HI.out HP.out HBB.out (by omega)).1
      clear HR hc0
      have hs : IntKind.u64.wrap (wrap64 (7 * i)) = 7 * i := by rw [w64o (by have := HI.out; omega) (by have := HI.out; omega), u64w]; exact Int.emod_eq_of_lt (by have := HI.out; omega) (by have := HI.out; omega)
      have hm : min (7 * i).toNat 64 = (7 * i).toNat := by have := HI.out; omega
      have hm0 : ¬ (7 * i < 0) := by have := HI.out; omega
      by_cases hc1 : c = 1
      ·skip
       obtain ⟨hn1, hn2⟩ := HN.out (some ad) (if_pos hc1).symm
       subst hc1
       have HS2 := aM hn1
       have HF2 := aM (HF.out.trans hn2)
       clear hn1 hn2
       go_wp2
       go_ret
       exact ⟨rfl, HS2.out, HF2.out⟩
      ·skip
       obtain ⟨hn1, hn2⟩ := HN.out (some ⟨ad.block, ad.off + 1, .none⟩) (if_neg hc1).symm
       have HS2 := aM hn1
       have HF2 := aM (HF.out.trans hn2)
       clear hn1 hn2
       go_wp2
       go_ret
       exact ⟨rfl, HS2.out, HF2.out⟩
     ·skip
      have ea0 : decide (i = 9) = false := by first | exact decide_eq_false (by have := HI.out; omega) | (simp; have := HI.out; omega)
      have ea1 : (i == 9) = false := by first | exact decide_eq_false (by have := HI.out; omega) | (simp; have := HI.out; omega)
      have ec0 : decide (b = 0) = true := by first | exact decide_eq_true (by have := HI.out; omega) | (simp; have := HI.out; omega)
      have ec1 : (b == 0) = true := by first | exact decide_eq_true (by have := HI.out; omega) | (simp; have := HI.out; omega)
      have ed0 : decide (i > 0) = true := by first | exact decide_eq_true (by have := HI.out; omega) | (simp; have := HI.out; omega)
      have ed1 : decide (0 < i) = true := by first | exact decide_eq_true (by have := HI.out; omega) | (simp; have := HI.out; omega)
      obtain rfl : r = none := by rw [← HR.out]; exact rdW_bad (by omega)
      clear HR hc0
      have hs : IntKind.u64.wrap (wrap64 (7 * i)) = 7 * i := by rw [w64o (by have := HI.out; omega) (by have := HI.out; omega), u64w]; exact Int.emod_eq_of_lt (by have := HI.out; omega) (by have := HI.out; omega)
      have hm : min (7 * i).toNat 64 = (7 * i).toNat := by have := HI.out; omega
      have hm0 : ¬ (7 * i < 0) := by have := HI.out; omega
      by_cases hc1 : c = 1
      ·skip
       obtain ⟨hn1, hn2⟩ := HN.out (some ad) (if_pos hc1).symm
       subst hc1
       have HS2 := aM hn1
       have HF2 := aM (HF.out.trans hn2)
       clear hn1 hn2
       go_wp2
       go_ret
       exact ⟨rfl, ⟨by decide, _, (HS2.out.setE 2).1⟩, HF2.out.trans (HS2.out.setE 2).2⟩
      ·skip
       obtain ⟨hn1, hn2⟩ := HN.out (some ⟨ad.block, ad.off + 1, .none⟩) (if_neg hc1).symm
       have HS2 := aM hn1
       have HF2 := aM (HF.out.trans hn2)
       clear hn1 hn2
       go_wp2
       go_ret
       exact ⟨rfl, ⟨by decide, _, (HS2.out.setE 2).1⟩, HF2.out.trans (HS2.out.setE 2).2⟩
     ·skip
      have ea0 : decide (i = 9) = false := by first | exact decide_eq_false (by have := HI.out; omega) | (simp; have := HI.out; omega)
      have ea1 : (i == 9) = false := by first | exact decide_eq_false (by have := HI.out; omega) | (simp; have := HI.out; omega)
      have ec0 : decide (b = 0) = true := by first | exact decide_eq_true (by have := HI.out; omega) | (simp; have := HI.out; omega)
      have ec1 : (b == 0) = true := by first | exact decide_eq_true (by have := HI.out; omega) | (simp; have := HI.out; omega)
      have ee0 : decide (b < 128) = true := by first | exact decide_eq_true (by have := HI.out; omega) | (simp; have := HI.out; omega)
      have ed0 : decide (i > 0) = false := by first | exact decide_eq_false (by have := HI.out; omega) | (simp; have := HI.out; omega)
      have ed1 : decide (0 < i) = false := by first | exact decide_eq_false (by have := HI.out; omega) | (simp; have := HI.out; omega)
      obtain rfl : r = some (x + b % 128 * p, cs) := by rw [← HR.out]; exact rdW_last (by omega) (by omega)
      have hz := (dag HI.out HP.out HBB.out (by omega)).1
      clear HR hc0
      have hs : IntKind.u64.wrap (wrap64 (7 * i)) = 7 * i := by rw [w64o (by have := HI.out; omega) (by have := HI.out; omega), u64w]; exact Int.emod_eq_of_lt (by have := HI.out; omega) (by have := HI.out; omega)
      have hm : min (7 * i).toNat 64 = (7 * i).toNat := by have := HI.out; omega
      have hm0 : ¬ (7 * i < 0) := by have := HI.out; omega
      by_cases hc1 : c = 1
      ·skip
       obtain ⟨hn1, hn2⟩ := HN.out (some ad) (if_pos hc1).symm
       subst hc1
       have HS2 := aM hn1
       have HF2 := aM (HF.out.trans hn2)
       clear hn1 hn2
       go_wp2
       go_ret
       exact ⟨rfl, HS2.out, HF2.out⟩
      ·skip
       obtain ⟨hn1, hn2⟩ := HN.out (some ⟨ad.block, ad.off + 1, .none⟩) (if_neg hc1).symm
       have HS2 := aM hn1
       have HF2 := aM (HF.out.trans hn2)
       clear hn1 hn2
       go_wp2
       go_ret
       exact ⟨rfl, HS2.out, HF2.out⟩
     ·skip
      have ea0 : decide (i = 9) = false := by first | exact decide_eq_false (by have := HI.out; omega) | (simp; have := HI.out; omega)
      have ea1 : (i == 9) = false := by first | exact decide_eq_false (by have := HI.out; omega) | (simp; have := HI.out; omega)
      have ec0 : decide (b = 0) = false := by first | exact decide_eq_false (by have := HI.out; omega) | (simp; have := HI.out; omega)
      have ec1 : (b == 0) = false := by first | exact decide_eq_false (by have := HI.out; omega) | (simp; have := HI.out; omega)
      have ee0 : decide (b < 128) = true := by first | exact decide_eq_true (by have := HI.out; omega) | (simp; have := HI.out; omega)
      have ed : decide (0 < i) = true ∨ decide (0 < i) = false := by cases decide (0 < i) <;> simp
      obtain rfl : r = some (x + b % 128 * p, cs) := by rw [← HR.out]; exact rdW_last (by omega) (by omega)
      have hz := (dag HI.out HP.out HBB.out (by omega)).1
      clear HR hc0
      have hs : IntKind.u64.wrap (wrap64 (7 * i)) = 7 * i := by rw [w64o (by have := HI.out; omega) (by have := HI.out; omega), u64w]; exact Int.emod_eq_of_lt (by have := HI.out; omega) (by have := HI.out; omega)
      have hm : min (7 * i).toNat 64 = (7 * i).toNat := by have := HI.out; omega
      have hm0 : ¬ (7 * i < 0) := by have := HI.out; omega
      by_cases hc1 : c = 1
      ·skip
       obtain ⟨hn1, hn2⟩ := HN.out (some ad) (if_pos hc1).symm
       subst hc1
       have HS2 := aM hn1
       have HF2 := aM (HF.out.trans hn2)
       clear hn1 hn2
       rcases ed with ed | ed <;> skip
       all_goals skip
       all_goals go_wp2
       all_goals go_ret
       all_goals exact ⟨rfl, HS2.out, HF2.out⟩
      ·skip
       obtain ⟨hn1, hn2⟩ := HN.out (some ⟨ad.block, ad.off + 1, .none⟩) (if_neg hc1).symm
       have HS2 := aM hn1
       have HF2 := aM (HF.out.trans hn2)
       clear hn1 hn2
       rcases ed with ed | ed <;> skip
       all_goals skip
       all_goals go_wp2
       all_goals go_ret
       all_goals exact ⟨rfl, HS2.out, HF2.out⟩
     ·skip
      have ea0 : decide (i = 9) = false := by first | exact decide_eq_false (by have := HI.out; omega) | (simp; have := HI.out; omega)
      have ea1 : (i == 9) = false := by first | exact decide_eq_false (by have := HI.out; omega) | (simp; have := HI.out; omega)
      have ec0 : decide (b = 0) = false := by first | exact decide_eq_false (by have := HI.out; omega) | (simp; have := HI.out; omega)
      have ec1 : (b == 0) = false := by first | exact decide_eq_false (by have := HI.out; omega) | (simp; have := HI.out; omega)
      have ee0 : decide (b < 128) = false := by first | exact decide_eq_false (by have := HI.out; omega) | (simp; have := HI.out; omega)
      have ed : decide (0 < i) = true ∨ decide (0 < i) = false := by cases decide (0 < i) <;> simp
      have HR2 := aM (show rdW kq (x + b % 128 * p) (p * 128) cs = r by rw [← HR.out]; exact (rdW_more (by omega) (by omega)).symm)
      obtain ⟨hz, hz0, hz1, hz2⟩ := dag HI.out HP.out HBB.out (by omega)
      have HZ := aM (And.intro hz0 hz1)
      have hw : wrap64 (i + 1) = i + 1 := w64o (by have := HI.out; omega) (by have := HI.out; omega)
      have HQ := aM hc0
      clear hz0 hz1 hz2
      clear HR hc0
      have hs : IntKind.u64.wrap (wrap64 (7 * i)) = 7 * i := by rw [w64o (by have := HI.out; omega) (by have := HI.out; omega), u64w]; exact Int.emod_eq_of_lt (by have := HI.out; omega) (by have := HI.out; omega)
      have hm : min (7 * i).toNat 64 = (7 * i).toNat := by have := HI.out; omega
      have hm0 : ¬ (7 * i < 0) := by have := HI.out; omega
      by_cases hc1 : c = 1
      ·skip
       obtain ⟨hn1, hn2⟩ := HN.out (some ad) (if_pos hc1).symm
       subst hc1
       have HS2 := aM hn1
       have HF2 := aM (HF.out.trans hn2)
       clear hn1 hn2
       rcases ed with ed | ed <;> skip
       all_goals skip
       all_goals go_wp2
       all_goals go_roundg kq
       all_goals first | (with_reducible omega) | exact ⟨_, p * 128, i + 1, cs, rfl, by first | rfl | rw [hw], ⟨by have := HI.out; omega, by have := HI.out; omega⟩, ⟨by have h1 := HP.out.1; have h2 := HQ.out.1; rw [h1, show 10 - kq = (10 - (kq + 1)) + 1 by omega, Int.pow_succ], HZ.out.1, HZ.out.2⟩, HR2, HS2, HF2, ⟨HQ.out.1.1⟩⟩
      ·skip
       obtain ⟨hn1, hn2⟩ := HN.out (some ⟨ad.block, ad.off + 1, .none⟩) (if_neg hc1).symm
       have HS2 := aM hn1
       have HF2 := aM (HF.out.trans hn2)
       clear hn1 hn2
       rcases ed with ed | ed <;> skip
       all_goals skip
       all_goals go_wp2
       all_goals go_roundg kq
       all_goals first | (with_reducible omega) | exact ⟨_, p * 128, i + 1, cs, rfl, by first | rfl | rw [hw], ⟨by have := HI.out; omega, by have := HI.out; omega⟩, ⟨by have h1 := HP.out.1; have h2 := HQ.out.1; rw [h1, show 10 - kq = (10 - (kq + 1)) + 1 by omega, Int.pow_succ], HZ.out.1, HZ.out.2⟩, HR2, HS2, HF2, ⟨HQ.out.1.1⟩⟩
end Pk
end Go.Proofs.Ytkohdojiockejaa.Q
