/- The plain laws of the reference's encoder. -/
import Derived.Test.YtkohdojiockejaaQxfPlainBytes
import Derived.Test.YtkohdojiockejaaQxfLaw45Many
import Derived.Test.YtkohdojiockejaaQxfRef45Encode
import Derived.Test.YtkohdojiockejaaPackBits
import Derived.Test.YtkohdojiockejaaPackW0
import Derived.Test.YtkohdojiockejaaPackW1
import Derived.Test.YtkohdojiockejaaPackW2
import Derived.Test.YtkohdojiockejaaPackW3
namespace Go.Proofs.Ytkohdojiockejaa.Q
open Go.RowKit Go.Proofs.YtkohdojiockejaaW.PrintWords Go.Proofs.YtkohdojiockejaaW.PrintLast Go.Proofs.YtkohdojiockejaaW.PrintMore
set_option linter.unusedVariables false
set_option linter.unusedSimpArgs false
namespace Pk
theorem word_f : ∀ (q k : Nat) (x : Int) (bs : List Int), q < k → 0 ≤ x → x < 18446744073709551616 → x < 128 ^ (q + 1) → bs.length + q < 1000000000000 → gradineref45_Word.l0 k x bs = some (bs ++ eW (q + 1) x)
  | q, 0, x, bs, h, _, _, _, _ => absurd h (by omega)
  | q, k + 1, x, bs, hk, h0, h1, h2, hl => by
    simp only [gradineref45_Word.l0]
    by_cases hx : x ≥ 128
    · rw [if_pos hx, if_pos (by omega), eW_more (by omega)]
      cases q with
      | zero => exact absurd h2 (by omega)
      | succ q =>
        rw [Int.tdiv_eq_ediv_of_nonneg h0, Int.tmod_eq_emod_of_nonneg h0, u64w, u64w, Int.emod_eq_of_lt (a := x / 128) (by omega) (by omega), Int.emod_eq_of_lt (a := x % 128 + 128) (by omega) (by omega), Int.emod_eq_of_lt (a := x % 128 + 128) (by omega) (by omega)]
        rw [word_f q k (x / 128) _ (by omega) (by omega) (by omega) (by rw [Int.pow_succ] at h2; omega) (by rw [List.length_append, List.length_singleton]; omega), List.append_assoc]
        rfl
    · rw [if_neg hx, if_pos (by omega), eW_last (by omega), Int.emod_eq_of_lt (by omega) (by omega)]
theorem number_f (k : Nat) (a : Int) (hk : 10 ≤ k) (h : i64 a) : gradineref45_Number.f k a = some (eN a) := by
  obtain ⟨h0, h1⟩ := h
  have hz := zz_range h0 h1
  have hw : gradineref45_Word.f k (zz a) = some (eN a) := word_f 9 k (zz a) [] (by omega) hz.1 hz.2 (Int.lt_trans hz.2 (by decide)) (by decide)
  unfold gradineref45_Number.f
  by_cases ha : a ≥ 0
  · rw [if_pos ha]
    have e : IntKind.u64.wrap (2 * IntKind.u64.wrap a) = zz a := by
      rw [u64w, u64w, Int.emod_eq_of_lt (a := a) (by omega) (by omega), Int.emod_eq_of_lt (by omega) (by omega)]
      unfold zz
      rw [if_pos (by omega)]
    rw [e, hw]
    rfl
  · rw [if_neg ha]
    have e : IntKind.u64.wrap (IntKind.u64.wrap (2 * IntKind.u64.wrap (wrap64 (-(wrap64 (a + 1))))) + 1) = zz a := by
      rw [w64o (x := a + 1) (by omega) (by omega), w64o (by omega) (by omega), u64w, u64w, u64w, Int.emod_eq_of_lt (a := -(a + 1)) (by omega) (by omega), Int.emod_eq_of_lt (a := 2 * -(a + 1)) (by omega) (by omega), Int.emod_eq_of_lt (by omega) (by omega)]
      unfold zz
      rw [if_neg (by omega)]
      omega
    rw [e, hw]
    rfl
theorem mem_rd {l : List Int} {i : Nat} (h : i < l.length) : rd l (i : Int) ∈ l := by
  unfold rd
  rw [Int.toNat_natCast, List.getD_eq_getElem?_getD, List.getElem?_eq_getElem h]
  exact List.getElem_mem _
theorem next_i {i : Nat} (h : i < 9223372036854775807) : wrap64 ((i : Int) + 1) = ((i + 1 : Nat) : Int) := by rw [w64o (by omega) (by omega)]; rfl
theorem list_l0 (l : List Int) (hn : ∀ x ∈ l, i64 x) (hl : l.length ≤ 1000) : ∀ (m k i : Nat) (bs : List Int), i + m = l.length → m + 10 < k → bs.length + 10 * m ≤ 1000000000 → gradineref45_List.l0 k l bs (l.length : Int) (i : Int) = some (bs ++ (l.drop i).flatMap eN)
  | m, 0, i, bs, _, hk, _ => absurd hk (by omega)
  | 0, k + 1, i, bs, hi, hk, hb => by
    simp only [gradineref45_List.l0]
    rw [if_neg (by omega), show i = l.length by omega, List.drop_length, List.flatMap_nil, List.append_nil]
  | m + 1, k + 1, i, bs, hi, hk, hb => by
    have hlt : i < l.length := by omega
    simp only [gradineref45_List.l0]
    rw [if_pos (by omega), if_pos (by omega), if_pos (by omega), number_f k _ (by omega) (hn _ (mem_rd hlt)), Option.bind_some]
    have hel := eN_len (rd l (i : Int))
    rw [if_pos (by omega), next_i (by omega), list_l0 l hn hl m k (i + 1) _ (by omega) (by omega) (by rw [List.length_append]; omega), drop_rd hlt, List.flatMap_cons, List.append_assoc]
theorem i64_len {n : Nat} (h : n ≤ 1000) : i64 (n : Int) := ⟨by omega, by omega⟩
theorem list_f (k : Nat) (l : List Int) (hn : ∀ x ∈ l, i64 x) (hl : l.length ≤ 300) (hk : 400 ≤ k) : gradineref45_List.f k l = some (eL l) := by
  unfold gradineref45_List.f
  have hel := eN_len (l.length : Int)
  rw [number_f k _ (by omega) (i64_len (by omega)), Option.bind_some]
  exact list_l0 l hn (by omega) l.length k 0 _ (by omega) (by omega) (by omega)
theorem truth_f (b : Bool) : gradineref45_truth.f b = some (eB b) := by cases b <;> rfl
section
variable (z0 z1 z2 : Int) (zl : List Int) (zm zn zo zp zq zr zs zt : Int) (zu : Bool) (zv zw : List Int) (zf : List S71) (zx : Bool)
theorem com_l0 (l : List Int) (hn : ∀ x ∈ l, i64 x) (hl : l.length ≤ 1000) (k : Nat) (hk : 10 ≤ k) : ∀ (m i : Nat) (bs : List Int), i + m = l.length → bs.length + 10 * m ≤ 1000000000 → gradineref45_command.l0 (k + 1 + m) bs l (l.length : Int) (i : Int) z0 z1 z2 zl zm zn zo zp zq zr zs zt zu zv zw zf zx = gradineref45_command.l0 (k + 1) (bs ++ (l.drop i).flatMap eN) l (l.length : Int) (l.length : Int) z0 z1 z2 zl zm zn zo zp zq zr zs zt zu zv zw zf zx
  | 0, i, bs, hi, hb => by
    obtain rfl : i = l.length := by omega
    rw [List.drop_length, List.flatMap_nil, List.append_nil]
  | m + 1, i, bs, hi, hb => by
    have hlt : i < l.length := by omega
    have e : gradineref45_command.l0 (k + 1 + (m + 1)) bs l (l.length : Int) (i : Int) z0 z1 z2 zl zm zn zo zp zq zr zs zt zu zv zw zf zx = gradineref45_command.l0 (k + 1 + m) (bs ++ eN (rd l (i : Int))) l (l.length : Int) ((i + 1 : Nat) : Int) z0 z1 z2 zl zm zn zo zp zq zr zs zt zu zv zw zf zx := by
      have hel := eN_len (rd l (i : Int))
      rw [show k + 1 + (m + 1) = (k + 1 + m) + 1 by omega, gradineref45_command.l0]
      rw [if_pos (by omega), if_pos (by omega), if_pos (by omega), number_f _ _ (by omega) (hn _ (mem_rd hlt)), Option.bind_some, if_pos (by omega), next_i (by omega)]
    rw [e, com_l0 l hn hl k hk m (i + 1) _ (by omega) (by have := eN_len (rd l (i : Int)); rw [List.length_append]; omega), drop_rd hlt, List.flatMap_cons, List.append_assoc]
theorem com_l1 (l : List Int) (hn : ∀ x ∈ l, i64 x) (hl : l.length ≤ 1000) (k : Nat) (hk : 10 ≤ k) : ∀ (m i : Nat) (bs : List Int), i + m = l.length → bs.length + 10 * m ≤ 1000000000 → gradineref45_command.l1 (k + 1 + m) bs l (l.length : Int) (i : Int) z0 z1 z2 zl zm zn zo zp zq zr zs zt zu zv zw zf zx = gradineref45_command.l1 (k + 1) (bs ++ (l.drop i).flatMap eN) l (l.length : Int) (l.length : Int) z0 z1 z2 zl zm zn zo zp zq zr zs zt zu zv zw zf zx
  | 0, i, bs, hi, hb => by
    obtain rfl : i = l.length := by omega
    rw [List.drop_length, List.flatMap_nil, List.append_nil]
  | m + 1, i, bs, hi, hb => by
    have hlt : i < l.length := by omega
    have e : gradineref45_command.l1 (k + 1 + (m + 1)) bs l (l.length : Int) (i : Int) z0 z1 z2 zl zm zn zo zp zq zr zs zt zu zv zw zf zx = gradineref45_command.l1 (k + 1 + m) (bs ++ eN (rd l (i : Int))) l (l.length : Int) ((i + 1 : Nat) : Int) z0 z1 z2 zl zm zn zo zp zq zr zs zt zu zv zw zf zx := by
      have hel := eN_len (rd l (i : Int))
      rw [show k + 1 + (m + 1) = (k + 1 + m) + 1 by omega, gradineref45_command.l1]
      rw [if_pos (by omega), if_pos (by omega), if_pos (by omega), number_f _ _ (by omega) (hn _ (mem_rd hlt)), Option.bind_some, if_pos (by omega), next_i (by omega)]
    rw [e, com_l1 l hn hl k hk m (i + 1) _ (by omega) (by have := eN_len (rd l (i : Int)); rw [List.length_append]; omega), drop_rd hlt, List.flatMap_cons, List.append_assoc]
theorem word10 (k : Nat) (x : Int) (hk : 10 ≤ k) (h0 : 0 ≤ x) (h1 : x < 18446744073709551616) : gradineref45_Word.f k x = some (eW 10 x) := word_f 9 k x [] (by omega) h0 h1 (Int.lt_trans h1 (by decide)) (by decide)
theorem com_l2 (hn : ∀ x ∈ zf, i64 x.f0 ∧ i64 x.f1 ∧ 0 ≤ x.f2 ∧ x.f2 < 18446744073709551616) (hl : zf.length ≤ 1000) (k : Nat) (hk : 10 ≤ k) : ∀ (m i : Nat) (bs : List Int), i + m = zf.length → bs.length + 30 * m ≤ 1000000000 → gradineref45_command.l2 (k + 1 + m) bs (zf.length : Int) (i : Int) z0 z1 z2 zl zm zn zo zp zq zr zs zt zu zv zw zf zx = some (bs ++ ((zf.drop i).flatMap eT ++ eB zx))
  | 0, i, bs, hi, hb => by
    obtain rfl : i = zf.length := by omega
    rw [List.drop_length, List.flatMap_nil, List.nil_append]
    show gradineref45_command.l2 (k + 1) _ _ _ z0 z1 z2 zl zm zn zo zp zq zr zs zt zu zv zw zf zx = _
    rw [gradineref45_command.l2, if_neg (by omega), truth_f, Option.bind_some, if_pos (by have := eB_len zx; omega)]
  | m + 1, i, bs, hi, hb => by
    have hlt : i < zf.length := by omega
    have hx := hn _ (mem71 hlt)
    have h1 := eN_len (rd_T71 zf (i : Int)).f0
    have h2 := eN_len (rd_T71 zf (i : Int)).f1
    have h3 := eW_len 10 (rd_T71 zf (i : Int)).f2
    have e : gradineref45_command.l2 (k + 1 + (m + 1)) bs (zf.length : Int) (i : Int) z0 z1 z2 zl zm zn zo zp zq zr zs zt zu zv zw zf zx = gradineref45_command.l2 (k + 1 + m) (bs ++ eT (rd_T71 zf (i : Int))) (zf.length : Int) ((i + 1 : Nat) : Int) z0 z1 z2 zl zm zn zo zp zq zr zs zt zu zv zw zf zx := by
      rw [show k + 1 + (m + 1) = (k + 1 + m) + 1 by omega, gradineref45_command.l2]
      rw [if_pos (by omega), if_pos (by omega), if_pos (by omega), number_f _ _ (by omega) hx.1, Option.bind_some, if_pos (by omega), Option.bind_some, number_f _ _ (by omega) hx.2.1, Option.bind_some, if_pos (by rw [List.length_append]; omega), Option.bind_some, word10 _ _ (by omega) hx.2.2.1 hx.2.2.2, Option.bind_some, if_pos (by rw [List.length_append, List.length_append]; omega), next_i (by omega)]
      unfold eT
      rw [List.append_assoc, List.append_assoc]
    rw [e, com_l2 hn hl k hk m (i + 1) _ (by omega) (by have := eT_len (rd_T71 zf (i : Int)); rw [List.length_append]; omega), drop71 hlt, List.flatMap_cons, List.append_assoc, List.append_assoc]
end
theorem command_f (k : Nat) (c : S45) (hk : 1000 ≤ k) (h : okC c) (hs : smC c) : gradineref45_command.f k c.f0 c.f1 c.f2 c.f3 c.f4.f0 c.f4.f1 c.f4.f2 c.f4.f3 c.f4.f4 c.f4.f5 c.f4.f6 c.f4.f7 c.f4.f8 c.f4.f9 c.f5 c.f6 c.f7 = some (eC c) := by
  obtain ⟨h0, h1, h2⟩ := h.a
  obtain ⟨b0, b1, b2, b3, b4, b5, b6, b7⟩ := h.b
  obtain ⟨s1, s2, s3⟩ := h.s
  have sa := hs.sa; have sb := hs.sb; have sc := hs.sc; have sd := hs.sd
  have L1 := fl_len eN_len [c.f0, c.f1, c.f2]
  have L2 := eL_len c.f3
  have L3 := fl_len eN_len [c.f4.f0, c.f4.f1, c.f4.f2, c.f4.f3, c.f4.f4, c.f4.f5, c.f4.f6, c.f4.f7]
  have L4 := eB_len c.f4.f8
  have L5 := eL_len c.f4.f9
  have L6 := eL_len c.f5
  have L7 := eN_len (c.f6.length : Int)
  obtain ⟨k1, rfl⟩ : ∃ k1, k = k1 + 1 + 3 := ⟨k - 4, by omega⟩
  unfold gradineref45_command.f
  rw [Option.bind_some]
  have e1 := com_l0 (z0 := c.f0) (z1 := c.f1) (z2 := c.f2) (zl := c.f3) (zm := c.f4.f0) (zn := c.f4.f1) (zo := c.f4.f2) (zp := c.f4.f3) (zq := c.f4.f4) (zr := c.f4.f5) (zs := c.f4.f6) (zt := c.f4.f7) (zu := c.f4.f8) (zv := c.f4.f9) (zw := c.f5) (zf := c.f6) (zx := c.f7) [c.f0, c.f1, c.f2] (fun x hx => by simp only [List.mem_cons, List.not_mem_nil, or_false] at hx; rcases hx with rfl | rfl | rfl <;> assumption) (by simp only [List.length_cons, List.length_nil]; omega) k1 (by omega) 3 0 [] rfl (by decide)
  refine e1.trans ?_
  rw [gradineref45_command.l0, if_neg (by omega), list_f _ _ s1 sa (by omega), Option.bind_some, List.drop_zero, List.nil_append]
  generalize hp1 : List.flatMap eN [c.f0, c.f1, c.f2] = p1 at L1
  simp only [List.length_cons, List.length_nil] at L1 L3
  rw [if_pos (by omega), Option.bind_some]
  obtain ⟨k2, rfl⟩ : ∃ k2, k1 = k2 + 1 + 8 := ⟨k1 - 9, by omega⟩
  have e2 := com_l1 (z0 := c.f0) (z1 := c.f1) (z2 := c.f2) (zl := c.f3) (zm := c.f4.f0) (zn := c.f4.f1) (zo := c.f4.f2) (zp := c.f4.f3) (zq := c.f4.f4) (zr := c.f4.f5) (zs := c.f4.f6) (zt := c.f4.f7) (zu := c.f4.f8) (zv := c.f4.f9) (zw := c.f5) (zf := c.f6) (zx := c.f7) [c.f4.f0, c.f4.f1, c.f4.f2, c.f4.f3, c.f4.f4, c.f4.f5, c.f4.f6, c.f4.f7] (fun x hx => by simp only [List.mem_cons, List.not_mem_nil, or_false] at hx; rcases hx with rfl | rfl | rfl | rfl | rfl | rfl | rfl | rfl <;> assumption) (by simp only [List.length_cons, List.length_nil]; omega) k2 (by omega) 8 0 (p1 ++ eL c.f3) rfl (by rw [List.length_append]; omega)
  refine e2.trans ?_
  rw [List.drop_zero]
  generalize hp3 : List.flatMap eN [c.f4.f0, c.f4.f1, c.f4.f2, c.f4.f3, c.f4.f4, c.f4.f5, c.f4.f6, c.f4.f7] = p3 at L3
  rw [gradineref45_command.l1, if_neg (by omega), truth_f, Option.bind_some, if_pos (by simp only [List.length_append]; omega), Option.bind_some, list_f _ _ s2 sb (by omega), Option.bind_some, if_pos (by simp only [List.length_append]; omega), Option.bind_some, list_f _ _ s3 sc (by omega), Option.bind_some, if_pos (by simp only [List.length_append]; omega), Option.bind_some, number_f _ _ (by omega) (i64_len (by omega)), Option.bind_some, if_pos (by simp only [List.length_append]; omega)]
  obtain ⟨k3, rfl⟩ : ∃ k3, k2 = k3 + 1 + c.f6.length := ⟨k2 - 1 - c.f6.length, by omega⟩
  refine (com_l2 (z0 := c.f0) (z1 := c.f1) (z2 := c.f2) (zl := c.f3) (zm := c.f4.f0) (zn := c.f4.f1) (zo := c.f4.f2) (zp := c.f4.f3) (zq := c.f4.f4) (zr := c.f4.f5) (zs := c.f4.f6) (zt := c.f4.f7) (zu := c.f4.f8) (zv := c.f4.f9) (zw := c.f5) (zf := c.f6) (zx := c.f7) h.t (by omega) k3 (by omega) c.f6.length 0 _ (by omega) (by simp only [List.length_append]; omega)).trans ?_
  rw [List.drop_zero]
  unfold eC
  rw [hp1, hp3]
  simp only [List.append_assoc]
theorem longC_f {c : S45} (h : longC c = false) : ¬ ((c.f3.length : Int) > 256) ∧ ¬ ((c.f4.f9.length : Int) > 256) ∧ ¬ ((c.f5.length : Int) > 256) ∧ ¬ ((c.f6.length : Int) > 256) := by
  unfold longC at h
  simp only [Bool.or_eq_false_iff, decide_eq_false_iff_not] at h
  omega
set_option maxRecDepth 100000 in
theorem encode_l0 (l : List S45) (hn : ∀ x ∈ l, okC x) (hs : ∀ x ∈ l, smC x) (hl : l.length ≤ 300) : ∀ (m k i : Nat) (bs : List Int), i + m = l.length → m + 1000 < k → bs.length + 20000 * m ≤ 1000000000 → gradineref45_Encode.l0 k l bs (l.length : Int) (i : Int) = some (if (l.drop i).any longC = true then ([], 3) else (bs ++ (l.drop i).flatMap eC, 0))
  | m, 0, i, bs, _, hk, _ => absurd hk (by omega)
  | 0, k + 1, i, bs, hi, hk, hb => by
    simp only [gradineref45_Encode.l0]
    rw [if_neg (by omega), show i = l.length by omega, List.drop_length, List.flatMap_nil, List.append_nil]
    rfl
  | m + 1, k + 1, i, bs, hi, hk, hb => by
    have hlt : i < l.length := by omega
    simp only [gradineref45_Encode.l0]
    rw [if_pos (by omega), if_pos (by omega), if_pos (by omega), drop45 hlt]
    have hm := mem45 hlt
    have hx := hn _ hm
    have hy := hs _ hm
    generalize rd_T45 l (i : Int) = c at hx hy
    cases hL : longC c with
    | true =>
      rw [List.any_cons, hL, Bool.true_or, if_pos rfl]
      unfold longC at hL
      split
      · rfl
      split
      · rfl
      split
      · rfl
      split
      · rfl
      simp only [Bool.or_eq_true, decide_eq_true_eq] at hL
      omega
    | false =>
      obtain ⟨q1, q2, q3, q4⟩ := longC_f hL
      have hcl := eC_len hy
      rw [if_neg q1, if_neg q2, if_neg q3, if_neg q4, command_f k c (by omega) hx hy, Option.bind_some, if_pos (by omega), next_i (by omega), encode_l0 l hn hs hl m k (i + 1) _ (by omega) (by omega) (by rw [List.length_append]; omega), List.any_cons, hL, Bool.false_or, List.flatMap_cons, List.append_assoc]
theorem encode_f (k : Nat) (l : List S45) (hn : ∀ x ∈ l, okC x) (hs : ∀ x ∈ l, smC x) (hl : l.length ≤ 300) (hk : 2000 ≤ k) : gradineref45_Encode.f k l = some (encB l, encC l) := by
  unfold gradineref45_Encode.f encB encC
  by_cases h : (l.length : Int) > 200
  · have d : decide (200 < l.length) = true := decide_eq_true (by omega)
    rw [if_pos h, d, Bool.true_or, if_pos rfl, if_pos rfl]
  · have d : decide (200 < l.length) = false := decide_eq_false (by omega)
    have hel := eN_len (l.length : Int)
    rw [if_neg h, d, Bool.false_or, number_f _ _ (by omega) (i64_len (by omega)), Option.bind_some]
    refine (encode_l0 l hn hs hl l.length k 0 _ (by omega) (by omega) (by omega)).trans ?_
    rw [List.drop_zero]
    split <;> rfl
theorem many_l0 (l : List S45) (hl : l.length ≤ 9223372036854775807) : ∀ (m k i : Nat), i + m = l.length → m < k → ∃ b, gradinelaw45_many.l0 k l (l.length : Int) (i : Int) = some b ∧ (b = false → l.length ≤ 210 ∧ ∀ x ∈ l.drop i, smC x)
  | m, 0, i, _, hk => absurd hk (by omega)
  | 0, k + 1, i, hi, hk => by
    simp only [gradinelaw45_many.l0]
    rw [if_neg (by omega)]
    refine ⟨_, rfl, fun h => ⟨by have := of_decide_eq_false h; omega, fun x hx => ?_⟩⟩
    rw [show i = l.length by omega, List.drop_length] at hx
    cases hx
  | m + 1, k + 1, i, hi, hk => by
    have hlt : i < l.length := by omega
    simp only [gradinelaw45_many.l0]
    rw [if_pos (by omega), if_pos (by omega), if_pos (by omega), drop45 hlt]
    split
    · exact ⟨_, rfl, fun h => by cases h⟩
    split
    · exact ⟨_, rfl, fun h => by cases h⟩
    split
    · exact ⟨_, rfl, fun h => by cases h⟩
    split
    · exact ⟨_, rfl, fun h => by cases h⟩
    rename_i q1 q2 q3 q4
    rw [next_i (by omega)]
    obtain ⟨b, hb, hc⟩ := many_l0 l hl m k (i + 1) (by omega) (by omega)
    refine ⟨b, hb, fun h => ⟨(hc h).1, fun x hx => ?_⟩⟩
    rcases List.mem_cons.mp hx with rfl | hx
    · exact ⟨by omega, by omega, by omega, by omega⟩
    · exact (hc h).2 x hx
theorem bytes_f (l : List Int) : gradineplain_Bytes.f l l = some true := by
  unfold gradineplain_Bytes.f
  rw [beq_self_eq_true]
theorem many_f (l : List S45) (hl : l.length ≤ 9223372036854775807) : ∃ b, gradinelaw45_many.f (l.length + 1) l = some b ∧ (b = false → l.length ≤ 210 ∧ ∀ x ∈ l, smC x) := many_l0 l hl l.length (l.length + 1) 0 (by omega) (by omega)
end Pk
end Go.Proofs.Ytkohdojiockejaa.Q
