-- By wip/gprint.py (this session's), out of the kit's print.py.
import Derived.Test.YtjbpekblcecneaaQx0
import Derived.Test.YtjbpekblcecneaaQxfShapeCount
import Derived.Test.YtjbpekblcecneaaQxfViewAt
import Derived.Test.YtjbpekblcecneaaQxfViewRight
namespace Go.Proofs.Ytjbpekblcecneaa.Q
open Go.RowKit Go.Proofs.YtjbpekblcecneaaW.PrintWords Go.Proofs.YtjbpekblcecneaaW.PrintLast Go.Proofs.YtjbpekblcecneaaW.PrintMore
attribute [local go_sem] max2_int min2_int max_two min_two max_three min_three max_four min_four   -- for this text's walks alone
set_option linter.unusedVariables false
set_option linter.unusedSimpArgs false

/-! ### cells_List: function 29 -/
def cells_List.l0 : Nat → List Int → Int → Int → Int → List Int → List Int → Option (List Int)
 | 0, _, _, _, _, _, _ => none
 | k + 1, x3, x12, x13, zd, ze, zf => if x13 < x12 then ((view_At.f k zd ze zf x13).bind fun bt774 => (if x3.length < 17592186044416 then (cells_List.l0 k (x3 ++ [bt774.1]) x12 (wrap64 (x13 + 1)) zd ze zf) else (none))) else (some x3)
def cells_List.f (k : Nat) (a0_0 : Int) (l0_1 : List Int) (l0_2 : List Int) : Option (List Int) := (view_Right.f k a0_0 l0_1 l0_2 64).bind fun zj => (if zj = true then ((shape_Count.f k l0_1).bind fun zc => (cells_List.l0 k ([] : List Int) zc 0 a0_0 l0_1 l0_2)) else (some ([] : List Int)))
set_option maxHeartbeats 8000000 in
set_option maxRecDepth 100000 in
theorem cells_List.calls (k : Nat) (a0_0 : Int) (A0_1 : Option Addr) (c0_1 : Nat) (l0_1 : List Int) (A0_2 : Option Addr) (c0_2 : Nat) (l0_2 : List Int) (r : List Int) (w : World) (hr0_1 : Kd.C (Kd.int .i64) w A0_1 l0_1.length l0_1) (hc0_1 : l0_1.length ≤ c0_1) (hr0_2 : Kd.C (Kd.int .i64) w A0_2 l0_2.length l0_2) (hc0_2 : l0_2.length ≤ c0_2) (h : cells_List.f k a0_0 l0_1 l0_2 = some r) :
  Calls Try.prog 29 #[.agg #[.int .i64 a0_0, .slice A0_1 l0_1.length c0_1, .slice A0_2 l0_2.length c0_2]] w fun e w' => ∃ v0_ : Value, e = .returned (v0_) ∧ Kd.R (Kd.int .i64) 3 w' w.heap.size (fun _ => True) v0_ r ∧ Below w.heap.size w w' := by
 have hu24 := Try.underlying24
 have zg := aM hr0_1
 have zh := aM hc0_1
 clear hr0_1 hc0_1
 have zk := aM hr0_2
 have zl := aM hc0_2
 clear hr0_2 hc0_2
 have HB := aM (Below.refl w.heap.size w)
 have H : ((view_Right.f k a0_0 l0_1 l0_2 64).bind fun zj => (if zj = true then ((shape_Count.f k l0_1).bind fun zc => (cells_List.l0 k ([] : List Int) zc 0 a0_0 l0_1 l0_2)) else (some ([] : List Int)))) = some r := h
 clear h
 replace H := Option.bind_eq_some_iff.mp H
 obtain ⟨zj, A20, H⟩ := H
 try dsimp only at H
 have A2 := aM A20
 clear A20
 by_cases c3 : zj = true
 rotate_left
 ·replace c3 := Bool.eq_false_iff.mpr c3
  subst c3
  rw [if_neg (show ¬ (false = true) by decide)] at H
  obtain rfl := Option.some.inj H
  go_enter Try.func29, Try.ntmps29
  go_wp2_with (first | ((with_reducible refine gate_dst (N := 1) rfl ?_); refine box_event ?hg (N := 1) ?hd (cs := #[.int .i64 a0_0, .slice A0_1 l0_1.length c0_1, .slice A0_2 l0_2.length c0_2]) (t := 24) ?hr ?_; (case hd => rfl); (case hg => rfl); (case hr => first | (go_simp; done) | (go_simp; rfl)); intro zm hg w15 hbox hb; have za := aM (hbox); have zn := gE (w := w) hg (qB HB); have zb := zn; replace HB := bS (qB HB) hb; clear hb hbox hg; obtain ⟨hcz16_0, hcz16_1, hcz16_2, hfz16_0, hfz16_1, hfz16_2⟩ := blk3 za.out) | ((with_reducible refine gate_callee (f := 12) rfl ?_); refine goesL_ (some 8) rfl rfl Try.func12 (by kernel_rfl) rfl #[.agg #[.int .i64 a0_0, .slice A0_1 l0_1.length c0_1, .slice A0_2 l0_2.length c0_2], .int .i64 64] rfl pA ?_; (with_reducible refine (view_Right.calls k a0_0 _ _ l0_1 _ _ l0_2 64 false _ ?s1 ?s2 ?s3 ?s4 A2.out).mono ?_); (case s1 => exact sC zg HB); (case s2 => exact zh.out); (case s3 => exact sC zk HB); (case s4 => exact zl.out); rintro e w17 ⟨rfl, hb⟩; refine ⟨_, rfl, ?_⟩; replace za := bK za hb; replace HB := bS (qB1 HB zb) hb; (try clear hb); (try clear hk); (try clear hi)))
  go_ret
  exact ⟨_, pE, pN, qB1 HB zb⟩

 subst c3
 rw [if_pos rfl] at H
 replace H := Option.bind_eq_some_iff.mp H
 obtain ⟨zc, A40, H⟩ := H
 try dsimp only at H
 have A4 := aM A40
 clear A40
 have H' := aM H
 clear H
 go_enter Try.func29, Try.ntmps29
 go_wp2_with (first | ((with_reducible refine gate_dst (N := 1) rfl ?_); refine box_event ?hg (N := 1) ?hd (cs := #[.int .i64 a0_0, .slice A0_1 l0_1.length c0_1, .slice A0_2 l0_2.length c0_2]) (t := 24) ?hr ?_; (case hd => rfl); (case hg => rfl); (case hr => first | (go_simp; done) | (go_simp; rfl)); intro zm hg w5 hbox hb; have za := aM (hbox); have zn := gE (w := w) hg (qB HB); have zb := zn; replace HB := bS (qB HB) hb; clear hb hbox hg; obtain ⟨hcz6_0, hcz6_1, hcz6_2, hfz6_0, hfz6_1, hfz6_2⟩ := blk3 za.out) | ((with_reducible refine gate_callee (f := 12) rfl ?_); refine goesL_ (some 8) rfl rfl Try.func12 (by kernel_rfl) rfl #[.agg #[.int .i64 a0_0, .slice A0_1 l0_1.length c0_1, .slice A0_2 l0_2.length c0_2], .int .i64 64] rfl pA ?_; (with_reducible refine (view_Right.calls k a0_0 _ _ l0_1 _ _ l0_2 64 true _ ?s1 ?s2 ?s3 ?s4 A2.out).mono ?_); (case s1 => exact sC zg HB); (case s2 => exact zh.out); (case s3 => exact sC zk HB); (case s4 => exact zl.out); rintro e w7 ⟨rfl, hb⟩; refine ⟨_, rfl, ?_⟩; replace za := bK za hb; replace HB := bS (qB1 HB zb) hb; (try clear hb); (try clear hk); (try clear hi); obtain ⟨hcz8_0, hcz8_1, hcz8_2, hfz8_0, hfz8_1, hfz8_2⟩ := blk3 za.out) | ((with_reducible refine gate_callee (f := 54) rfl ?_); refine goesL_ (some 12) rfl rfl Try.func54 (by kernel_rfl) rfl #[.slice A0_1 l0_1.length c0_1] rfl pA ?_; (with_reducible refine (shape_Count.calls k _ _ l0_1 zc _ ?s1 ?s2 A4.out).mono ?_); (case s1 => exact sC zg HB); (case s2 => exact zh.out); rintro e w' ⟨rfl, ⟨nd, rfl⟩⟩; refine ⟨_, rfl, ?_⟩))
 go_loopg [3, 13] k (fun kq v3 v13 w' => ∃ (x3_1 : List Int) (x13_1 : Int), v13 = .int .i64 x13_1 ∧ Aside0 (cells_List.l0 kq x3_1 zc x13_1 a0_0 l0_1 l0_2 = some r) ∧ Aside0 (kq ≤ k) ∧ Aside0 (Kd.R (Kd.int .i64) 3 w' w.heap.size (fun _ => True) v3 x3_1) ∧ Aside0 (w'.heap[zm]? = some (.cells #[.int .i64 a0_0, (.slice A0_1 l0_1.length c0_1), (.slice A0_2 l0_2.length c0_2)] 24 (0, 0))) ∧ Aside0 (Below w.heap.size w w'))
 case atStart => exact ⟨(([] : List Int)), (0), (pF), H', ⟨Nat.le_refl _⟩, ⟨pN⟩, ⟨pK za.out⟩, ⟨qB1 HB zb⟩⟩
 case round =>
  clear H'
  try clear c3
  try clear hcz6_0 hcz6_1 hcz6_2 hcz8_0 hcz8_1 hcz8_2 hfz6_0 hfz6_1 hfz6_2 hfz8_0 hfz8_1 hfz8_2
  obtain ⟨x3_1, x13_1, rfl, HA, HK1, zi, za, HB⟩ := hrel
  cases gk with
  | zero => exact absurd HA.out (by simp [cells_List.l0])
  | succ k1 =>
   have H := HA.out
   clear HA
   simp only [cells_List.l0] at H
   by_cases c9 : x13_1 < zc
   rotate_left
   ·rw [if_neg c9] at H
    have c9b0 : decide (x13_1 < zc) = false := decide_eq_false c9
    clear c9
    obtain rfl := Option.some.inj H
    go_wp2
    go_ret
    exact ⟨_, pE, pR zi.out, qB1 HB zb⟩
   rw [if_pos c9] at H
   have c9b0 : decide (x13_1 < zc) = true := decide_eq_true c9
   clear c9
   replace H := Option.bind_eq_some_iff.mp H
   obtain ⟨⟨zp, t775⟩, zq, H⟩ := H
   try dsimp only at H
   have A10 := aM zq
   clear zq
   by_cases c11 : x3_1.length < 17592186044416
   rotate_left
   ·rw [if_neg c11] at H
    exact absurd H (by simp)
   rw [if_pos c11] at H
   have LMc11 := aM c11
   clear c11
   obtain ⟨zr, zo⟩ : ∃ y_ : List Int, y_ = (x3_1 ++ [zp]) := ⟨_, rfl⟩
   replace H : (cells_List.l0 k1 zr zc (wrap64 (x13_1 + 1)) a0_0 l0_1 l0_2) = some r := pH zo H
   have Ny776 := aM zo
   clear zo
   have H' := aM H
   clear H
   obtain ⟨hcz12_0, hcz12_1, hcz12_2, hfz12_0, hfz12_1, hfz12_2⟩ := blk3 za.out
   go_wp2_with (first | ((with_reducible refine gate_callee (f := 11) rfl ?_); refine goesL_ (some 19) rfl rfl Try.func11 (by kernel_rfl) rfl #[.agg #[.int .i64 a0_0, .slice A0_1 l0_1.length c0_1, .slice A0_2 l0_2.length c0_2], .int .i64 x13_1] rfl pA ?_; (with_reducible refine (view_At.calls k1 a0_0 _ _ l0_1 _ _ l0_2 x13_1 zp t775 _ ?s1 ?s2 ?s3 ?s4 A10.out).mono ?_); (case s1 => exact sC zg HB); (case s2 => exact zh.out); (case s3 => exact sC zk HB); (case s4 => exact zl.out); rintro e w13 ⟨rfl, hb⟩; refine ⟨_, rfl, ?_⟩; replace zi := bR zi hb; replace za := bK za hb; replace HB := bS (qB1 HB zb) hb; (try clear hb); (try clear hk); (try clear hi)) | ((with_reducible refine gate_builtin (b := .append) (xs := #[.tmp 22, .tmp 24]) rfl ?_); at_builtin; refine Kd.R_append (Kd.int .i64) (w0 := w) w.heap.size rfl (.tmp 22) (.tmp 24) 22 3 (.int .i64 0) 8 rfl Try.underlying22 info3 rfl (by decide) (by omega) u3 x3_1 zp [.int .i64 zp] (fun _ => True) (fun _ => False) rfl rfl ?aP (fun _ hk => hk.elim) ?aF ?aO ?aB ?aS ?aL ?_; (case aP => exact rfl); (case aB => exact (qB1 HB zb)); (case aF => exact (fun _ _ => trivial)); (case aO => exact (pR zi.out)); (case aS => exact (below_size (qB1 HB zb))); (case aL => have := LMc11.out; omega); intro v777 w14 ho hb hg hat; rw [← Ny776.out] at ho; replace za := aM (blk_grown (g := zm) (pK za.out) hg (Kd.R_ne zi.out za.out (by decide))); replace HB := aM (hb); have HO778 := aM (ho); clear zi; clear ho hb hg hat))
   go_roundg k1
   case measure => have := HK1.out; omega
   case rel => exact ⟨(zr), (wrap64 (x13_1 + 1)), (pF), H', ⟨by have := HK1.out; omega⟩, ⟨pR HO778.out⟩, ⟨pK za.out⟩, ⟨qB1 HB zb⟩⟩
end Go.Proofs.Ytjbpekblcecneaa.Q
