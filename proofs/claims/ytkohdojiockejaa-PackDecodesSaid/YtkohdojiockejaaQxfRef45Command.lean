-- By wip/gprint.py (this session's), out of the kit's print.py.
import Derived.Test.YtkohdojiockejaaQx0
import Derived.Test.YtkohdojiockejaaQxfRef45List
import Derived.Test.YtkohdojiockejaaQxfRef45Number
import Derived.Test.YtkohdojiockejaaQxfRef45Truth
import Derived.Test.YtkohdojiockejaaQxfRef45Word
namespace Go.Proofs.Ytkohdojiockejaa.Q
open Go.RowKit Go.Proofs.YtkohdojiockejaaW.PrintWords Go.Proofs.YtkohdojiockejaaW.PrintLast Go.Proofs.YtkohdojiockejaaW.PrintMore
attribute [local go_sem] max2_int min2_int max_two min_two max_three min_three max_four min_four   -- for this text's walks alone
set_option linter.unusedVariables false
set_option linter.unusedSimpArgs false

/-! ### gradineref45_command: function 18 -/
mutual
def gradineref45_command.l0 : Nat → List Int → List Int → Int → Int → Int → Int → Int → List Int → Int → Int → Int → Int → Int → Int → Int → Int → Bool → List Int → List Int → List (S71) → Bool → Option (List Int)
 | 0, _, _, _, _, _, _, _, _, _, _, _, _, _, _, _, _, _, _, _, _, _ => none
 | k + 1, x3, x4, x17, x18, z0, z1, z2, zl, zm, zn, zo, zp, zq, zr, zs, zt, zu, zv, zw, zf, zx => if x18 < x17 then (if 0 ≤ x18 then (if x18 < (x4.length : Int) then ((gradineref45_Number.f k (rd x4 x18)).bind fun zao => (if x3.length + zao.length < 140737488355328 then (gradineref45_command.l0 k (x3 ++ zao) x4 x17 (wrap64 (x18 + 1)) z0 z1 z2 zl zm zn zo zp zq zr zs zt zu zv zw zf zx) else (none))) else (none)) else (none)) else ((gradineref45_List.f k zl).bind fun zap => (if x3.length + zap.length < 140737488355328 then ((some (([zm, zn, zo, zp, zq, zr, zs, zt] : List Int) : List Int)).bind fun zi => (gradineref45_command.l1 k (x3 ++ zap) zi (zi.length : Int) 0 z0 z1 z2 zl zm zn zo zp zq zr zs zt zu zv zw zf zx)) else (none)))
def gradineref45_command.l1 : Nat → List Int → List Int → Int → Int → Int → Int → Int → List Int → Int → Int → Int → Int → Int → Int → Int → Int → Bool → List Int → List Int → List (S71) → Bool → Option (List Int)
 | 0, _, _, _, _, _, _, _, _, _, _, _, _, _, _, _, _, _, _, _, _, _ => none
 | k + 1, x3, x6, x60, x61, z0, z1, z2, zl, zm, zn, zo, zp, zq, zr, zs, zt, zu, zv, zw, zf, zx => if x61 < x60 then (if 0 ≤ x61 then (if x61 < (x6.length : Int) then ((gradineref45_Number.f k (rd x6 x61)).bind fun zaq => (if x3.length + zaq.length < 140737488355328 then (gradineref45_command.l1 k (x3 ++ zaq) x6 x60 (wrap64 (x61 + 1)) z0 z1 z2 zl zm zn zo zp zq zr zs zt zu zv zw zf zx) else (none))) else (none)) else (none)) else ((gradineref45_truth.f zu).bind fun z4 => (if x3.length + z4.length < 140737488355328 then ((some (x3 ++ z4 : List Int)).bind fun zar => ((gradineref45_List.f k zv).bind fun z3 => (if zar.length + z3.length < 140737488355328 then ((some (zar ++ z3 : List Int)).bind fun zac => ((gradineref45_List.f k zw).bind fun zy => (if zac.length + zy.length < 140737488355328 then ((some (zac ++ zy : List Int)).bind fun z9 => ((gradineref45_Number.f k (zf.length : Int)).bind fun zz => (if z9.length + zz.length < 140737488355328 then (gradineref45_command.l2 k (z9 ++ zz) (zf.length : Int) 0 z0 z1 z2 zl zm zn zo zp zq zr zs zt zu zv zw zf zx) else (none)))) else (none)))) else (none)))) else (none)))
def gradineref45_command.l2 : Nat → List Int → Int → Int → Int → Int → Int → List Int → Int → Int → Int → Int → Int → Int → Int → Int → Bool → List Int → List Int → List (S71) → Bool → Option (List Int)
 | 0, _, _, _, _, _, _, _, _, _, _, _, _, _, _, _, _, _, _, _, _ => none
 | k + 1, x3, x97, x98, z0, z1, z2, zl, zm, zn, zo, zp, zq, zr, zs, zt, zu, zv, zw, zf, zx => if x98 < x97 then (if 0 ≤ x98 then (if x98 < (zf.length : Int) then ((gradineref45_Number.f k ((rd_T71 zf x98).f0)).bind fun zaa => (if x3.length + zaa.length < 140737488355328 then ((some (x3 ++ zaa : List Int)).bind fun zas => ((gradineref45_Number.f k ((rd_T71 zf x98).f1)).bind fun z8 => (if zas.length + z8.length < 140737488355328 then ((some (zas ++ z8 : List Int)).bind fun zad => ((gradineref45_Word.f k ((rd_T71 zf x98).f2)).bind fun z7 => (if zad.length + z7.length < 140737488355328 then (gradineref45_command.l2 k (zad ++ z7) x97 (wrap64 (x98 + 1)) z0 z1 z2 zl zm zn zo zp zq zr zs zt zu zv zw zf zx) else (none)))) else (none)))) else (none))) else (none)) else (none)) else ((gradineref45_truth.f zx).bind fun zat => (if x3.length + zat.length < 140737488355328 then (some (x3 ++ zat)) else (none)))
end
def gradineref45_command.f (k : Nat) (a0_0 : Int) (a0_1 : Int) (a0_2 : Int) (l0_3 : List Int) (a0_4 : Int) (a0_5 : Int) (a0_6 : Int) (a0_7 : Int) (a0_8 : Int) (a0_9 : Int) (a0_10 : Int) (a0_11 : Int) (a0_12 : Bool) (l0_13 : List Int) (l0_14 : List Int) (l0_15 : List (S71)) (a0_16 : Bool) : Option (List Int) := (some (([a0_0, a0_1, a0_2] : List Int) : List Int)).bind fun zj => (gradineref45_command.l0 k ([] : List Int) zj (zj.length : Int) 0 a0_0 a0_1 a0_2 l0_3 a0_4 a0_5 a0_6 a0_7 a0_8 a0_9 a0_10 a0_11 a0_12 l0_13 l0_14 l0_15 a0_16)
set_option maxHeartbeats 8000000 in
set_option maxRecDepth 100000 in
theorem gradineref45_command.calls (k : Nat) (a0_0 : Int) (a0_1 : Int) (a0_2 : Int) (A0_3 : Option Addr) (c0_3 : Nat) (l0_3 : List Int) (a0_4 : Int) (a0_5 : Int) (a0_6 : Int) (a0_7 : Int) (a0_8 : Int) (a0_9 : Int) (a0_10 : Int) (a0_11 : Int) (a0_12 : Bool) (A0_13 : Option Addr) (c0_13 : Nat) (l0_13 : List Int) (A0_14 : Option Addr) (c0_14 : Nat) (l0_14 : List Int) (A0_15 : Option Addr) (c0_15 : Nat) (l0_15 : List (S71)) (a0_16 : Bool) (r : List Int) (w : World) (hr0_3 : Kd.C (Kd.int .i64) w A0_3 l0_3.length l0_3) (hc0_3 : l0_3.length ≤ c0_3) (hr0_13 : Kd.C (Kd.int .i64) w A0_13 l0_13.length l0_13) (hc0_13 : l0_13.length ≤ c0_13) (hr0_14 : Kd.C (Kd.int .i64) w A0_14 l0_14.length l0_14) (hc0_14 : l0_14.length ≤ c0_14) (hr0_15 : Kd.C k71 w A0_15 l0_15.length l0_15) (hc0_15 : l0_15.length ≤ c0_15) (h : gradineref45_command.f k a0_0 a0_1 a0_2 l0_3 a0_4 a0_5 a0_6 a0_7 a0_8 a0_9 a0_10 a0_11 a0_12 l0_13 l0_14 l0_15 a0_16 = some r) :
  Calls Try.prog 18 #[.agg #[.int .i64 a0_0, .int .i64 a0_1, .int .i64 a0_2, .slice A0_3 l0_3.length c0_3, .int .i64 a0_4, .int .i64 a0_5, .int .i64 a0_6, .int .i64 a0_7, .int .i64 a0_8, .int .i64 a0_9, .int .i64 a0_10, .int .i64 a0_11, .bool a0_12, .slice A0_13 l0_13.length c0_13, .slice A0_14 l0_14.length c0_14, .slice A0_15 l0_15.length c0_15, .bool a0_16]] w fun e w' => ∃ v0_ : Value, e = .returned (v0_) ∧ Kd.R (Kd.int .u8) 5 w' w.heap.size (fun _ => True) v0_ r ∧ Below w.heap.size w w' := by
 have hu45 := Try.underlying45
 have HR0_3 := aM hr0_3
 have HC0_3 := aM hc0_3
 clear hr0_3 hc0_3
 have HR0_13 := aM hr0_13
 have HC0_13 := aM hc0_13
 clear hr0_13 hc0_13
 have HR0_14 := aM hr0_14
 have HC0_14 := aM hc0_14
 clear hr0_14 hc0_14
 have zaz := aM hr0_15
 have HC0_15 := aM hc0_15
 clear hr0_15 hc0_15
 have HB := aM (Below.refl w.heap.size w)
 have H : ((some (([a0_0, a0_1, a0_2] : List Int) : List Int)).bind fun zj => (gradineref45_command.l0 k ([] : List Int) zj (zj.length : Int) 0 a0_0 a0_1 a0_2 l0_3 a0_4 a0_5 a0_6 a0_7 a0_8 a0_9 a0_10 a0_11 a0_12 l0_13 l0_14 l0_15 a0_16)) = some r := h
 clear h
 obtain ⟨zj, za4⟩ : ∃ y_ : List Int, y_ = (([a0_0, a0_1, a0_2] : List Int)) := ⟨_, rfl⟩
 replace H : (gradineref45_command.l0 k ([] : List Int) zj (zj.length : Int) 0 a0_0 a0_1 a0_2 l0_3 a0_4 a0_5 a0_6 a0_7 a0_8 a0_9 a0_10 a0_11 a0_12 l0_13 l0_14 l0_15 a0_16) = some r := pH za4 H
 have zbm := aM za4
 clear za4
 have H' := aM H
 clear H
 go_enter Try.func18, Try.ntmps18
 go_wp2_with (first | ((with_reducible refine gate_dst (N := 1) rfl ?_); refine box_event ?hg (N := 1) ?hd (cs := #[.int .i64 a0_0, .int .i64 a0_1, .int .i64 a0_2, .slice A0_3 l0_3.length c0_3, .int .i64 a0_4, .int .i64 a0_5, .int .i64 a0_6, .int .i64 a0_7, .int .i64 a0_8, .int .i64 a0_9, .int .i64 a0_10, .int .i64 a0_11, .bool a0_12, .slice A0_13 l0_13.length c0_13, .slice A0_14 l0_14.length c0_14, .slice A0_15 l0_15.length c0_15, .bool a0_16]) (t := 45) ?hr ?_; (case hd => rfl); (case hg => rfl); (case hr => first | (go_simp; done) | (go_simp; rfl)); intro zb hg w2 hbox hb; have za := aM (hbox); have GW147 := gE (w := w) hg (qB HB); have zc := GW147; replace HB := bS (qB HB) hb; clear hb hbox hg; have hcz3_0 : w2.cell? ⟨zb, 0, none⟩ = some (.int .i64 a0_0) := (blk_cell za.out 0).trans rfl; have hcz3_1 : w2.cell? ⟨zb, 1, none⟩ = some (.int .i64 a0_1) := (blk_cell za.out 1).trans rfl; have hcz3_2 : w2.cell? ⟨zb, 2, none⟩ = some (.int .i64 a0_2) := (blk_cell za.out 2).trans rfl; have hcz3_3 : w2.cell? ⟨zb, 3, none⟩ = some (.slice A0_3 l0_3.length c0_3) := (blk_cell za.out 3).trans rfl; have hcz3_4 : w2.cell? ⟨zb, 4, none⟩ = some (.int .i64 a0_4) := (blk_cell za.out 4).trans rfl; have hcz3_5 : w2.cell? ⟨zb, 5, none⟩ = some (.int .i64 a0_5) := (blk_cell za.out 5).trans rfl; have hcz3_6 : w2.cell? ⟨zb, 6, none⟩ = some (.int .i64 a0_6) := (blk_cell za.out 6).trans rfl; have hcz3_7 : w2.cell? ⟨zb, 7, none⟩ = some (.int .i64 a0_7) := (blk_cell za.out 7).trans rfl; have hcz3_8 : w2.cell? ⟨zb, 8, none⟩ = some (.int .i64 a0_8) := (blk_cell za.out 8).trans rfl; have hcz3_9 : w2.cell? ⟨zb, 9, none⟩ = some (.int .i64 a0_9) := (blk_cell za.out 9).trans rfl; have hcz3_10 : w2.cell? ⟨zb, 10, none⟩ = some (.int .i64 a0_10) := (blk_cell za.out 10).trans rfl; have hcz3_11 : w2.cell? ⟨zb, 11, none⟩ = some (.int .i64 a0_11) := (blk_cell za.out 11).trans rfl; have hcz3_12 : w2.cell? ⟨zb, 12, none⟩ = some (.bool a0_12) := (blk_cell za.out 12).trans rfl; have hcz3_13 : w2.cell? ⟨zb, 13, none⟩ = some (.slice A0_13 l0_13.length c0_13) := (blk_cell za.out 13).trans rfl; have hcz3_14 : w2.cell? ⟨zb, 14, none⟩ = some (.slice A0_14 l0_14.length c0_14) := (blk_cell za.out 14).trans rfl; have hcz3_15 : w2.cell? ⟨zb, 15, none⟩ = some (.slice A0_15 l0_15.length c0_15) := (blk_cell za.out 15).trans rfl; have hcz3_16 : w2.cell? ⟨zb, 16, none⟩ = some (.bool a0_16) := (blk_cell za.out 16).trans rfl; have hfz3_0 := blk_frozen za.out 0; have hfz3_1 := blk_frozen za.out 1; have hfz3_2 := blk_frozen za.out 2; have hfz3_3 := blk_frozen za.out 3; have hfz3_4 := blk_frozen za.out 4; have hfz3_5 := blk_frozen za.out 5; have hfz3_6 := blk_frozen za.out 6; have hfz3_7 := blk_frozen za.out 7; have hfz3_8 := blk_frozen za.out 8; have hfz3_9 := blk_frozen za.out 9; have hfz3_10 := blk_frozen za.out 10; have hfz3_11 := blk_frozen za.out 11; have hfz3_12 := blk_frozen za.out 12; have hfz3_13 := blk_frozen za.out 13; have hfz3_14 := blk_frozen za.out 14; have hfz3_15 := blk_frozen za.out 15; have hfz3_16 := blk_frozen za.out 16) | ((with_reducible refine gate_dst (N := 15) rfl ?_); refine Kd.R_lit (Kd.int .i64) _ 3 ?hg (N := 15) ?hd (xs := ([a0_0, a0_1, a0_2] : List Int)) (inner := [.int .i64 a0_0, .int .i64 a0_1, .int .i64 a0_2]) (ok := fun _ => True) (okp := fun _ => True) ?hr ?hp (fun _ hk => hk) trivial (Below.refl _ _) (Nat.le_refl _) (by simp) ?_; (case hd => rfl); (case hg => rfl); (case hr => first | (go_simp; done) | (go_simp; rfl)); (case hp => exact (Reps.one (show Kd.M (Kd.int .i64) _ _ _ a0_0 [.int .i64 a0_0] from rfl) (Reps.one (show Kd.M (Kd.int .i64) _ _ _ a0_1 [.int .i64 a0_1] from rfl) (Reps.one (show Kd.M (Kd.int .i64) _ _ _ a0_2 [.int .i64 a0_2] from rfl) (Reps.none _ _))))); intro v149 w4 ho5 hb hg_ hnew_; clear hg_ hnew_; (first | rw [← zbm.out] at ho5 | (simp only [Int.reduceToNat] at ho5; rw [← zbm.out] at ho5)); have zbn := aM (Kd.R_lower ho5 (below_size (qB1 HB zc))); replace za := bK za hb; replace HB := bS (qB1 HB zc) hb; clear hb ho5; obtain ⟨Ao6, co6, eo6⟩ := Kd.R_slice zbn.out; subst eo6))
 go_loopg [3, 18] k (fun kq v3 v18 w' => ∃ (x3_1 : List Int) (x18_1 : Int), v18 = .int .i64 x18_1 ∧ Aside0 (gradineref45_command.l0 kq x3_1 zj (zj.length : Int) x18_1 a0_0 a0_1 a0_2 l0_3 a0_4 a0_5 a0_6 a0_7 a0_8 a0_9 a0_10 a0_11 a0_12 l0_13 l0_14 l0_15 a0_16 = some r) ∧ Aside0 (kq ≤ k) ∧ Aside0 (Kd.R (Kd.int .u8) 5 w' w.heap.size (fun _ => True) v3 x3_1) ∧ Aside0 (Kd.R (Kd.int .i64) 3 w' w.heap.size (fun _ => True) (.slice Ao6 zj.length co6) zj) ∧ Aside0 (w'.heap[zb]? = some (.cells #[.int .i64 a0_0, .int .i64 a0_1, .int .i64 a0_2, (.slice A0_3 l0_3.length c0_3), .int .i64 a0_4, .int .i64 a0_5, .int .i64 a0_6, .int .i64 a0_7, .int .i64 a0_8, .int .i64 a0_9, .int .i64 a0_10, .int .i64 a0_11, .bool a0_12, (.slice A0_13 l0_13.length c0_13), (.slice A0_14 l0_14.length c0_14), (.slice A0_15 l0_15.length c0_15), .bool a0_16] 45 (0, 0))) ∧ Aside0 (Below w.heap.size w w'))
 case atStart => exact ⟨(([] : List Int)), (0), (pF), H', ⟨Nat.le_refl _⟩, ⟨pN⟩, ⟨pR zbn.out⟩, ⟨pK za.out⟩, ⟨qB1 HB zc⟩⟩
 case round =>
  clear H'
  try clear hcz3_0 hcz3_1 hcz3_10 hcz3_11 hcz3_12 hcz3_13 hcz3_14 hcz3_15 hcz3_16 hcz3_2 hcz3_3 hcz3_4 hcz3_5 hcz3_6 hcz3_7 hcz3_8 hcz3_9 hfz3_0 hfz3_1 hfz3_10 hfz3_11 hfz3_12 hfz3_13 hfz3_14 hfz3_15 hfz3_16 hfz3_2 hfz3_3 hfz3_4 hfz3_5 hfz3_6 hfz3_7 hfz3_8 hfz3_9
  obtain ⟨x3_1, x18_1, rfl, HA, HK1, zd, zab, za, HB⟩ := hrel
  cases gk with
  | zero => exact absurd HA.out (by simp [gradineref45_command.l0])
  | succ k1 =>
   have H := HA.out
   clear HA
   simp only [gradineref45_command.l0] at H
   by_cases c7 : x18_1 < (zj.length : Int)
   ·rw [if_pos c7] at H
    have zbu : decide (x18_1 < (zj.length : Int)) = true := decide_eq_true c7
    clear c7
    by_cases c8 : 0 ≤ x18_1
    rotate_left
    ·rw [if_neg c8] at H
     exact absurd H (by simp)
    rw [if_pos c8] at H
    have c8b0 : decide (0 ≤ x18_1) = true := decide_eq_true c8
    clear c8
    by_cases c9 : x18_1 < (zj.length : Int)
    rotate_left
    ·rw [if_neg c9] at H
     exact absurd H (by simp)
    rw [if_pos c9] at H
    have c9b0 : decide (x18_1 < (zj.length : Int)) = true := decide_eq_true c9
    clear c9
    replace H := Option.bind_eq_some_iff.mp H
    obtain ⟨zao, zbv, H⟩ := H
    try dsimp only at H
    have A10 := aM zbv
    clear zbv
    by_cases c11 : x3_1.length + zao.length < 140737488355328
    rotate_left
    ·rw [if_neg c11] at H
     exact absurd H (by simp)
    rw [if_pos c11] at H
    have LMc11 := aM c11
    clear c11
    obtain ⟨zbw, za5⟩ : ∃ y_ : List Int, y_ = (x3_1 ++ zao) := ⟨_, rfl⟩
    replace H : (gradineref45_command.l0 k1 zbw zj (zj.length : Int) (wrap64 (x18_1 + 1)) a0_0 a0_1 a0_2 l0_3 a0_4 a0_5 a0_6 a0_7 a0_8 a0_9 a0_10 a0_11 a0_12 l0_13 l0_14 l0_15 a0_16) = some r := pH za5 H
    have Ny155 := aM za5
    clear za5
    have H' := aM H
    clear H
    have p151 : 0 ≤ (x18_1 : Int) := of_decide_eq_true pD
    have q151 : x18_1 < (zj.length : Int) := of_decide_eq_true pD
    obtain ⟨ad151, e151, hx151_0⟩ := Kd.at_int (Kd.R_reads' zab.out).2.2 x18_1 p151 q151
    cases e151
    replace p151 := eq_true p151
    replace q151 := eq_true q151
    go_wp2_with (first | ((with_reducible refine gate_callee (f := 17) rfl ?_); refine goesL_ (some 26) rfl rfl Try.func17 (by kernel_rfl) rfl #[.int .i64 (rd zj x18_1)] rfl pA ?_; (with_reducible refine (gradineref45_Number.calls k1 (rd zj x18_1) zao _ A10.out).mono ?_); rintro e w12 ⟨v153, rfl, ho0, hb⟩; refine ⟨_, rfl, ?_⟩; replace zab := bR zab hb; have zau := aM (Kd.R_lower (Kd.R_new' ho0 (Kd.R_lt (pR zd.out))) (below_size (qB1 HB zc))); replace zd := eR zd ho0 hb; replace za := bK za hb; replace HB := bS (qB1 HB zc) hb; (try clear hb); (try clear hk); (try clear hi); (try clear ho0); obtain ⟨Ao14, co14, eo14⟩ := Kd.R_slice zau.out; subst eo14) | ((with_reducible refine gate_builtin (b := .append) (xs := #[.tmp 21, .tmp 26]) rfl ?_); at_builtin; refine Kd.R_append_rows (Kd.int .u8) (w0 := w) w.heap.size rfl (.tmp 21) (.tmp 26) 25 5 (.int .u8 0) 1 rfl Try.underlying25 info5 rfl (by decide) (by omega) u3 x3_1 zao _ _ _ (fun k_ => some k_ ≠ (.slice Ao14 zao.length co14 : Value).ownBlock) (fun _ => False) rfl rfl ?aO ?aR (fun _ _ h => h) (fun _ h => h.elim) ?aF ?aB ?aS ?aL ?_; (case aR => exact sR zau); (case aB => exact (qB1 HB zc)); (case aF => exact (fun k_ hk => Kd.fresh' (Kd.R_lt (pR zau.out)) k_ hk)); (case aO => exact (by (with_reducible repeat (first | apply rA | apply rN | apply rD)); exact Kd.R_mono zd.out (fun _ hk => hk.2))); (case aS => exact (below_size (qB1 HB zc))); (case aL => have := LMc11.out; omega); intro v156 w13 ho hb hg hat; rw [← Ny155.out] at ho; replace zab := aM (Kd.R_over' (pR zab.out) (Kd.R_typed (pR zd.out)) (by decide) hg); replace za := aM (blk_grown (g := zb) (pK za.out) hg (Kd.R_ne zd.out za.out (by decide))); replace zau := aM (Kd.R_after (ok := (fun _ => True)) (pR zau.out) hg hat); replace HB := aM (hb); have HO157 := aM (ho); clear zd; clear ho hb hg hat))
    go_roundg k1
    case measure => have := HK1.out; omega
    case rel => exact ⟨(zbw), (wrap64 (x18_1 + 1)), (pF), H', ⟨by have := HK1.out; omega⟩, ⟨by (with_reducible repeat (first | apply rA | apply rN | apply rD)); exact Kd.R_mono HO157.out (fun _ hk => trivial)⟩, ⟨pR zab.out⟩, ⟨pK za.out⟩, ⟨qB1 HB zc⟩⟩
   rw [if_neg c7] at H
   have zbu : decide (x18_1 < (zj.length : Int)) = false := decide_eq_false c7
   clear c7
   replace H := Option.bind_eq_some_iff.mp H
   obtain ⟨zap, zbx, H⟩ := H
   try dsimp only at H
   have A15 := aM zbx
   clear zbx
   by_cases c16 : x3_1.length + zap.length < 140737488355328
   rotate_left
   ·rw [if_neg c16] at H
    exact absurd H (by simp)

   rw [if_pos c16] at H
   have LMc16 := aM c16
   clear c16
   obtain ⟨zbr, za6⟩ : ∃ y_ : List Int, y_ = (x3_1 ++ zap) := ⟨_, rfl⟩
   replace H : ((some (([a0_4, a0_5, a0_6, a0_7, a0_8, a0_9, a0_10, a0_11] : List Int) : List Int)).bind fun zi => (gradineref45_command.l1 k1 zbr zi (zi.length : Int) 0 a0_0 a0_1 a0_2 l0_3 a0_4 a0_5 a0_6 a0_7 a0_8 a0_9 a0_10 a0_11 a0_12 l0_13 l0_14 l0_15 a0_16)) = some r := pH za6 H
   have Ny161 := aM za6
   clear za6
   obtain ⟨zi, za7⟩ : ∃ y_ : List Int, y_ = (([a0_4, a0_5, a0_6, a0_7, a0_8, a0_9, a0_10, a0_11] : List Int)) := ⟨_, rfl⟩
   replace H : (gradineref45_command.l1 k1 zbr zi (zi.length : Int) 0 a0_0 a0_1 a0_2 l0_3 a0_4 a0_5 a0_6 a0_7 a0_8 a0_9 a0_10 a0_11 a0_12 l0_13 l0_14 l0_15 a0_16) = some r := pH za7 H
   have zbo := aM za7
   clear za7
   have H' := aM H
   clear H
   have hcz17_0 : wr.cell? ⟨zb, 0, none⟩ = some (.int .i64 a0_0) := (blk_cell za.out 0).trans rfl
   have hcz17_1 : wr.cell? ⟨zb, 1, none⟩ = some (.int .i64 a0_1) := (blk_cell za.out 1).trans rfl
   have hcz17_2 : wr.cell? ⟨zb, 2, none⟩ = some (.int .i64 a0_2) := (blk_cell za.out 2).trans rfl
   have hcz17_3 : wr.cell? ⟨zb, 3, none⟩ = some (.slice A0_3 l0_3.length c0_3) := (blk_cell za.out 3).trans rfl
   have hcz17_4 : wr.cell? ⟨zb, 4, none⟩ = some (.int .i64 a0_4) := (blk_cell za.out 4).trans rfl
   have hcz17_5 : wr.cell? ⟨zb, 5, none⟩ = some (.int .i64 a0_5) := (blk_cell za.out 5).trans rfl
   have hcz17_6 : wr.cell? ⟨zb, 6, none⟩ = some (.int .i64 a0_6) := (blk_cell za.out 6).trans rfl
   have hcz17_7 : wr.cell? ⟨zb, 7, none⟩ = some (.int .i64 a0_7) := (blk_cell za.out 7).trans rfl
   have hcz17_8 : wr.cell? ⟨zb, 8, none⟩ = some (.int .i64 a0_8) := (blk_cell za.out 8).trans rfl
   have hcz17_9 : wr.cell? ⟨zb, 9, none⟩ = some (.int .i64 a0_9) := (blk_cell za.out 9).trans rfl
   have hcz17_10 : wr.cell? ⟨zb, 10, none⟩ = some (.int .i64 a0_10) := (blk_cell za.out 10).trans rfl
   have hcz17_11 : wr.cell? ⟨zb, 11, none⟩ = some (.int .i64 a0_11) := (blk_cell za.out 11).trans rfl
   have hcz17_12 : wr.cell? ⟨zb, 12, none⟩ = some (.bool a0_12) := (blk_cell za.out 12).trans rfl
   have hcz17_13 : wr.cell? ⟨zb, 13, none⟩ = some (.slice A0_13 l0_13.length c0_13) := (blk_cell za.out 13).trans rfl
   have hcz17_14 : wr.cell? ⟨zb, 14, none⟩ = some (.slice A0_14 l0_14.length c0_14) := (blk_cell za.out 14).trans rfl
   have hcz17_15 : wr.cell? ⟨zb, 15, none⟩ = some (.slice A0_15 l0_15.length c0_15) := (blk_cell za.out 15).trans rfl
   have hcz17_16 : wr.cell? ⟨zb, 16, none⟩ = some (.bool a0_16) := (blk_cell za.out 16).trans rfl
   have hfz17_0 := blk_frozen za.out 0
   have hfz17_1 := blk_frozen za.out 1
   have hfz17_2 := blk_frozen za.out 2
   have hfz17_3 := blk_frozen za.out 3
   have hfz17_4 := blk_frozen za.out 4
   have hfz17_5 := blk_frozen za.out 5
   have hfz17_6 := blk_frozen za.out 6
   have hfz17_7 := blk_frozen za.out 7
   have hfz17_8 := blk_frozen za.out 8
   have hfz17_9 := blk_frozen za.out 9
   have hfz17_10 := blk_frozen za.out 10
   have hfz17_11 := blk_frozen za.out 11
   have hfz17_12 := blk_frozen za.out 12
   have hfz17_13 := blk_frozen za.out 13
   have hfz17_14 := blk_frozen za.out 14
   have hfz17_15 := blk_frozen za.out 15
   have hfz17_16 := blk_frozen za.out 16
   go_wp2_with (first | ((with_reducible refine gate_callee (f := 29) rfl ?_); refine goesL_ (some 32) rfl rfl Try.func29 (by kernel_rfl) rfl #[.slice A0_3 l0_3.length c0_3] rfl pA ?_; (with_reducible refine (gradineref45_List.calls k1 _ _ l0_3 zap _ ?s1 ?s2 A15.out).mono ?_); (case s1 => exact sC HR0_3 HB); (case s2 => exact HC0_3.out); rintro e w18 ⟨v159, rfl, ho0, hb⟩; refine ⟨_, rfl, ?_⟩; replace zab := bR zab hb; have zae := aM (Kd.R_lower (Kd.R_new' ho0 (Kd.R_lt (pR zd.out))) (below_size (qB1 HB zc))); replace zd := eR zd ho0 hb; replace za := bK za hb; replace HB := bS (qB1 HB zc) hb; (try clear hb); (try clear hk); (try clear hi); (try clear ho0); obtain ⟨Ao20, co20, eo20⟩ := Kd.R_slice zae.out; subst eo20) | ((with_reducible refine gate_builtin (b := .append) (xs := #[.tmp 29, .tmp 32]) rfl ?_); at_builtin; refine Kd.R_append_rows (Kd.int .u8) (w0 := w) w.heap.size rfl (.tmp 29) (.tmp 32) 25 5 (.int .u8 0) 1 rfl Try.underlying25 info5 rfl (by decide) (by omega) u3 x3_1 zap _ _ _ (fun k_ => some k_ ≠ (.slice Ao20 zap.length co20 : Value).ownBlock) (fun _ => False) rfl rfl ?aO ?aR (fun _ _ h => h) (fun _ h => h.elim) ?aF ?aB ?aS ?aL ?_; (case aR => exact sR zae); (case aB => exact (qB1 HB zc)); (case aF => exact (fun k_ hk => Kd.fresh' (Kd.R_lt (pR zae.out)) k_ hk)); (case aO => exact (by (with_reducible repeat (first | apply rA | apply rN | apply rD)); exact Kd.R_mono zd.out (fun _ hk => hk.2))); (case aS => exact (below_size (qB1 HB zc))); (case aL => have := LMc16.out; omega); intro v162 w19 ho hb hg hat; rw [← Ny161.out] at ho; replace zab := aM (Kd.R_over' (pR zab.out) (Kd.R_typed (pR zd.out)) (by decide) hg); replace za := aM (blk_grown (g := zb) (pK za.out) hg (Kd.R_ne zd.out za.out (by decide))); replace zae := aM (Kd.R_after (ok := (fun _ => True)) (pR zae.out) hg hat); replace HB := aM (hb); have za8 := aM (ho); clear zd; clear ho hb hg hat; have hcz21_0 : w19.cell? ⟨zb, 0, none⟩ = some (.int .i64 a0_0) := (blk_cell za.out 0).trans rfl; have hcz21_1 : w19.cell? ⟨zb, 1, none⟩ = some (.int .i64 a0_1) := (blk_cell za.out 1).trans rfl; have hcz21_2 : w19.cell? ⟨zb, 2, none⟩ = some (.int .i64 a0_2) := (blk_cell za.out 2).trans rfl; have hcz21_3 : w19.cell? ⟨zb, 3, none⟩ = some (.slice A0_3 l0_3.length c0_3) := (blk_cell za.out 3).trans rfl; have hcz21_4 : w19.cell? ⟨zb, 4, none⟩ = some (.int .i64 a0_4) := (blk_cell za.out 4).trans rfl; have hcz21_5 : w19.cell? ⟨zb, 5, none⟩ = some (.int .i64 a0_5) := (blk_cell za.out 5).trans rfl; have hcz21_6 : w19.cell? ⟨zb, 6, none⟩ = some (.int .i64 a0_6) := (blk_cell za.out 6).trans rfl; have hcz21_7 : w19.cell? ⟨zb, 7, none⟩ = some (.int .i64 a0_7) := (blk_cell za.out 7).trans rfl; have hcz21_8 : w19.cell? ⟨zb, 8, none⟩ = some (.int .i64 a0_8) := (blk_cell za.out 8).trans rfl; have hcz21_9 : w19.cell? ⟨zb, 9, none⟩ = some (.int .i64 a0_9) := (blk_cell za.out 9).trans rfl; have hcz21_10 : w19.cell? ⟨zb, 10, none⟩ = some (.int .i64 a0_10) := (blk_cell za.out 10).trans rfl; have hcz21_11 : w19.cell? ⟨zb, 11, none⟩ = some (.int .i64 a0_11) := (blk_cell za.out 11).trans rfl; have hcz21_12 : w19.cell? ⟨zb, 12, none⟩ = some (.bool a0_12) := (blk_cell za.out 12).trans rfl; have hcz21_13 : w19.cell? ⟨zb, 13, none⟩ = some (.slice A0_13 l0_13.length c0_13) := (blk_cell za.out 13).trans rfl; have hcz21_14 : w19.cell? ⟨zb, 14, none⟩ = some (.slice A0_14 l0_14.length c0_14) := (blk_cell za.out 14).trans rfl; have hcz21_15 : w19.cell? ⟨zb, 15, none⟩ = some (.slice A0_15 l0_15.length c0_15) := (blk_cell za.out 15).trans rfl; have hcz21_16 : w19.cell? ⟨zb, 16, none⟩ = some (.bool a0_16) := (blk_cell za.out 16).trans rfl; have hfz21_0 := blk_frozen za.out 0; have hfz21_1 := blk_frozen za.out 1; have hfz21_2 := blk_frozen za.out 2; have hfz21_3 := blk_frozen za.out 3; have hfz21_4 := blk_frozen za.out 4; have hfz21_5 := blk_frozen za.out 5; have hfz21_6 := blk_frozen za.out 6; have hfz21_7 := blk_frozen za.out 7; have hfz21_8 := blk_frozen za.out 8; have hfz21_9 := blk_frozen za.out 9; have hfz21_10 := blk_frozen za.out 10; have hfz21_11 := blk_frozen za.out 11; have hfz21_12 := blk_frozen za.out 12; have hfz21_13 := blk_frozen za.out 13; have hfz21_14 := blk_frozen za.out 14; have hfz21_15 := blk_frozen za.out 15; have hfz21_16 := blk_frozen za.out 16) | ((with_reducible refine gate_dst (N := 58) rfl ?_); refine Kd.R_lit (Kd.int .i64) _ 3 ?hg (N := 58) ?hd (xs := ([a0_4, a0_5, a0_6, a0_7, a0_8, a0_9, a0_10, a0_11] : List Int)) (inner := [.int .i64 a0_4, .int .i64 a0_5, .int .i64 a0_6, .int .i64 a0_7, .int .i64 a0_8, .int .i64 a0_9, .int .i64 a0_10, .int .i64 a0_11]) (ok := fun _ => True) (okp := fun _ => True) ?hr ?hp (fun _ hk => hk) trivial (Below.refl _ _) (Nat.le_refl _) (by simp) ?_; (case hd => rfl); (case hg => rfl); (case hr => first | (go_simp; done) | (go_simp; rfl)); (case hp => exact (Reps.one (show Kd.M (Kd.int .i64) _ _ _ a0_4 [.int .i64 a0_4] from rfl) (Reps.one (show Kd.M (Kd.int .i64) _ _ _ a0_5 [.int .i64 a0_5] from rfl) (Reps.one (show Kd.M (Kd.int .i64) _ _ _ a0_6 [.int .i64 a0_6] from rfl) (Reps.one (show Kd.M (Kd.int .i64) _ _ _ a0_7 [.int .i64 a0_7] from rfl) (Reps.one (show Kd.M (Kd.int .i64) _ _ _ a0_8 [.int .i64 a0_8] from rfl) (Reps.one (show Kd.M (Kd.int .i64) _ _ _ a0_9 [.int .i64 a0_9] from rfl) (Reps.one (show Kd.M (Kd.int .i64) _ _ _ a0_10 [.int .i64 a0_10] from rfl) (Reps.one (show Kd.M (Kd.int .i64) _ _ _ a0_11 [.int .i64 a0_11] from rfl) (Reps.none _ _)))))))))); intro v165 w22 ho23 hb hg_ hnew_; clear hg_ hnew_; (first | rw [← zbo.out] at ho23 | (simp only [Int.reduceToNat] at ho23; rw [← zbo.out] at ho23)); replace zae := bR zae hb; replace za8 := bR za8 hb; have zbp := aM (Kd.R_lower (Kd.R_new' ho23 (Kd.R_lt (pR zab.out))) (below_size (qB1 HB zc))); replace zab := eR zab ho23 hb; replace za := bK za hb; replace HB := bS (qB1 HB zc) hb; clear hb ho23; obtain ⟨Ao24, co24, eo24⟩ := Kd.R_slice zbp.out; subst eo24))
   go_loopg [3, 61] k1 (fun kq v3 v61 w' => ∃ (x3_2 : List Int) (x61_2 : Int), v61 = .int .i64 x61_2 ∧ Aside0 (gradineref45_command.l1 kq x3_2 zi (zi.length : Int) x61_2 a0_0 a0_1 a0_2 l0_3 a0_4 a0_5 a0_6 a0_7 a0_8 a0_9 a0_10 a0_11 a0_12 l0_13 l0_14 l0_15 a0_16 = some r) ∧ Aside0 (kq ≤ k1) ∧ Aside0 (Kd.R (Kd.int .u8) 5 w' w.heap.size (fun _ => True) v3 x3_2) ∧ Aside0 (Kd.R (Kd.int .i64) 3 w' w.heap.size (fun _ => True) (.slice Ao24 zi.length co24) zi) ∧ Aside0 (w'.heap[zb]? = some (.cells #[.int .i64 a0_0, .int .i64 a0_1, .int .i64 a0_2, (.slice A0_3 l0_3.length c0_3), .int .i64 a0_4, .int .i64 a0_5, .int .i64 a0_6, .int .i64 a0_7, .int .i64 a0_8, .int .i64 a0_9, .int .i64 a0_10, .int .i64 a0_11, .bool a0_12, (.slice A0_13 l0_13.length c0_13), (.slice A0_14 l0_14.length c0_14), (.slice A0_15 l0_15.length c0_15), .bool a0_16] 45 (0, 0))) ∧ Aside0 (Below w.heap.size w w'))
   case atStart => exact ⟨(zbr), (0), (pF), H', ⟨Nat.le_refl _⟩, ⟨by (with_reducible repeat (first | apply rA | apply rN | apply rD)); exact Kd.R_mono za8.out (fun _ hk => trivial)⟩, ⟨by (with_reducible repeat (first | apply rA | apply rN | apply rD)); exact Kd.R_mono zbp.out (fun _ hk => trivial)⟩, ⟨pK za.out⟩, ⟨qB1 HB zc⟩⟩
   case round =>
    clear H'
    try clear zbu
    try clear hcz17_0 hcz17_1 hcz17_10 hcz17_11 hcz17_12 hcz17_13 hcz17_14 hcz17_15 hcz17_16 hcz17_2 hcz17_3 hcz17_4 hcz17_5 hcz17_6 hcz17_7 hcz17_8 hcz17_9 hcz21_0 hcz21_1 hcz21_10 hcz21_11 hcz21_12 hcz21_13 hcz21_14 hcz21_15 hcz21_16 hcz21_2 hcz21_3 hcz21_4 hcz21_5 hcz21_6 hcz21_7 hcz21_8 hcz21_9 hfz17_0 hfz17_1 hfz17_10 hfz17_11 hfz17_12 hfz17_13 hfz17_14 hfz17_15 hfz17_16 hfz17_2 hfz17_3 hfz17_4 hfz17_5 hfz17_6 hfz17_7 hfz17_8 hfz17_9 hfz21_0 hfz21_1 hfz21_10 hfz21_11 hfz21_12 hfz21_13 hfz21_14 hfz21_15 hfz21_16 hfz21_2 hfz21_3 hfz21_4 hfz21_5 hfz21_6 hfz21_7 hfz21_8 hfz21_9
    obtain ⟨x3_2, x61_2, rfl, HA, HK2, zd, zk, za, HB⟩ := hrel
    cases gk with
    | zero => exact absurd HA.out (by simp [gradineref45_command.l1])
    | succ k2 =>
     have H := HA.out
     clear HA
     simp only [gradineref45_command.l1] at H
     by_cases c25 : x61_2 < (zi.length : Int)
     ·rw [if_pos c25] at H
      have zbq : decide (x61_2 < (zi.length : Int)) = true := decide_eq_true c25
      clear c25
      by_cases c26 : 0 ≤ x61_2
      rotate_left
      ·rw [if_neg c26] at H
       exact absurd H (by simp)
      rw [if_pos c26] at H
      have c26b0 : decide (0 ≤ x61_2) = true := decide_eq_true c26
      clear c26
      by_cases c27 : x61_2 < (zi.length : Int)
      rotate_left
      ·rw [if_neg c27] at H
       exact absurd H (by simp)
      rw [if_pos c27] at H
      have c27b0 : decide (x61_2 < (zi.length : Int)) = true := decide_eq_true c27
      clear c27
      replace H := Option.bind_eq_some_iff.mp H
      obtain ⟨zaq, zby, H⟩ := H
      try dsimp only at H
      have A28 := aM zby
      clear zby
      by_cases c29 : x3_2.length + zaq.length < 140737488355328
      rotate_left
      ·rw [if_neg c29] at H
       exact absurd H (by simp)
      rw [if_pos c29] at H
      have LMc29 := aM c29
      clear c29
      obtain ⟨zbz, za9⟩ : ∃ y_ : List Int, y_ = (x3_2 ++ zaq) := ⟨_, rfl⟩
      replace H : (gradineref45_command.l1 k2 zbz zi (zi.length : Int) (wrap64 (x61_2 + 1)) a0_0 a0_1 a0_2 l0_3 a0_4 a0_5 a0_6 a0_7 a0_8 a0_9 a0_10 a0_11 a0_12 l0_13 l0_14 l0_15 a0_16) = some r := pH za9 H
      have Ny171 := aM za9
      clear za9
      have H' := aM H
      clear H
      have p167 : 0 ≤ (x61_2 : Int) := of_decide_eq_true pD
      have q167 : x61_2 < (zi.length : Int) := of_decide_eq_true pD
      obtain ⟨ad167, e167, hx167_0⟩ := Kd.at_int (Kd.R_reads' zk.out).2.2 x61_2 p167 q167
      cases e167
      replace p167 := eq_true p167
      replace q167 := eq_true q167
      go_wp2_with (first | ((with_reducible refine gate_callee (f := 17) rfl ?_); refine goesL_ (some 69) rfl rfl Try.func17 (by kernel_rfl) rfl #[.int .i64 (rd zi x61_2)] rfl pA ?_; (with_reducible refine (gradineref45_Number.calls k2 (rd zi x61_2) zaq _ A28.out).mono ?_); rintro e w30 ⟨v169, rfl, ho0, hb⟩; refine ⟨_, rfl, ?_⟩; replace zk := bR zk hb; have zav := aM (Kd.R_lower (Kd.R_new' ho0 (Kd.R_lt (pR zd.out))) (below_size (qB1 HB zc))); replace zd := eR zd ho0 hb; replace za := bK za hb; replace HB := bS (qB1 HB zc) hb; (try clear hb); (try clear hk); (try clear hi); (try clear ho0); obtain ⟨Ao32, co32, eo32⟩ := Kd.R_slice zav.out; subst eo32) | ((with_reducible refine gate_builtin (b := .append) (xs := #[.tmp 64, .tmp 69]) rfl ?_); at_builtin; refine Kd.R_append_rows (Kd.int .u8) (w0 := w) w.heap.size rfl (.tmp 64) (.tmp 69) 25 5 (.int .u8 0) 1 rfl Try.underlying25 info5 rfl (by decide) (by omega) u3 x3_2 zaq _ _ _ (fun k_ => some k_ ≠ (.slice Ao32 zaq.length co32 : Value).ownBlock) (fun _ => False) rfl rfl ?aO ?aR (fun _ _ h => h) (fun _ h => h.elim) ?aF ?aB ?aS ?aL ?_; (case aR => exact sR zav); (case aB => exact (qB1 HB zc)); (case aF => exact (fun k_ hk => Kd.fresh' (Kd.R_lt (pR zav.out)) k_ hk)); (case aO => exact (by (with_reducible repeat (first | apply rA | apply rN | apply rD)); exact Kd.R_mono zd.out (fun _ hk => hk.2))); (case aS => exact (below_size (qB1 HB zc))); (case aL => have := LMc29.out; omega); intro v172 w31 ho hb hg hat; rw [← Ny171.out] at ho; replace zk := aM (Kd.R_over' (pR zk.out) (Kd.R_typed (pR zd.out)) (by decide) hg); replace za := aM (blk_grown (g := zb) (pK za.out) hg (Kd.R_ne zd.out za.out (by decide))); replace zav := aM (Kd.R_after (ok := (fun _ => True)) (pR zav.out) hg hat); replace HB := aM (hb); have HO173 := aM (ho); clear zd; clear ho hb hg hat))
      go_roundg k2
      case measure => have := HK1.out; have := HK2.out; omega
      case rel => exact ⟨(zbz), (wrap64 (x61_2 + 1)), (pF), H', ⟨by have := HK1.out; have := HK2.out; omega⟩, ⟨by (with_reducible repeat (first | apply rA | apply rN | apply rD)); exact Kd.R_mono HO173.out (fun _ hk => trivial)⟩, ⟨pR zk.out⟩, ⟨pK za.out⟩, ⟨qB1 HB zc⟩⟩
     rw [if_neg c25] at H
     have zbq : decide (x61_2 < (zi.length : Int)) = false := decide_eq_false c25
     clear c25
     replace H := Option.bind_eq_some_iff.mp H
     obtain ⟨z4, zb0, H⟩ := H
     try dsimp only at H
     have A33 := aM zb0
     clear zb0
     by_cases c34 : x3_2.length + z4.length < 140737488355328
     rotate_left
     ·rw [if_neg c34] at H
      exact absurd H (by simp)
     rw [if_pos c34] at H
     have LMc34 := aM c34
     clear c34
     obtain ⟨zar, zba⟩ : ∃ y_ : List Int, y_ = (x3_2 ++ z4) := ⟨_, rfl⟩
     replace H : ((gradineref45_List.f k2 l0_13).bind fun z3 => (if zar.length + z3.length < 140737488355328 then ((some (zar ++ z3 : List Int)).bind fun zac => ((gradineref45_List.f k2 l0_14).bind fun zy => (if zac.length + zy.length < 140737488355328 then ((some (zac ++ zy : List Int)).bind fun z9 => ((gradineref45_Number.f k2 (l0_15.length : Int)).bind fun zz => (if z9.length + zz.length < 140737488355328 then (gradineref45_command.l2 k2 (z9 ++ zz) (l0_15.length : Int) 0 a0_0 a0_1 a0_2 l0_3 a0_4 a0_5 a0_6 a0_7 a0_8 a0_9 a0_10 a0_11 a0_12 l0_13 l0_14 l0_15 a0_16) else (none)))) else (none)))) else (none))) = some r := pH zba H
     have Ny177 := aM zba
     clear zba
     replace H := Option.bind_eq_some_iff.mp H
     obtain ⟨z3, zb1, H⟩ := H
     try dsimp only at H
     have A35 := aM zb1
     clear zb1
     by_cases c36 : zar.length + z3.length < 140737488355328
     rotate_left
     ·rw [if_neg c36] at H
      exact absurd H (by simp)
     rw [if_pos c36] at H
     have LMc36 := aM c36
     clear c36
     obtain ⟨zac, zbb⟩ : ∃ y_ : List Int, y_ = (zar ++ z3) := ⟨_, rfl⟩
     replace H : ((gradineref45_List.f k2 l0_14).bind fun zy => (if zac.length + zy.length < 140737488355328 then ((some (zac ++ zy : List Int)).bind fun z9 => ((gradineref45_Number.f k2 (l0_15.length : Int)).bind fun zz => (if z9.length + zz.length < 140737488355328 then (gradineref45_command.l2 k2 (z9 ++ zz) (l0_15.length : Int) 0 a0_0 a0_1 a0_2 l0_3 a0_4 a0_5 a0_6 a0_7 a0_8 a0_9 a0_10 a0_11 a0_12 l0_13 l0_14 l0_15 a0_16) else (none)))) else (none))) = some r := pH zbb H
     have Ny183 := aM zbb
     clear zbb
     replace H := Option.bind_eq_some_iff.mp H
     obtain ⟨zy, zb2, H⟩ := H
     try dsimp only at H
     have A37 := aM zb2
     clear zb2
     by_cases c38 : zac.length + zy.length < 140737488355328
     rotate_left
     ·rw [if_neg c38] at H
      exact absurd H (by simp)
     rw [if_pos c38] at H
     have LMc38 := aM c38
     clear c38
     obtain ⟨z9, zbc⟩ : ∃ y_ : List Int, y_ = (zac ++ zy) := ⟨_, rfl⟩
     replace H : ((gradineref45_Number.f k2 (l0_15.length : Int)).bind fun zz => (if z9.length + zz.length < 140737488355328 then (gradineref45_command.l2 k2 (z9 ++ zz) (l0_15.length : Int) 0 a0_0 a0_1 a0_2 l0_3 a0_4 a0_5 a0_6 a0_7 a0_8 a0_9 a0_10 a0_11 a0_12 l0_13 l0_14 l0_15 a0_16) else (none))) = some r := pH zbc H
     have Ny189 := aM zbc
     clear zbc
     replace H := Option.bind_eq_some_iff.mp H
     obtain ⟨zz, zb3, H⟩ := H
     try dsimp only at H
     have A39 := aM zb3
     clear zb3
     by_cases c40 : z9.length + zz.length < 140737488355328
     rotate_left
     ·rw [if_neg c40] at H
      exact absurd H (by simp)
     rw [if_pos c40] at H
     have LMc40 := aM c40
     clear c40
     obtain ⟨zb4, zbd⟩ : ∃ y_ : List Int, y_ = (z9 ++ zz) := ⟨_, rfl⟩
     replace H : (gradineref45_command.l2 k2 zb4 (l0_15.length : Int) 0 a0_0 a0_1 a0_2 l0_3 a0_4 a0_5 a0_6 a0_7 a0_8 a0_9 a0_10 a0_11 a0_12 l0_13 l0_14 l0_15 a0_16) = some r := pH zbd H
     have Ny195 := aM zbd
     clear zbd
     have H' := aM H
     clear H
     have hcz41_0 : wr.cell? ⟨zb, 0, none⟩ = some (.int .i64 a0_0) := (blk_cell za.out 0).trans rfl
     have hcz41_1 : wr.cell? ⟨zb, 1, none⟩ = some (.int .i64 a0_1) := (blk_cell za.out 1).trans rfl
     have hcz41_2 : wr.cell? ⟨zb, 2, none⟩ = some (.int .i64 a0_2) := (blk_cell za.out 2).trans rfl
     have hcz41_3 : wr.cell? ⟨zb, 3, none⟩ = some (.slice A0_3 l0_3.length c0_3) := (blk_cell za.out 3).trans rfl
     have hcz41_4 : wr.cell? ⟨zb, 4, none⟩ = some (.int .i64 a0_4) := (blk_cell za.out 4).trans rfl
     have hcz41_5 : wr.cell? ⟨zb, 5, none⟩ = some (.int .i64 a0_5) := (blk_cell za.out 5).trans rfl
     have hcz41_6 : wr.cell? ⟨zb, 6, none⟩ = some (.int .i64 a0_6) := (blk_cell za.out 6).trans rfl
     have hcz41_7 : wr.cell? ⟨zb, 7, none⟩ = some (.int .i64 a0_7) := (blk_cell za.out 7).trans rfl
     have hcz41_8 : wr.cell? ⟨zb, 8, none⟩ = some (.int .i64 a0_8) := (blk_cell za.out 8).trans rfl
     have hcz41_9 : wr.cell? ⟨zb, 9, none⟩ = some (.int .i64 a0_9) := (blk_cell za.out 9).trans rfl
     have hcz41_10 : wr.cell? ⟨zb, 10, none⟩ = some (.int .i64 a0_10) := (blk_cell za.out 10).trans rfl
     have hcz41_11 : wr.cell? ⟨zb, 11, none⟩ = some (.int .i64 a0_11) := (blk_cell za.out 11).trans rfl
     have hcz41_12 : wr.cell? ⟨zb, 12, none⟩ = some (.bool a0_12) := (blk_cell za.out 12).trans rfl
     have hcz41_13 : wr.cell? ⟨zb, 13, none⟩ = some (.slice A0_13 l0_13.length c0_13) := (blk_cell za.out 13).trans rfl
     have hcz41_14 : wr.cell? ⟨zb, 14, none⟩ = some (.slice A0_14 l0_14.length c0_14) := (blk_cell za.out 14).trans rfl
     have hcz41_15 : wr.cell? ⟨zb, 15, none⟩ = some (.slice A0_15 l0_15.length c0_15) := (blk_cell za.out 15).trans rfl
     have hcz41_16 : wr.cell? ⟨zb, 16, none⟩ = some (.bool a0_16) := (blk_cell za.out 16).trans rfl
     have hfz41_0 := blk_frozen za.out 0
     have hfz41_1 := blk_frozen za.out 1
     have hfz41_2 := blk_frozen za.out 2
     have hfz41_3 := blk_frozen za.out 3
     have hfz41_4 := blk_frozen za.out 4
     have hfz41_5 := blk_frozen za.out 5
     have hfz41_6 := blk_frozen za.out 6
     have hfz41_7 := blk_frozen za.out 7
     have hfz41_8 := blk_frozen za.out 8
     have hfz41_9 := blk_frozen za.out 9
     have hfz41_10 := blk_frozen za.out 10
     have hfz41_11 := blk_frozen za.out 11
     have hfz41_12 := blk_frozen za.out 12
     have hfz41_13 := blk_frozen za.out 13
     have hfz41_14 := blk_frozen za.out 14
     have hfz41_15 := blk_frozen za.out 15
     have hfz41_16 := blk_frozen za.out 16
     go_wp2_with (first | ((with_reducible refine gate_callee (f := 30) rfl ?_); refine goesL_ (some 76) rfl rfl Try.func30 (by kernel_rfl) rfl #[.bool a0_12] rfl pA ?_; (with_reducible refine (gradineref45_truth.calls a0_12 z4 _ A33.out).mono ?_); rintro e w42 ⟨v175, rfl, ho0, hb⟩; refine ⟨_, rfl, ?_⟩; replace zk := bR zk hb; have ze := aM (Kd.R_lower (Kd.R_new' ho0 (Kd.R_lt (pR zd.out))) (below_size (qB1 HB zc))); replace zd := eR zd ho0 hb; replace za := bK za hb; replace HB := bS (qB1 HB zc) hb; (try clear hb); (try clear hk); (try clear hi); (try clear ho0); obtain ⟨zai, zaj, eo44⟩ := Kd.R_slice ze.out; subst eo44) | ((with_reducible refine gate_builtin (b := .append) (xs := #[.tmp 72, .tmp 76]) rfl ?_); at_builtin; refine Kd.R_append_rows (Kd.int .u8) (w0 := w) w.heap.size rfl (.tmp 72) (.tmp 76) 25 5 (.int .u8 0) 1 rfl Try.underlying25 info5 rfl (by decide) (by omega) u3 x3_2 z4 _ _ _ (fun k_ => some k_ ≠ (.slice zai z4.length zaj : Value).ownBlock) (fun _ => False) rfl rfl ?aO ?aR (fun _ _ h => h) (fun _ h => h.elim) ?aF ?aB ?aS ?aL ?_; (case aR => exact sR ze); (case aB => exact (qB1 HB zc)); (case aF => exact (fun k_ hk => Kd.fresh' (Kd.R_lt (pR ze.out)) k_ hk)); (case aO => exact (by (with_reducible repeat (first | apply rA | apply rN | apply rD)); exact Kd.R_mono zd.out (fun _ hk => hk.2))); (case aS => exact (below_size (qB1 HB zc))); (case aL => have := LMc34.out; omega); intro v178 w43 ho hb hg hat; rw [← Ny177.out] at ho; replace zk := aM (Kd.R_over' (pR zk.out) (Kd.R_typed (pR zd.out)) (by decide) hg); replace za := aM (blk_grown (g := zb) (pK za.out) hg (Kd.R_ne zd.out za.out (by decide))); replace ze := aM (Kd.R_after (ok := (fun _ => True)) (pR ze.out) hg hat); replace HB := aM (hb); have zaf := aM (ho); clear zd; clear ho hb hg hat; have hcz45_0 : w43.cell? ⟨zb, 0, none⟩ = some (.int .i64 a0_0) := (blk_cell za.out 0).trans rfl; have hcz45_1 : w43.cell? ⟨zb, 1, none⟩ = some (.int .i64 a0_1) := (blk_cell za.out 1).trans rfl; have hcz45_2 : w43.cell? ⟨zb, 2, none⟩ = some (.int .i64 a0_2) := (blk_cell za.out 2).trans rfl; have hcz45_3 : w43.cell? ⟨zb, 3, none⟩ = some (.slice A0_3 l0_3.length c0_3) := (blk_cell za.out 3).trans rfl; have hcz45_4 : w43.cell? ⟨zb, 4, none⟩ = some (.int .i64 a0_4) := (blk_cell za.out 4).trans rfl; have hcz45_5 : w43.cell? ⟨zb, 5, none⟩ = some (.int .i64 a0_5) := (blk_cell za.out 5).trans rfl; have hcz45_6 : w43.cell? ⟨zb, 6, none⟩ = some (.int .i64 a0_6) := (blk_cell za.out 6).trans rfl; have hcz45_7 : w43.cell? ⟨zb, 7, none⟩ = some (.int .i64 a0_7) := (blk_cell za.out 7).trans rfl; have hcz45_8 : w43.cell? ⟨zb, 8, none⟩ = some (.int .i64 a0_8) := (blk_cell za.out 8).trans rfl; have hcz45_9 : w43.cell? ⟨zb, 9, none⟩ = some (.int .i64 a0_9) := (blk_cell za.out 9).trans rfl; have hcz45_10 : w43.cell? ⟨zb, 10, none⟩ = some (.int .i64 a0_10) := (blk_cell za.out 10).trans rfl; have hcz45_11 : w43.cell? ⟨zb, 11, none⟩ = some (.int .i64 a0_11) := (blk_cell za.out 11).trans rfl; have hcz45_12 : w43.cell? ⟨zb, 12, none⟩ = some (.bool a0_12) := (blk_cell za.out 12).trans rfl; have hcz45_13 : w43.cell? ⟨zb, 13, none⟩ = some (.slice A0_13 l0_13.length c0_13) := (blk_cell za.out 13).trans rfl; have hcz45_14 : w43.cell? ⟨zb, 14, none⟩ = some (.slice A0_14 l0_14.length c0_14) := (blk_cell za.out 14).trans rfl; have hcz45_15 : w43.cell? ⟨zb, 15, none⟩ = some (.slice A0_15 l0_15.length c0_15) := (blk_cell za.out 15).trans rfl; have hcz45_16 : w43.cell? ⟨zb, 16, none⟩ = some (.bool a0_16) := (blk_cell za.out 16).trans rfl; have hfz45_0 := blk_frozen za.out 0; have hfz45_1 := blk_frozen za.out 1; have hfz45_2 := blk_frozen za.out 2; have hfz45_3 := blk_frozen za.out 3; have hfz45_4 := blk_frozen za.out 4; have hfz45_5 := blk_frozen za.out 5; have hfz45_6 := blk_frozen za.out 6; have hfz45_7 := blk_frozen za.out 7; have hfz45_8 := blk_frozen za.out 8; have hfz45_9 := blk_frozen za.out 9; have hfz45_10 := blk_frozen za.out 10; have hfz45_11 := blk_frozen za.out 11; have hfz45_12 := blk_frozen za.out 12; have hfz45_13 := blk_frozen za.out 13; have hfz45_14 := blk_frozen za.out 14; have hfz45_15 := blk_frozen za.out 15; have hfz45_16 := blk_frozen za.out 16) | ((with_reducible refine gate_callee (f := 29) rfl ?_); refine goesL_ (some 82) rfl rfl Try.func29 (by kernel_rfl) rfl #[.slice A0_13 l0_13.length c0_13] rfl pA ?_; (with_reducible refine (gradineref45_List.calls k2 _ _ l0_13 z3 _ ?s1 ?s2 A35.out).mono ?_); (case s1 => exact sC HR0_13 HB); (case s2 => exact HC0_13.out); rintro e w46 ⟨v181, rfl, ho0, hb⟩; refine ⟨_, rfl, ?_⟩; replace zk := bR zk hb; have zg := aM (Kd.R_lower (Kd.R_new' (Kd.R_new' ho0 (Kd.R_lt (pR ze.out))) (Kd.R_lt (pR zaf.out))) (below_size (qB1 HB zc))); replace ze := eR ze ho0 hb; replace zaf := eR zaf ho0 hb; replace za := bK za hb; replace HB := bS (qB1 HB zc) hb; (try clear hb); (try clear hk); (try clear hi); (try clear ho0); obtain ⟨zam, zan, eo48⟩ := Kd.R_slice zg.out; subst eo48) | ((with_reducible refine gate_builtin (b := .append) (xs := #[.tmp 78, .tmp 82]) rfl ?_); at_builtin; refine Kd.R_append_rows (Kd.int .u8) (w0 := w) w.heap.size rfl (.tmp 78) (.tmp 82) 25 5 (.int .u8 0) 1 rfl Try.underlying25 info5 rfl (by decide) (by omega) v178 zar z3 _ _ _ (fun k_ => some k_ ≠ (.slice zai z4.length zaj : Value).ownBlock ∧ some k_ ≠ (.slice zam z3.length zan : Value).ownBlock) (fun _ => False) rfl rfl ?aO ?aR (fun _ _ h => h) (fun _ h => h.elim) ?aF ?aB ?aS ?aL ?_; (case aR => exact sR zg); (case aB => exact (qB1 HB zc)); (case aF => exact (fun k_ hk => ⟨Kd.fresh' (Kd.R_lt (pR ze.out)) k_ hk, Kd.fresh' (Kd.R_lt (pR zg.out)) k_ hk⟩)); (case aO => exact (pR zaf.out)); (case aS => exact (below_size (qB1 HB zc))); (case aL => have := LMc36.out; omega); intro v184 w47 ho hb hg hat; rw [← Ny183.out] at ho; replace zk := aM (Kd.R_over' (pR zk.out) (Kd.R_typed (pR zaf.out)) (by decide) hg); replace za := aM (blk_grown (g := zb) (pK za.out) hg (Kd.R_ne zaf.out za.out (by decide))); replace ze := aM (Kd.R_after (ok := (fun k_ => some k_ ≠ (.slice zam z3.length zan : Value).ownBlock)) (by (with_reducible repeat (first | apply rA | apply rN | apply rD)); exact Kd.R_mono ze.out (fun _ hk => ⟨hk.2, hk.1.2⟩)) hg hat); replace zg := aM (Kd.R_after (ok := (fun k_ => some k_ ≠ (.slice zai z4.length zaj : Value).ownBlock)) (by (with_reducible repeat (first | apply rA | apply rN | apply rD)); exact Kd.R_mono zg.out (fun _ hk => ⟨hk.1.2, hk.2⟩)) hg hat); replace HB := aM (hb); have zag := aM (ho); clear zaf; clear ho hb hg hat; have hcz49_0 : w47.cell? ⟨zb, 0, none⟩ = some (.int .i64 a0_0) := (blk_cell za.out 0).trans rfl; have hcz49_1 : w47.cell? ⟨zb, 1, none⟩ = some (.int .i64 a0_1) := (blk_cell za.out 1).trans rfl; have hcz49_2 : w47.cell? ⟨zb, 2, none⟩ = some (.int .i64 a0_2) := (blk_cell za.out 2).trans rfl; have hcz49_3 : w47.cell? ⟨zb, 3, none⟩ = some (.slice A0_3 l0_3.length c0_3) := (blk_cell za.out 3).trans rfl; have hcz49_4 : w47.cell? ⟨zb, 4, none⟩ = some (.int .i64 a0_4) := (blk_cell za.out 4).trans rfl; have hcz49_5 : w47.cell? ⟨zb, 5, none⟩ = some (.int .i64 a0_5) := (blk_cell za.out 5).trans rfl; have hcz49_6 : w47.cell? ⟨zb, 6, none⟩ = some (.int .i64 a0_6) := (blk_cell za.out 6).trans rfl; have hcz49_7 : w47.cell? ⟨zb, 7, none⟩ = some (.int .i64 a0_7) := (blk_cell za.out 7).trans rfl; have hcz49_8 : w47.cell? ⟨zb, 8, none⟩ = some (.int .i64 a0_8) := (blk_cell za.out 8).trans rfl; have hcz49_9 : w47.cell? ⟨zb, 9, none⟩ = some (.int .i64 a0_9) := (blk_cell za.out 9).trans rfl; have hcz49_10 : w47.cell? ⟨zb, 10, none⟩ = some (.int .i64 a0_10) := (blk_cell za.out 10).trans rfl; have hcz49_11 : w47.cell? ⟨zb, 11, none⟩ = some (.int .i64 a0_11) := (blk_cell za.out 11).trans rfl; have hcz49_12 : w47.cell? ⟨zb, 12, none⟩ = some (.bool a0_12) := (blk_cell za.out 12).trans rfl; have hcz49_13 : w47.cell? ⟨zb, 13, none⟩ = some (.slice A0_13 l0_13.length c0_13) := (blk_cell za.out 13).trans rfl; have hcz49_14 : w47.cell? ⟨zb, 14, none⟩ = some (.slice A0_14 l0_14.length c0_14) := (blk_cell za.out 14).trans rfl; have hcz49_15 : w47.cell? ⟨zb, 15, none⟩ = some (.slice A0_15 l0_15.length c0_15) := (blk_cell za.out 15).trans rfl; have hcz49_16 : w47.cell? ⟨zb, 16, none⟩ = some (.bool a0_16) := (blk_cell za.out 16).trans rfl; have hfz49_0 := blk_frozen za.out 0; have hfz49_1 := blk_frozen za.out 1; have hfz49_2 := blk_frozen za.out 2; have hfz49_3 := blk_frozen za.out 3; have hfz49_4 := blk_frozen za.out 4; have hfz49_5 := blk_frozen za.out 5; have hfz49_6 := blk_frozen za.out 6; have hfz49_7 := blk_frozen za.out 7; have hfz49_8 := blk_frozen za.out 8; have hfz49_9 := blk_frozen za.out 9; have hfz49_10 := blk_frozen za.out 10; have hfz49_11 := blk_frozen za.out 11; have hfz49_12 := blk_frozen za.out 12; have hfz49_13 := blk_frozen za.out 13; have hfz49_14 := blk_frozen za.out 14; have hfz49_15 := blk_frozen za.out 15; have hfz49_16 := blk_frozen za.out 16) | ((with_reducible refine gate_callee (f := 29) rfl ?_); refine goesL_ (some 87) rfl rfl Try.func29 (by kernel_rfl) rfl #[.slice A0_14 l0_14.length c0_14] rfl pA ?_; (with_reducible refine (gradineref45_List.calls k2 _ _ l0_14 zy _ ?s1 ?s2 A37.out).mono ?_); (case s1 => exact sC HR0_14 HB); (case s2 => exact HC0_14.out); rintro e w50 ⟨v187, rfl, ho0, hb⟩; refine ⟨_, rfl, ?_⟩; replace zk := bR zk hb; have z5 := aM (Kd.R_lower (Kd.R_new' (Kd.R_new' (Kd.R_new' ho0 (Kd.R_lt (pR ze.out))) (Kd.R_lt (pR zg.out))) (Kd.R_lt (pR zag.out))) (below_size (qB1 HB zc))); replace ze := eR ze ho0 hb; replace zg := eR zg ho0 hb; replace zag := eR zag ho0 hb; replace za := bK za hb; replace HB := bS (qB1 HB zc) hb; (try clear hb); (try clear hk); (try clear hi); (try clear ho0); obtain ⟨za0, za1, eo52⟩ := Kd.R_slice z5.out; subst eo52) | ((with_reducible refine gate_builtin (b := .append) (xs := #[.tmp 84, .tmp 87]) rfl ?_); at_builtin; refine Kd.R_append_rows (Kd.int .u8) (w0 := w) w.heap.size rfl (.tmp 84) (.tmp 87) 25 5 (.int .u8 0) 1 rfl Try.underlying25 info5 rfl (by decide) (by omega) v184 zac zy _ _ _ (fun k_ => some k_ ≠ (.slice zai z4.length zaj : Value).ownBlock ∧ some k_ ≠ (.slice zam z3.length zan : Value).ownBlock ∧ some k_ ≠ (.slice za0 zy.length za1 : Value).ownBlock) (fun _ => False) rfl rfl ?aO ?aR (fun _ _ h => h) (fun _ h => h.elim) ?aF ?aB ?aS ?aL ?_; (case aR => exact sR z5); (case aB => exact (qB1 HB zc)); (case aF => exact (fun k_ hk => ⟨Kd.fresh' (Kd.R_lt (pR ze.out)) k_ hk, Kd.fresh' (Kd.R_lt (pR zg.out)) k_ hk, Kd.fresh' (Kd.R_lt (pR z5.out)) k_ hk⟩)); (case aO => exact (by (with_reducible repeat (first | apply rA | apply rN | apply rD)); exact Kd.R_mono zag.out (fun _ hk => ⟨hk.1.1, ⟨hk.1.2, hk.2⟩⟩))); (case aS => exact (below_size (qB1 HB zc))); (case aL => have := LMc38.out; omega); intro v190 w51 ho hb hg hat; rw [← Ny189.out] at ho; replace zk := aM (Kd.R_over' (pR zk.out) (Kd.R_typed (pR zag.out)) (by decide) hg); replace za := aM (blk_grown (g := zb) (pK za.out) hg (Kd.R_ne zag.out za.out (by decide))); replace ze := aM (Kd.R_after (ok := (fun k_ => some k_ ≠ (.slice zam z3.length zan : Value).ownBlock ∧ some k_ ≠ (.slice za0 zy.length za1 : Value).ownBlock)) (by (with_reducible repeat (first | apply rA | apply rN | apply rD)); exact Kd.R_mono ze.out (fun _ hk => ⟨⟨hk.1.1, hk.2⟩, hk.1.2⟩)) hg hat); replace zg := aM (Kd.R_after (ok := (fun k_ => some k_ ≠ (.slice zai z4.length zaj : Value).ownBlock ∧ some k_ ≠ (.slice za0 zy.length za1 : Value).ownBlock)) (by (with_reducible repeat (first | apply rA | apply rN | apply rD)); exact Kd.R_mono zg.out (fun _ hk => ⟨⟨hk.1.1, hk.2⟩, hk.1.2⟩)) hg hat); replace z5 := aM (Kd.R_after (ok := (fun k_ => some k_ ≠ (.slice zai z4.length zaj : Value).ownBlock ∧ some k_ ≠ (.slice zam z3.length zan : Value).ownBlock)) (by (with_reducible repeat (first | apply rA | apply rN | apply rD)); exact Kd.R_mono z5.out (fun _ hk => ⟨⟨hk.1.1.2, hk.1.2⟩, hk.2⟩)) hg hat); replace HB := aM (hb); have zah := aM (ho); clear zag; clear ho hb hg hat; have hcz53_0 : w51.cell? ⟨zb, 0, none⟩ = some (.int .i64 a0_0) := (blk_cell za.out 0).trans rfl; have hcz53_1 : w51.cell? ⟨zb, 1, none⟩ = some (.int .i64 a0_1) := (blk_cell za.out 1).trans rfl; have hcz53_2 : w51.cell? ⟨zb, 2, none⟩ = some (.int .i64 a0_2) := (blk_cell za.out 2).trans rfl; have hcz53_3 : w51.cell? ⟨zb, 3, none⟩ = some (.slice A0_3 l0_3.length c0_3) := (blk_cell za.out 3).trans rfl; have hcz53_4 : w51.cell? ⟨zb, 4, none⟩ = some (.int .i64 a0_4) := (blk_cell za.out 4).trans rfl; have hcz53_5 : w51.cell? ⟨zb, 5, none⟩ = some (.int .i64 a0_5) := (blk_cell za.out 5).trans rfl; have hcz53_6 : w51.cell? ⟨zb, 6, none⟩ = some (.int .i64 a0_6) := (blk_cell za.out 6).trans rfl; have hcz53_7 : w51.cell? ⟨zb, 7, none⟩ = some (.int .i64 a0_7) := (blk_cell za.out 7).trans rfl; have hcz53_8 : w51.cell? ⟨zb, 8, none⟩ = some (.int .i64 a0_8) := (blk_cell za.out 8).trans rfl; have hcz53_9 : w51.cell? ⟨zb, 9, none⟩ = some (.int .i64 a0_9) := (blk_cell za.out 9).trans rfl; have hcz53_10 : w51.cell? ⟨zb, 10, none⟩ = some (.int .i64 a0_10) := (blk_cell za.out 10).trans rfl; have hcz53_11 : w51.cell? ⟨zb, 11, none⟩ = some (.int .i64 a0_11) := (blk_cell za.out 11).trans rfl; have hcz53_12 : w51.cell? ⟨zb, 12, none⟩ = some (.bool a0_12) := (blk_cell za.out 12).trans rfl; have hcz53_13 : w51.cell? ⟨zb, 13, none⟩ = some (.slice A0_13 l0_13.length c0_13) := (blk_cell za.out 13).trans rfl; have hcz53_14 : w51.cell? ⟨zb, 14, none⟩ = some (.slice A0_14 l0_14.length c0_14) := (blk_cell za.out 14).trans rfl; have hcz53_15 : w51.cell? ⟨zb, 15, none⟩ = some (.slice A0_15 l0_15.length c0_15) := (blk_cell za.out 15).trans rfl; have hcz53_16 : w51.cell? ⟨zb, 16, none⟩ = some (.bool a0_16) := (blk_cell za.out 16).trans rfl; have hfz53_0 := blk_frozen za.out 0; have hfz53_1 := blk_frozen za.out 1; have hfz53_2 := blk_frozen za.out 2; have hfz53_3 := blk_frozen za.out 3; have hfz53_4 := blk_frozen za.out 4; have hfz53_5 := blk_frozen za.out 5; have hfz53_6 := blk_frozen za.out 6; have hfz53_7 := blk_frozen za.out 7; have hfz53_8 := blk_frozen za.out 8; have hfz53_9 := blk_frozen za.out 9; have hfz53_10 := blk_frozen za.out 10; have hfz53_11 := blk_frozen za.out 11; have hfz53_12 := blk_frozen za.out 12; have hfz53_13 := blk_frozen za.out 13; have hfz53_14 := blk_frozen za.out 14; have hfz53_15 := blk_frozen za.out 15; have hfz53_16 := blk_frozen za.out 16) | ((with_reducible refine gate_callee (f := 17) rfl ?_); refine goesL_ (some 93) rfl rfl Try.func17 (by kernel_rfl) rfl #[.int .i64 (l0_15.length : Int)] rfl pA ?_; (with_reducible refine (gradineref45_Number.calls k2 (l0_15.length : Int) zz _ A39.out).mono ?_); rintro e w54 ⟨v193, rfl, ho0, hb⟩; refine ⟨_, rfl, ?_⟩; replace zk := bR zk hb; have zaw := aM (Kd.R_lower (Kd.R_new' (Kd.R_new' (Kd.R_new' (Kd.R_new' ho0 (Kd.R_lt (pR ze.out))) (Kd.R_lt (pR zg.out))) (Kd.R_lt (pR z5.out))) (Kd.R_lt (pR zah.out))) (below_size (qB1 HB zc))); replace ze := eR ze ho0 hb; replace zg := eR zg ho0 hb; replace z5 := eR z5 ho0 hb; replace zah := eR zah ho0 hb; replace za := bK za hb; replace HB := bS (qB1 HB zc) hb; (try clear hb); (try clear hk); (try clear hi); (try clear ho0); obtain ⟨zbk, zbl, eo56⟩ := Kd.R_slice zaw.out; subst eo56) | ((with_reducible refine gate_builtin (b := .append) (xs := #[.tmp 89, .tmp 93]) rfl ?_); at_builtin; refine Kd.R_append_rows (Kd.int .u8) (w0 := w) w.heap.size rfl (.tmp 89) (.tmp 93) 25 5 (.int .u8 0) 1 rfl Try.underlying25 info5 rfl (by decide) (by omega) v190 z9 zz _ _ _ (fun k_ => some k_ ≠ (.slice zai z4.length zaj : Value).ownBlock ∧ some k_ ≠ (.slice zam z3.length zan : Value).ownBlock ∧ some k_ ≠ (.slice za0 zy.length za1 : Value).ownBlock ∧ some k_ ≠ (.slice zbk zz.length zbl : Value).ownBlock) (fun _ => False) rfl rfl ?aO ?aR (fun _ _ h => h) (fun _ h => h.elim) ?aF ?aB ?aS ?aL ?_; (case aR => exact sR zaw); (case aB => exact (qB1 HB zc)); (case aF => exact (fun k_ hk => ⟨Kd.fresh' (Kd.R_lt (pR ze.out)) k_ hk, Kd.fresh' (Kd.R_lt (pR zg.out)) k_ hk, Kd.fresh' (Kd.R_lt (pR z5.out)) k_ hk, Kd.fresh' (Kd.R_lt (pR zaw.out)) k_ hk⟩)); (case aO => exact (by (with_reducible repeat (first | apply rA | apply rN | apply rD)); exact Kd.R_mono zah.out (fun _ hk => ⟨hk.1.1, ⟨hk.1.2.1, ⟨hk.1.2.2, hk.2⟩⟩⟩))); (case aS => exact (below_size (qB1 HB zc))); (case aL => have := LMc40.out; omega); intro v196 w55 ho hb hg hat; rw [← Ny195.out] at ho; replace zk := aM (Kd.R_over' (pR zk.out) (Kd.R_typed (pR zah.out)) (by decide) hg); replace za := aM (blk_grown (g := zb) (pK za.out) hg (Kd.R_ne zah.out za.out (by decide))); replace ze := aM (Kd.R_after (ok := (fun k_ => some k_ ≠ (.slice zam z3.length zan : Value).ownBlock ∧ some k_ ≠ (.slice za0 zy.length za1 : Value).ownBlock ∧ some k_ ≠ (.slice zbk zz.length zbl : Value).ownBlock)) (by (with_reducible repeat (first | apply rA | apply rN | apply rD)); exact Kd.R_mono ze.out (fun _ hk => ⟨⟨hk.1.1.1, ⟨hk.1.1.2, hk.2⟩⟩, hk.1.2⟩)) hg hat); replace zg := aM (Kd.R_after (ok := (fun k_ => some k_ ≠ (.slice zai z4.length zaj : Value).ownBlock ∧ some k_ ≠ (.slice za0 zy.length za1 : Value).ownBlock ∧ some k_ ≠ (.slice zbk zz.length zbl : Value).ownBlock)) (by (with_reducible repeat (first | apply rA | apply rN | apply rD)); exact Kd.R_mono zg.out (fun _ hk => ⟨⟨hk.1.1.1, ⟨hk.1.1.2, hk.2⟩⟩, hk.1.2⟩)) hg hat); replace z5 := aM (Kd.R_after (ok := (fun k_ => some k_ ≠ (.slice zai z4.length zaj : Value).ownBlock ∧ some k_ ≠ (.slice zam z3.length zan : Value).ownBlock ∧ some k_ ≠ (.slice zbk zz.length zbl : Value).ownBlock)) (by (with_reducible repeat (first | apply rA | apply rN | apply rD)); exact Kd.R_mono z5.out (fun _ hk => ⟨⟨hk.1.1.1, ⟨hk.1.1.2, hk.2⟩⟩, hk.1.2⟩)) hg hat); replace zaw := aM (Kd.R_after (ok := (fun k_ => some k_ ≠ (.slice zai z4.length zaj : Value).ownBlock ∧ some k_ ≠ (.slice zam z3.length zan : Value).ownBlock ∧ some k_ ≠ (.slice za0 zy.length za1 : Value).ownBlock)) (by (with_reducible repeat (first | apply rA | apply rN | apply rD)); exact Kd.R_mono zaw.out (fun _ hk => ⟨⟨hk.1.1.1.2, ⟨hk.1.1.2, hk.1.2⟩⟩, hk.2⟩)) hg hat); replace HB := aM (hb); have HO197 := aM (ho); clear zah; clear ho hb hg hat; have hcz57_0 : w55.cell? ⟨zb, 0, none⟩ = some (.int .i64 a0_0) := (blk_cell za.out 0).trans rfl; have hcz57_1 : w55.cell? ⟨zb, 1, none⟩ = some (.int .i64 a0_1) := (blk_cell za.out 1).trans rfl; have hcz57_2 : w55.cell? ⟨zb, 2, none⟩ = some (.int .i64 a0_2) := (blk_cell za.out 2).trans rfl; have hcz57_3 : w55.cell? ⟨zb, 3, none⟩ = some (.slice A0_3 l0_3.length c0_3) := (blk_cell za.out 3).trans rfl; have hcz57_4 : w55.cell? ⟨zb, 4, none⟩ = some (.int .i64 a0_4) := (blk_cell za.out 4).trans rfl; have hcz57_5 : w55.cell? ⟨zb, 5, none⟩ = some (.int .i64 a0_5) := (blk_cell za.out 5).trans rfl; have hcz57_6 : w55.cell? ⟨zb, 6, none⟩ = some (.int .i64 a0_6) := (blk_cell za.out 6).trans rfl; have hcz57_7 : w55.cell? ⟨zb, 7, none⟩ = some (.int .i64 a0_7) := (blk_cell za.out 7).trans rfl; have hcz57_8 : w55.cell? ⟨zb, 8, none⟩ = some (.int .i64 a0_8) := (blk_cell za.out 8).trans rfl; have hcz57_9 : w55.cell? ⟨zb, 9, none⟩ = some (.int .i64 a0_9) := (blk_cell za.out 9).trans rfl; have hcz57_10 : w55.cell? ⟨zb, 10, none⟩ = some (.int .i64 a0_10) := (blk_cell za.out 10).trans rfl; have hcz57_11 : w55.cell? ⟨zb, 11, none⟩ = some (.int .i64 a0_11) := (blk_cell za.out 11).trans rfl; have hcz57_12 : w55.cell? ⟨zb, 12, none⟩ = some (.bool a0_12) := (blk_cell za.out 12).trans rfl; have hcz57_13 : w55.cell? ⟨zb, 13, none⟩ = some (.slice A0_13 l0_13.length c0_13) := (blk_cell za.out 13).trans rfl; have hcz57_14 : w55.cell? ⟨zb, 14, none⟩ = some (.slice A0_14 l0_14.length c0_14) := (blk_cell za.out 14).trans rfl; have hcz57_15 : w55.cell? ⟨zb, 15, none⟩ = some (.slice A0_15 l0_15.length c0_15) := (blk_cell za.out 15).trans rfl; have hcz57_16 : w55.cell? ⟨zb, 16, none⟩ = some (.bool a0_16) := (blk_cell za.out 16).trans rfl; have hfz57_0 := blk_frozen za.out 0; have hfz57_1 := blk_frozen za.out 1; have hfz57_2 := blk_frozen za.out 2; have hfz57_3 := blk_frozen za.out 3; have hfz57_4 := blk_frozen za.out 4; have hfz57_5 := blk_frozen za.out 5; have hfz57_6 := blk_frozen za.out 6; have hfz57_7 := blk_frozen za.out 7; have hfz57_8 := blk_frozen za.out 8; have hfz57_9 := blk_frozen za.out 9; have hfz57_10 := blk_frozen za.out 10; have hfz57_11 := blk_frozen za.out 11; have hfz57_12 := blk_frozen za.out 12; have hfz57_13 := blk_frozen za.out 13; have hfz57_14 := blk_frozen za.out 14; have hfz57_15 := blk_frozen za.out 15; have hfz57_16 := blk_frozen za.out 16))
     go_loopg [3, 98] k2 (fun kq v3 v98 w' => ∃ (x3_3 : List Int) (x98_3 : Int), v98 = .int .i64 x98_3 ∧ Aside0 (gradineref45_command.l2 kq x3_3 (l0_15.length : Int) x98_3 a0_0 a0_1 a0_2 l0_3 a0_4 a0_5 a0_6 a0_7 a0_8 a0_9 a0_10 a0_11 a0_12 l0_13 l0_14 l0_15 a0_16 = some r) ∧ Aside0 (kq ≤ k2) ∧ Aside0 (Kd.R (Kd.int .u8) 5 w' w.heap.size (fun _ => True) v3 x3_3) ∧ Aside0 (w'.heap[zb]? = some (.cells #[.int .i64 a0_0, .int .i64 a0_1, .int .i64 a0_2, (.slice A0_3 l0_3.length c0_3), .int .i64 a0_4, .int .i64 a0_5, .int .i64 a0_6, .int .i64 a0_7, .int .i64 a0_8, .int .i64 a0_9, .int .i64 a0_10, .int .i64 a0_11, .bool a0_12, (.slice A0_13 l0_13.length c0_13), (.slice A0_14 l0_14.length c0_14), (.slice A0_15 l0_15.length c0_15), .bool a0_16] 45 (0, 0))) ∧ Aside0 (Below w.heap.size w w'))
     case atStart => exact ⟨(zb4), (0), (pF), H', ⟨Nat.le_refl _⟩, ⟨by (with_reducible repeat (first | apply rA | apply rN | apply rD)); exact Kd.R_mono HO197.out (fun _ hk => trivial)⟩, ⟨pK za.out⟩, ⟨qB1 HB zc⟩⟩
     case round =>
      clear H'
      try clear zbq
      try clear hcz41_0 hcz41_1 hcz41_10 hcz41_11 hcz41_12 hcz41_13 hcz41_14 hcz41_15 hcz41_16 hcz41_2 hcz41_3 hcz41_4 hcz41_5 hcz41_6 hcz41_7 hcz41_8 hcz41_9 hcz45_0 hcz45_1 hcz45_10 hcz45_11 hcz45_12 hcz45_13 hcz45_14 hcz45_15 hcz45_16 hcz45_2 hcz45_3 hcz45_4 hcz45_5 hcz45_6 hcz45_7 hcz45_8 hcz45_9 hcz49_0 hcz49_1 hcz49_10 hcz49_11 hcz49_12 hcz49_13 hcz49_14 hcz49_15 hcz49_16 hcz49_2 hcz49_3 hcz49_4 hcz49_5 hcz49_6 hcz49_7 hcz49_8 hcz49_9 hcz53_0 hcz53_1 hcz53_10 hcz53_11 hcz53_12 hcz53_13 hcz53_14 hcz53_15 hcz53_16 hcz53_2 hcz53_3 hcz53_4 hcz53_5 hcz53_6 hcz53_7 hcz53_8 hcz53_9 hcz57_0 hcz57_1 hcz57_10 hcz57_11 hcz57_12 hcz57_13 hcz57_14 hcz57_15 hcz57_16 hcz57_2 hcz57_3 hcz57_4 hcz57_5 hcz57_6 hcz57_7 hcz57_8 hcz57_9 hfz41_0 hfz41_1 hfz41_10 hfz41_11 hfz41_12 hfz41_13 hfz41_14 hfz41_15 hfz41_16 hfz41_2 hfz41_3 hfz41_4 hfz41_5 hfz41_6 hfz41_7 hfz41_8 hfz41_9 hfz45_0 hfz45_1 hfz45_10 hfz45_11 hfz45_12 hfz45_13 hfz45_14 hfz45_15 hfz45_16 hfz45_2 hfz45_3 hfz45_4 hfz45_5 hfz45_6 hfz45_7 hfz45_8 hfz45_9 hfz49_0 hfz49_1 hfz49_10 hfz49_11 hfz49_12 hfz49_13 hfz49_14 hfz49_15 hfz49_16 hfz49_2 hfz49_3 hfz49_4 hfz49_5 hfz49_6 hfz49_7 hfz49_8 hfz49_9 hfz53_0 hfz53_1 hfz53_10 hfz53_11 hfz53_12 hfz53_13 hfz53_14 hfz53_15 hfz53_16 hfz53_2 hfz53_3 hfz53_4 hfz53_5 hfz53_6 hfz53_7 hfz53_8 hfz53_9 hfz57_0 hfz57_1 hfz57_10 hfz57_11 hfz57_12 hfz57_13 hfz57_14 hfz57_15 hfz57_16 hfz57_2 hfz57_3 hfz57_4 hfz57_5 hfz57_6 hfz57_7 hfz57_8 hfz57_9
      obtain ⟨x3_3, x98_3, rfl, HA, HK3, zd, za, HB⟩ := hrel
      cases gk with
      | zero => exact absurd HA.out (by simp [gradineref45_command.l2])
      | succ k3 =>
       have H := HA.out
       clear HA
       simp only [gradineref45_command.l2] at H
       by_cases c58 : x98_3 < (l0_15.length : Int)
       rotate_left
       ·rw [if_neg c58] at H
        have c58b0 : decide (x98_3 < (l0_15.length : Int)) = false := decide_eq_false c58
        clear c58
        replace H := Option.bind_eq_some_iff.mp H
        obtain ⟨zat, zb5, H⟩ := H
        try dsimp only at H
        have A79 := aM zb5
        clear zb5
        by_cases c80 : x3_3.length + zat.length < 140737488355328
        rotate_left
        ·rw [if_neg c80] at H
         exact absurd H (by simp)
        rw [if_pos c80] at H
        have LMc80 := aM c80
        clear c80
        obtain ⟨y222, zbe⟩ : ∃ y_ : List Int, y_ = (x3_3 ++ zat) := ⟨_, rfl⟩
        replace H : (some y222) = some r := pH zbe H
        have Ny222 := aM zbe
        clear zbe
        obtain rfl := Option.some.inj H
        have hcz81_0 : wr.cell? ⟨zb, 0, none⟩ = some (.int .i64 a0_0) := (blk_cell za.out 0).trans rfl
        have hcz81_1 : wr.cell? ⟨zb, 1, none⟩ = some (.int .i64 a0_1) := (blk_cell za.out 1).trans rfl
        have hcz81_2 : wr.cell? ⟨zb, 2, none⟩ = some (.int .i64 a0_2) := (blk_cell za.out 2).trans rfl
        have hcz81_3 : wr.cell? ⟨zb, 3, none⟩ = some (.slice A0_3 l0_3.length c0_3) := (blk_cell za.out 3).trans rfl
        have hcz81_4 : wr.cell? ⟨zb, 4, none⟩ = some (.int .i64 a0_4) := (blk_cell za.out 4).trans rfl
        have hcz81_5 : wr.cell? ⟨zb, 5, none⟩ = some (.int .i64 a0_5) := (blk_cell za.out 5).trans rfl
        have hcz81_6 : wr.cell? ⟨zb, 6, none⟩ = some (.int .i64 a0_6) := (blk_cell za.out 6).trans rfl
        have hcz81_7 : wr.cell? ⟨zb, 7, none⟩ = some (.int .i64 a0_7) := (blk_cell za.out 7).trans rfl
        have hcz81_8 : wr.cell? ⟨zb, 8, none⟩ = some (.int .i64 a0_8) := (blk_cell za.out 8).trans rfl
        have hcz81_9 : wr.cell? ⟨zb, 9, none⟩ = some (.int .i64 a0_9) := (blk_cell za.out 9).trans rfl
        have hcz81_10 : wr.cell? ⟨zb, 10, none⟩ = some (.int .i64 a0_10) := (blk_cell za.out 10).trans rfl
        have hcz81_11 : wr.cell? ⟨zb, 11, none⟩ = some (.int .i64 a0_11) := (blk_cell za.out 11).trans rfl
        have hcz81_12 : wr.cell? ⟨zb, 12, none⟩ = some (.bool a0_12) := (blk_cell za.out 12).trans rfl
        have hcz81_13 : wr.cell? ⟨zb, 13, none⟩ = some (.slice A0_13 l0_13.length c0_13) := (blk_cell za.out 13).trans rfl
        have hcz81_14 : wr.cell? ⟨zb, 14, none⟩ = some (.slice A0_14 l0_14.length c0_14) := (blk_cell za.out 14).trans rfl
        have hcz81_15 : wr.cell? ⟨zb, 15, none⟩ = some (.slice A0_15 l0_15.length c0_15) := (blk_cell za.out 15).trans rfl
        have hcz81_16 : wr.cell? ⟨zb, 16, none⟩ = some (.bool a0_16) := (blk_cell za.out 16).trans rfl
        have hfz81_0 := blk_frozen za.out 0
        have hfz81_1 := blk_frozen za.out 1
        have hfz81_2 := blk_frozen za.out 2
        have hfz81_3 := blk_frozen za.out 3
        have hfz81_4 := blk_frozen za.out 4
        have hfz81_5 := blk_frozen za.out 5
        have hfz81_6 := blk_frozen za.out 6
        have hfz81_7 := blk_frozen za.out 7
        have hfz81_8 := blk_frozen za.out 8
        have hfz81_9 := blk_frozen za.out 9
        have hfz81_10 := blk_frozen za.out 10
        have hfz81_11 := blk_frozen za.out 11
        have hfz81_12 := blk_frozen za.out 12
        have hfz81_13 := blk_frozen za.out 13
        have hfz81_14 := blk_frozen za.out 14
        have hfz81_15 := blk_frozen za.out 15
        have hfz81_16 := blk_frozen za.out 16
        go_wp2_with (first | ((with_reducible refine gate_callee (f := 30) rfl ?_); refine goesL_ (some 132) rfl rfl Try.func30 (by kernel_rfl) rfl #[.bool a0_16] rfl pA ?_; (with_reducible refine (gradineref45_truth.calls a0_16 zat _ A79.out).mono ?_); rintro e w82 ⟨v220, rfl, ho0, hb⟩; refine ⟨_, rfl, ?_⟩; have zax := aM (Kd.R_lower (Kd.R_new' ho0 (Kd.R_lt (pR zd.out))) (below_size (qB1 HB zc))); replace zd := eR zd ho0 hb; replace za := bK za hb; replace HB := bS (qB1 HB zc) hb; (try clear hb); (try clear hk); (try clear hi); (try clear ho0); obtain ⟨Ao84, co84, eo84⟩ := Kd.R_slice zax.out; subst eo84) | ((with_reducible refine gate_builtin (b := .append) (xs := #[.tmp 129, .tmp 132]) rfl ?_); at_builtin; refine Kd.R_append_rows (Kd.int .u8) (w0 := w) w.heap.size rfl (.tmp 129) (.tmp 132) 25 5 (.int .u8 0) 1 rfl Try.underlying25 info5 rfl (by decide) (by omega) u3 x3_3 zat _ _ _ (fun k_ => some k_ ≠ (.slice Ao84 zat.length co84 : Value).ownBlock) (fun _ => False) rfl rfl ?aO ?aR (fun _ _ h => h) (fun _ h => h.elim) ?aF ?aB ?aS ?aL ?_; (case aR => exact sR zax); (case aB => exact (qB1 HB zc)); (case aF => exact (fun k_ hk => Kd.fresh' (Kd.R_lt (pR zax.out)) k_ hk)); (case aO => exact (by (with_reducible repeat (first | apply rA | apply rN | apply rD)); exact Kd.R_mono zd.out (fun _ hk => hk.2))); (case aS => exact (below_size (qB1 HB zc))); (case aL => have := LMc80.out; omega); intro v223 w83 ho hb hg hat; rw [← Ny222.out] at ho; replace za := aM (blk_grown (g := zb) (pK za.out) hg (Kd.R_ne zd.out za.out (by decide))); replace zax := aM (Kd.R_after (ok := (fun _ => True)) (pR zax.out) hg hat); replace HB := aM (hb); have HO224 := aM (ho); clear zd; clear ho hb hg hat))
        go_ret
        exact ⟨_, pE, by (with_reducible repeat (first | apply rA | apply rN | apply rD)); exact Kd.R_mono HO224.out (fun _ hk => trivial), qB1 HB zc⟩
       rw [if_pos c58] at H
       have c58b0 : decide (x98_3 < (l0_15.length : Int)) = true := decide_eq_true c58
       clear c58
       by_cases c59 : 0 ≤ x98_3
       rotate_left
       ·rw [if_neg c59] at H
        exact absurd H (by simp)
       rw [if_pos c59] at H
       have c59b0 : decide (0 ≤ x98_3) = true := decide_eq_true c59
       clear c59
       by_cases c60 : x98_3 < (l0_15.length : Int)
       rotate_left
       ·rw [if_neg c60] at H
        exact absurd H (by simp)
       rw [if_pos c60] at H
       have c60b0 : decide (x98_3 < (l0_15.length : Int)) = true := decide_eq_true c60
       clear c60
       replace H := Option.bind_eq_some_iff.mp H
       obtain ⟨zaa, zb6, H⟩ := H
       try dsimp only at H
       have A61 := aM zb6
       clear zb6
       by_cases c62 : x3_3.length + zaa.length < 140737488355328
       rotate_left
       ·rw [if_neg c62] at H
        exact absurd H (by simp)
       rw [if_pos c62] at H
       have LMc62 := aM c62
       clear c62
       obtain ⟨zas, zbf⟩ : ∃ y_ : List Int, y_ = (x3_3 ++ zaa) := ⟨_, rfl⟩
       replace H : ((gradineref45_Number.f k3 ((rd_T71 l0_15 x98_3).f1)).bind fun z8 => (if zas.length + z8.length < 140737488355328 then ((some (zas ++ z8 : List Int)).bind fun zad => ((gradineref45_Word.f k3 ((rd_T71 l0_15 x98_3).f2)).bind fun z7 => (if zad.length + z7.length < 140737488355328 then (gradineref45_command.l2 k3 (zad ++ z7) (l0_15.length : Int) (wrap64 (x98_3 + 1)) a0_0 a0_1 a0_2 l0_3 a0_4 a0_5 a0_6 a0_7 a0_8 a0_9 a0_10 a0_11 a0_12 l0_13 l0_14 l0_15 a0_16) else (none)))) else (none))) = some r := pH zbf H
       have Ny202 := aM zbf
       clear zbf
       replace H := Option.bind_eq_some_iff.mp H
       obtain ⟨z8, zb7, H⟩ := H
       try dsimp only at H
       have A63 := aM zb7
       clear zb7
       by_cases c64 : zas.length + z8.length < 140737488355328
       rotate_left
       ·rw [if_neg c64] at H
        exact absurd H (by simp)
       rw [if_pos c64] at H
       have LMc64 := aM c64
       clear c64
       obtain ⟨zad, zbg⟩ : ∃ y_ : List Int, y_ = (zas ++ z8) := ⟨_, rfl⟩
       replace H : ((gradineref45_Word.f k3 ((rd_T71 l0_15 x98_3).f2)).bind fun z7 => (if zad.length + z7.length < 140737488355328 then (gradineref45_command.l2 k3 (zad ++ z7) (l0_15.length : Int) (wrap64 (x98_3 + 1)) a0_0 a0_1 a0_2 l0_3 a0_4 a0_5 a0_6 a0_7 a0_8 a0_9 a0_10 a0_11 a0_12 l0_13 l0_14 l0_15 a0_16) else (none))) = some r := pH zbg H
       have Ny209 := aM zbg
       clear zbg
       replace H := Option.bind_eq_some_iff.mp H
       obtain ⟨z7, zb8, H⟩ := H
       try dsimp only at H
       have A65 := aM zb8
       clear zb8
       by_cases c66 : zad.length + z7.length < 140737488355328
       rotate_left
       ·rw [if_neg c66] at H
        exact absurd H (by simp)
       rw [if_pos c66] at H
       have LMc66 := aM c66
       clear c66
       obtain ⟨zb9, zbh⟩ : ∃ y_ : List Int, y_ = (zad ++ z7) := ⟨_, rfl⟩
       replace H : (gradineref45_command.l2 k3 zb9 (l0_15.length : Int) (wrap64 (x98_3 + 1)) a0_0 a0_1 a0_2 l0_3 a0_4 a0_5 a0_6 a0_7 a0_8 a0_9 a0_10 a0_11 a0_12 l0_13 l0_14 l0_15 a0_16) = some r := pH zbh H
       have Ny216 := aM zbh
       clear zbh
       have H' := aM H
       clear H
       have hcz67_0 : wr.cell? ⟨zb, 0, none⟩ = some (.int .i64 a0_0) := (blk_cell za.out 0).trans rfl
       have hcz67_1 : wr.cell? ⟨zb, 1, none⟩ = some (.int .i64 a0_1) := (blk_cell za.out 1).trans rfl
       have hcz67_2 : wr.cell? ⟨zb, 2, none⟩ = some (.int .i64 a0_2) := (blk_cell za.out 2).trans rfl
       have hcz67_3 : wr.cell? ⟨zb, 3, none⟩ = some (.slice A0_3 l0_3.length c0_3) := (blk_cell za.out 3).trans rfl
       have hcz67_4 : wr.cell? ⟨zb, 4, none⟩ = some (.int .i64 a0_4) := (blk_cell za.out 4).trans rfl
       have hcz67_5 : wr.cell? ⟨zb, 5, none⟩ = some (.int .i64 a0_5) := (blk_cell za.out 5).trans rfl
       have hcz67_6 : wr.cell? ⟨zb, 6, none⟩ = some (.int .i64 a0_6) := (blk_cell za.out 6).trans rfl
       have hcz67_7 : wr.cell? ⟨zb, 7, none⟩ = some (.int .i64 a0_7) := (blk_cell za.out 7).trans rfl
       have hcz67_8 : wr.cell? ⟨zb, 8, none⟩ = some (.int .i64 a0_8) := (blk_cell za.out 8).trans rfl
       have hcz67_9 : wr.cell? ⟨zb, 9, none⟩ = some (.int .i64 a0_9) := (blk_cell za.out 9).trans rfl
       have hcz67_10 : wr.cell? ⟨zb, 10, none⟩ = some (.int .i64 a0_10) := (blk_cell za.out 10).trans rfl
       have hcz67_11 : wr.cell? ⟨zb, 11, none⟩ = some (.int .i64 a0_11) := (blk_cell za.out 11).trans rfl
       have hcz67_12 : wr.cell? ⟨zb, 12, none⟩ = some (.bool a0_12) := (blk_cell za.out 12).trans rfl
       have hcz67_13 : wr.cell? ⟨zb, 13, none⟩ = some (.slice A0_13 l0_13.length c0_13) := (blk_cell za.out 13).trans rfl
       have hcz67_14 : wr.cell? ⟨zb, 14, none⟩ = some (.slice A0_14 l0_14.length c0_14) := (blk_cell za.out 14).trans rfl
       have hcz67_15 : wr.cell? ⟨zb, 15, none⟩ = some (.slice A0_15 l0_15.length c0_15) := (blk_cell za.out 15).trans rfl
       have hcz67_16 : wr.cell? ⟨zb, 16, none⟩ = some (.bool a0_16) := (blk_cell za.out 16).trans rfl
       have hfz67_0 := blk_frozen za.out 0
       have hfz67_1 := blk_frozen za.out 1
       have hfz67_2 := blk_frozen za.out 2
       have hfz67_3 := blk_frozen za.out 3
       have hfz67_4 := blk_frozen za.out 4
       have hfz67_5 := blk_frozen za.out 5
       have hfz67_6 := blk_frozen za.out 6
       have hfz67_7 := blk_frozen za.out 7
       have hfz67_8 := blk_frozen za.out 8
       have hfz67_9 := blk_frozen za.out 9
       have hfz67_10 := blk_frozen za.out 10
       have hfz67_11 := blk_frozen za.out 11
       have hfz67_12 := blk_frozen za.out 12
       have hfz67_13 := blk_frozen za.out 13
       have hfz67_14 := blk_frozen za.out 14
       have hfz67_15 := blk_frozen za.out 15
       have hfz67_16 := blk_frozen za.out 16
       have p198 : 0 ≤ (x98_3 : Int) := of_decide_eq_true pD
       have q198 : x98_3 < (l0_15.length : Int) := of_decide_eq_true pD
       obtain ⟨ad198, e198, hx198_0, hx198_1, hx198_2⟩ := at_T71 zaz.out x98_3 p198 q198
       cases e198
       replace hx198_0 := (HB.out.cell (World.block_lt_of_cell? w _ hx198_0)).trans hx198_0
       replace hx198_1 := (HB.out.cell (World.block_lt_of_cell? w _ hx198_1)).trans hx198_1
       replace hx198_2 := (HB.out.cell (World.block_lt_of_cell? w _ hx198_2)).trans hx198_2
       replace p198 := eq_true p198
       replace q198 := eq_true q198
       go_wp2_with (first | ((with_reducible refine gate_callee (f := 17) rfl ?_); refine goesL_ (some 108) rfl rfl Try.func17 (by kernel_rfl) rfl #[.int .i64 ((rd_T71 l0_15 x98_3).f0)] rfl pA ?_; (with_reducible refine (gradineref45_Number.calls k3 ((rd_T71 l0_15 x98_3).f0) zaa _ A61.out).mono ?_); rintro e w68 ⟨v200, rfl, ho0, hb⟩; refine ⟨_, rfl, ?_⟩; have zh := aM (Kd.R_lower (Kd.R_new' ho0 (Kd.R_lt (pR zd.out))) (below_size (qB1 HB zc))); replace zd := eR zd ho0 hb; replace za := bK za hb; replace HB := bS (qB1 HB zc) hb; (try clear hb); (try clear hk); (try clear hi); (try clear ho0); obtain ⟨za2, za3, eo70⟩ := Kd.R_slice zh.out; subst eo70) | ((with_reducible refine gate_builtin (b := .append) (xs := #[.tmp 101, .tmp 108]) rfl ?_); at_builtin; refine Kd.R_append_rows (Kd.int .u8) (w0 := w) w.heap.size rfl (.tmp 101) (.tmp 108) 25 5 (.int .u8 0) 1 rfl Try.underlying25 info5 rfl (by decide) (by omega) u3 x3_3 zaa _ _ _ (fun k_ => some k_ ≠ (.slice za2 zaa.length za3 : Value).ownBlock) (fun _ => False) rfl rfl ?aO ?aR (fun _ _ h => h) (fun _ h => h.elim) ?aF ?aB ?aS ?aL ?_; (case aR => exact sR zh); (case aB => exact (qB1 HB zc)); (case aF => exact (fun k_ hk => Kd.fresh' (Kd.R_lt (pR zh.out)) k_ hk)); (case aO => exact (by (with_reducible repeat (first | apply rA | apply rN | apply rD)); exact Kd.R_mono zd.out (fun _ hk => hk.2))); (case aS => exact (below_size (qB1 HB zc))); (case aL => have := LMc62.out; omega); intro v203 w69 ho hb hg hat; rw [← Ny202.out] at ho; replace za := aM (blk_grown (g := zb) (pK za.out) hg (Kd.R_ne zd.out za.out (by decide))); replace zh := aM (Kd.R_after (ok := (fun _ => True)) (pR zh.out) hg hat); replace HB := aM (hb); have zak := aM (ho); clear zd; clear ho hb hg hat; have hcz71_0 : w69.cell? ⟨zb, 0, none⟩ = some (.int .i64 a0_0) := (blk_cell za.out 0).trans rfl; have hcz71_1 : w69.cell? ⟨zb, 1, none⟩ = some (.int .i64 a0_1) := (blk_cell za.out 1).trans rfl; have hcz71_2 : w69.cell? ⟨zb, 2, none⟩ = some (.int .i64 a0_2) := (blk_cell za.out 2).trans rfl; have hcz71_3 : w69.cell? ⟨zb, 3, none⟩ = some (.slice A0_3 l0_3.length c0_3) := (blk_cell za.out 3).trans rfl; have hcz71_4 : w69.cell? ⟨zb, 4, none⟩ = some (.int .i64 a0_4) := (blk_cell za.out 4).trans rfl; have hcz71_5 : w69.cell? ⟨zb, 5, none⟩ = some (.int .i64 a0_5) := (blk_cell za.out 5).trans rfl; have hcz71_6 : w69.cell? ⟨zb, 6, none⟩ = some (.int .i64 a0_6) := (blk_cell za.out 6).trans rfl; have hcz71_7 : w69.cell? ⟨zb, 7, none⟩ = some (.int .i64 a0_7) := (blk_cell za.out 7).trans rfl; have hcz71_8 : w69.cell? ⟨zb, 8, none⟩ = some (.int .i64 a0_8) := (blk_cell za.out 8).trans rfl; have hcz71_9 : w69.cell? ⟨zb, 9, none⟩ = some (.int .i64 a0_9) := (blk_cell za.out 9).trans rfl; have hcz71_10 : w69.cell? ⟨zb, 10, none⟩ = some (.int .i64 a0_10) := (blk_cell za.out 10).trans rfl; have hcz71_11 : w69.cell? ⟨zb, 11, none⟩ = some (.int .i64 a0_11) := (blk_cell za.out 11).trans rfl; have hcz71_12 : w69.cell? ⟨zb, 12, none⟩ = some (.bool a0_12) := (blk_cell za.out 12).trans rfl; have hcz71_13 : w69.cell? ⟨zb, 13, none⟩ = some (.slice A0_13 l0_13.length c0_13) := (blk_cell za.out 13).trans rfl; have hcz71_14 : w69.cell? ⟨zb, 14, none⟩ = some (.slice A0_14 l0_14.length c0_14) := (blk_cell za.out 14).trans rfl; have hcz71_15 : w69.cell? ⟨zb, 15, none⟩ = some (.slice (some ad198) l0_15.length c0_15) := (blk_cell za.out 15).trans rfl; have hcz71_16 : w69.cell? ⟨zb, 16, none⟩ = some (.bool a0_16) := (blk_cell za.out 16).trans rfl; have hfz71_0 := blk_frozen za.out 0; have hfz71_1 := blk_frozen za.out 1; have hfz71_2 := blk_frozen za.out 2; have hfz71_3 := blk_frozen za.out 3; have hfz71_4 := blk_frozen za.out 4; have hfz71_5 := blk_frozen za.out 5; have hfz71_6 := blk_frozen za.out 6; have hfz71_7 := blk_frozen za.out 7; have hfz71_8 := blk_frozen za.out 8; have hfz71_9 := blk_frozen za.out 9; have hfz71_10 := blk_frozen za.out 10; have hfz71_11 := blk_frozen za.out 11; have hfz71_12 := blk_frozen za.out 12; have hfz71_13 := blk_frozen za.out 13; have hfz71_14 := blk_frozen za.out 14; have hfz71_15 := blk_frozen za.out 15; have hfz71_16 := blk_frozen za.out 16; have p205 : 0 ≤ (x98_3 : Int) := of_decide_eq_true pD; have q205 : x98_3 < (l0_15.length : Int) := of_decide_eq_true pD; obtain ⟨ad205, e205, hx205_0, hx205_1, hx205_2⟩ := at_T71 zaz.out x98_3 p205 q205; obtain rfl : ad198 = ad205 := (by injection e205); replace hx205_0 := (HB.out.cell (World.block_lt_of_cell? w _ hx205_0)).trans hx205_0; replace hx205_1 := (HB.out.cell (World.block_lt_of_cell? w _ hx205_1)).trans hx205_1; replace hx205_2 := (HB.out.cell (World.block_lt_of_cell? w _ hx205_2)).trans hx205_2; replace p205 := eq_true p205; replace q205 := eq_true q205) | ((with_reducible refine gate_callee (f := 17) rfl ?_); refine goesL_ (some 117) rfl rfl Try.func17 (by kernel_rfl) rfl #[.int .i64 ((rd_T71 l0_15 x98_3).f1)] rfl pA ?_; (with_reducible refine (gradineref45_Number.calls k3 ((rd_T71 l0_15 x98_3).f1) z8 _ A63.out).mono ?_); rintro e w72 ⟨v207, rfl, ho0, hb⟩; refine ⟨_, rfl, ?_⟩; have z6 := aM (Kd.R_lower (Kd.R_new' (Kd.R_new' ho0 (Kd.R_lt (pR zh.out))) (Kd.R_lt (pR zak.out))) (below_size (qB1 HB zc))); replace zh := eR zh ho0 hb; replace zak := eR zak ho0 hb; replace za := bK za hb; replace HB := bS (qB1 HB zc) hb; (try clear hb); (try clear hk); (try clear hi); (try clear ho0); obtain ⟨zbi, zbj, eo74⟩ := Kd.R_slice z6.out; subst eo74) | ((with_reducible refine gate_builtin (b := .append) (xs := #[.tmp 110, .tmp 117]) rfl ?_); at_builtin; refine Kd.R_append_rows (Kd.int .u8) (w0 := w) w.heap.size rfl (.tmp 110) (.tmp 117) 25 5 (.int .u8 0) 1 rfl Try.underlying25 info5 rfl (by decide) (by omega) v203 zas z8 _ _ _ (fun k_ => some k_ ≠ (.slice za2 zaa.length za3 : Value).ownBlock ∧ some k_ ≠ (.slice zbi z8.length zbj : Value).ownBlock) (fun _ => False) rfl rfl ?aO ?aR (fun _ _ h => h) (fun _ h => h.elim) ?aF ?aB ?aS ?aL ?_; (case aR => exact sR z6); (case aB => exact (qB1 HB zc)); (case aF => exact (fun k_ hk => ⟨Kd.fresh' (Kd.R_lt (pR zh.out)) k_ hk, Kd.fresh' (Kd.R_lt (pR z6.out)) k_ hk⟩)); (case aO => exact (pR zak.out)); (case aS => exact (below_size (qB1 HB zc))); (case aL => have := LMc64.out; omega); intro v210 w73 ho hb hg hat; rw [← Ny209.out] at ho; replace za := aM (blk_grown (g := zb) (pK za.out) hg (Kd.R_ne zak.out za.out (by decide))); replace zh := aM (Kd.R_after (ok := (fun k_ => some k_ ≠ (.slice zbi z8.length zbj : Value).ownBlock)) (by (with_reducible repeat (first | apply rA | apply rN | apply rD)); exact Kd.R_mono zh.out (fun _ hk => ⟨hk.2, hk.1.2⟩)) hg hat); replace z6 := aM (Kd.R_after (ok := (fun k_ => some k_ ≠ (.slice za2 zaa.length za3 : Value).ownBlock)) (by (with_reducible repeat (first | apply rA | apply rN | apply rD)); exact Kd.R_mono z6.out (fun _ hk => ⟨hk.1.2, hk.2⟩)) hg hat); replace HB := aM (hb); have zal := aM (ho); clear zak; clear ho hb hg hat; have hcz75_0 : w73.cell? ⟨zb, 0, none⟩ = some (.int .i64 a0_0) := (blk_cell za.out 0).trans rfl; have hcz75_1 : w73.cell? ⟨zb, 1, none⟩ = some (.int .i64 a0_1) := (blk_cell za.out 1).trans rfl; have hcz75_2 : w73.cell? ⟨zb, 2, none⟩ = some (.int .i64 a0_2) := (blk_cell za.out 2).trans rfl; have hcz75_3 : w73.cell? ⟨zb, 3, none⟩ = some (.slice A0_3 l0_3.length c0_3) := (blk_cell za.out 3).trans rfl; have hcz75_4 : w73.cell? ⟨zb, 4, none⟩ = some (.int .i64 a0_4) := (blk_cell za.out 4).trans rfl; have hcz75_5 : w73.cell? ⟨zb, 5, none⟩ = some (.int .i64 a0_5) := (blk_cell za.out 5).trans rfl; have hcz75_6 : w73.cell? ⟨zb, 6, none⟩ = some (.int .i64 a0_6) := (blk_cell za.out 6).trans rfl; have hcz75_7 : w73.cell? ⟨zb, 7, none⟩ = some (.int .i64 a0_7) := (blk_cell za.out 7).trans rfl; have hcz75_8 : w73.cell? ⟨zb, 8, none⟩ = some (.int .i64 a0_8) := (blk_cell za.out 8).trans rfl; have hcz75_9 : w73.cell? ⟨zb, 9, none⟩ = some (.int .i64 a0_9) := (blk_cell za.out 9).trans rfl; have hcz75_10 : w73.cell? ⟨zb, 10, none⟩ = some (.int .i64 a0_10) := (blk_cell za.out 10).trans rfl; have hcz75_11 : w73.cell? ⟨zb, 11, none⟩ = some (.int .i64 a0_11) := (blk_cell za.out 11).trans rfl; have hcz75_12 : w73.cell? ⟨zb, 12, none⟩ = some (.bool a0_12) := (blk_cell za.out 12).trans rfl; have hcz75_13 : w73.cell? ⟨zb, 13, none⟩ = some (.slice A0_13 l0_13.length c0_13) := (blk_cell za.out 13).trans rfl; have hcz75_14 : w73.cell? ⟨zb, 14, none⟩ = some (.slice A0_14 l0_14.length c0_14) := (blk_cell za.out 14).trans rfl; have hcz75_15 : w73.cell? ⟨zb, 15, none⟩ = some (.slice (some ad198) l0_15.length c0_15) := (blk_cell za.out 15).trans rfl; have hcz75_16 : w73.cell? ⟨zb, 16, none⟩ = some (.bool a0_16) := (blk_cell za.out 16).trans rfl; have hfz75_0 := blk_frozen za.out 0; have hfz75_1 := blk_frozen za.out 1; have hfz75_2 := blk_frozen za.out 2; have hfz75_3 := blk_frozen za.out 3; have hfz75_4 := blk_frozen za.out 4; have hfz75_5 := blk_frozen za.out 5; have hfz75_6 := blk_frozen za.out 6; have hfz75_7 := blk_frozen za.out 7; have hfz75_8 := blk_frozen za.out 8; have hfz75_9 := blk_frozen za.out 9; have hfz75_10 := blk_frozen za.out 10; have hfz75_11 := blk_frozen za.out 11; have hfz75_12 := blk_frozen za.out 12; have hfz75_13 := blk_frozen za.out 13; have hfz75_14 := blk_frozen za.out 14; have hfz75_15 := blk_frozen za.out 15; have hfz75_16 := blk_frozen za.out 16; have p212 : 0 ≤ (x98_3 : Int) := of_decide_eq_true pD; have q212 : x98_3 < (l0_15.length : Int) := of_decide_eq_true pD; obtain ⟨ad212, e212, hx212_0, hx212_1, hx212_2⟩ := at_T71 zaz.out x98_3 p212 q212; obtain rfl : ad198 = ad212 := (by injection e212); replace hx212_0 := (HB.out.cell (World.block_lt_of_cell? w _ hx212_0)).trans hx212_0; replace hx212_1 := (HB.out.cell (World.block_lt_of_cell? w _ hx212_1)).trans hx212_1; replace hx212_2 := (HB.out.cell (World.block_lt_of_cell? w _ hx212_2)).trans hx212_2; replace p212 := eq_true p212; replace q212 := eq_true q212) | ((with_reducible refine gate_callee (f := 28) rfl ?_); refine goesL_ (some 126) rfl rfl Try.func28 (by kernel_rfl) rfl #[.int .u64 ((rd_T71 l0_15 x98_3).f2)] rfl pA ?_; (with_reducible refine (gradineref45_Word.calls k3 ((rd_T71 l0_15 x98_3).f2) z7 _ A65.out).mono ?_); rintro e w76 ⟨v214, rfl, ho0, hb⟩; refine ⟨_, rfl, ?_⟩; have zay := aM (Kd.R_lower (Kd.R_new' (Kd.R_new' (Kd.R_new' ho0 (Kd.R_lt (pR zh.out))) (Kd.R_lt (pR z6.out))) (Kd.R_lt (pR zal.out))) (below_size (qB1 HB zc))); replace zh := eR zh ho0 hb; replace z6 := eR z6 ho0 hb; replace zal := eR zal ho0 hb; replace za := bK za hb; replace HB := bS (qB1 HB zc) hb; (try clear hb); (try clear hk); (try clear hi); (try clear ho0); obtain ⟨zbs, zbt, eo78⟩ := Kd.R_slice zay.out; subst eo78) | ((with_reducible refine gate_builtin (b := .append) (xs := #[.tmp 119, .tmp 126]) rfl ?_); at_builtin; refine Kd.R_append_rows (Kd.int .u8) (w0 := w) w.heap.size rfl (.tmp 119) (.tmp 126) 25 5 (.int .u8 0) 1 rfl Try.underlying25 info5 rfl (by decide) (by omega) v210 zad z7 _ _ _ (fun k_ => some k_ ≠ (.slice za2 zaa.length za3 : Value).ownBlock ∧ some k_ ≠ (.slice zbi z8.length zbj : Value).ownBlock ∧ some k_ ≠ (.slice zbs z7.length zbt : Value).ownBlock) (fun _ => False) rfl rfl ?aO ?aR (fun _ _ h => h) (fun _ h => h.elim) ?aF ?aB ?aS ?aL ?_; (case aR => exact sR zay); (case aB => exact (qB1 HB zc)); (case aF => exact (fun k_ hk => ⟨Kd.fresh' (Kd.R_lt (pR zh.out)) k_ hk, Kd.fresh' (Kd.R_lt (pR z6.out)) k_ hk, Kd.fresh' (Kd.R_lt (pR zay.out)) k_ hk⟩)); (case aO => exact (by (with_reducible repeat (first | apply rA | apply rN | apply rD)); exact Kd.R_mono zal.out (fun _ hk => ⟨hk.1.1, ⟨hk.1.2, hk.2⟩⟩))); (case aS => exact (below_size (qB1 HB zc))); (case aL => have := LMc66.out; omega); intro v217 w77 ho hb hg hat; rw [← Ny216.out] at ho; replace za := aM (blk_grown (g := zb) (pK za.out) hg (Kd.R_ne zal.out za.out (by decide))); replace zh := aM (Kd.R_after (ok := (fun k_ => some k_ ≠ (.slice zbi z8.length zbj : Value).ownBlock ∧ some k_ ≠ (.slice zbs z7.length zbt : Value).ownBlock)) (by (with_reducible repeat (first | apply rA | apply rN | apply rD)); exact Kd.R_mono zh.out (fun _ hk => ⟨⟨hk.1.1, hk.2⟩, hk.1.2⟩)) hg hat); replace z6 := aM (Kd.R_after (ok := (fun k_ => some k_ ≠ (.slice za2 zaa.length za3 : Value).ownBlock ∧ some k_ ≠ (.slice zbs z7.length zbt : Value).ownBlock)) (by (with_reducible repeat (first | apply rA | apply rN | apply rD)); exact Kd.R_mono z6.out (fun _ hk => ⟨⟨hk.1.1, hk.2⟩, hk.1.2⟩)) hg hat); replace zay := aM (Kd.R_after (ok := (fun k_ => some k_ ≠ (.slice za2 zaa.length za3 : Value).ownBlock ∧ some k_ ≠ (.slice zbi z8.length zbj : Value).ownBlock)) (by (with_reducible repeat (first | apply rA | apply rN | apply rD)); exact Kd.R_mono zay.out (fun _ hk => ⟨⟨hk.1.1.2, hk.1.2⟩, hk.2⟩)) hg hat); replace HB := aM (hb); have HO218 := aM (ho); clear zal; clear ho hb hg hat))
       go_roundg k3
       case measure => have := HK1.out; have := HK2.out; have := HK3.out; omega
       case rel => exact ⟨(zb9), (wrap64 (x98_3 + 1)), (pF), H', ⟨by have := HK1.out; have := HK2.out; have := HK3.out; omega⟩, ⟨by (with_reducible repeat (first | apply rA | apply rN | apply rD)); exact Kd.R_mono HO218.out (fun _ hk => trivial)⟩, ⟨pK za.out⟩, ⟨qB1 HB zc⟩⟩
end Go.Proofs.Ytkohdojiockejaa.Q
