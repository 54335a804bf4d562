-- By wip/gprint.py (this session's), out of the kit's print.py.
import Derived.Test.YtjbpekblcecneaaQx0
import Derived.Test.YtjbpekblcecneaaQxfCellsList
import Derived.Test.YtjbpekblcecneaaQxfCellsMeet
import Derived.Test.YtjbpekblcecneaaQxfCellsOnce
import Derived.Test.YtjbpekblcecneaaQxfCellsSpan
import Derived.Test.YtjbpekblcecneaaQxfCellsTimes
import Derived.Test.YtjbpekblcecneaaQxfLaw22Many
import Derived.Test.YtjbpekblcecneaaQxfLaw23SameT
import Derived.Test.YtjbpekblcecneaaQxfPlainInts
import Derived.Test.YtjbpekblcecneaaQxfRef22Cells
import Derived.Test.YtjbpekblcecneaaQxfRef23Meet
import Derived.Test.YtjbpekblcecneaaQxfRef23Once
import Derived.Test.YtjbpekblcecneaaQxfRef23Span
import Derived.Test.YtjbpekblcecneaaQxfRef23Times
namespace Go.Proofs.Ytjbpekblcecneaa.Q
open Go.RowKit Go.Proofs.YtjbpekblcecneaaW.PrintWords Go.Proofs.YtjbpekblcecneaaW.PrintLast Go.Proofs.YtjbpekblcecneaaW.PrintMore
attribute [local go_sem] max2_int min2_int max_two min_two max_three min_three max_four min_four   -- for this text's walks alone
set_option linter.unusedVariables false
set_option linter.unusedSimpArgs false

/-! ### gradinelaw23_CellsTells: function 6 -/
mutual
def gradinelaw23_CellsTells.j0 : Nat → Int → Bool → Int → List Int → List Int → Int → List Int → List Int → Option (Bool)
 | 0, _, _, _, _, _, _, _, _ => none
 | k + 1, x2, x19, ze, zf, zg, zi, zj, zk => if x19 = true then ((gradinelaw23_same.f).bind fun zao => (some zao)) else ((gradineref22_Cells.f k ze zf zg 64).bind fun zl => ((gradineref22_Cells.f k zi zj zk 64).bind fun zw => ((cells_Span.f k ze zf zg).bind fun bt821 => (if (bt821.2.2 != (decide ((zl.length : Int) > 0))) = true then (gradinelaw23_CellsTells.j1 k x2 zl zw bt821.1 bt821.2.1 bt821.2.2 true ze zf zg zi zj zk) else (if bt821.2.2 = true then (gradinelaw23_CellsTells.j1 k x2 zl zw bt821.1 bt821.2.1 bt821.2.2 false ze zf zg zi zj zk) else (if bt821.1 = 0 then (gradinelaw23_CellsTells.j1 k x2 zl zw bt821.1 bt821.2.1 bt821.2.2 (bt821.2.1 != 0) ze zf zg zi zj zk) else (gradinelaw23_CellsTells.j1 k x2 zl zw bt821.1 bt821.2.1 bt821.2.2 true ze zf zg zi zj zk)))))))
def gradinelaw23_CellsTells.j1 : Nat → Int → List Int → List Int → Int → Int → Bool → Bool → Int → List Int → List Int → Int → List Int → List Int → Option (Bool)
 | 0, _, _, _, _, _, _, _, _, _, _, _, _, _ => none
 | k + 1, x2, x7, x8, x9, x10, x11, x47, ze, zf, zg, zi, zj, zk => if x47 = true then (some false) else (if x11 = true then ((gradineref23_Span.f k x7).bind fun bt824 => (if x9 = bt824.1 then (if x10 = bt824.2 then (gradinelaw23_CellsTells.j2 k x2 x7 x8 ze zf zg zi zj zk) else (some false)) else (some false))) else (gradinelaw23_CellsTells.j2 k x2 x7 x8 ze zf zg zi zj zk))
def gradinelaw23_CellsTells.j2 : Nat → Int → List Int → List Int → Int → List Int → List Int → Int → List Int → List Int → Option (Bool)
 | 0, _, _, _, _, _, _, _, _, _ => none
 | k + 1, x2, x7, x8, ze, zf, zg, zi, zj, zk => (cells_List.f k ze zf zg).bind fun zae => ((gradineplain_Ints.f k zae x7).bind fun zap => (if zap = true then ((cells_Once.f k ze zf zg).bind fun zx => ((gradineref23_Once.f k x7).bind fun zy => (if (zx == zy) = true then ((cells_Meet.f k ze zf zg zi zj zk).bind fun zz => ((gradineref23_Meet.f k x7 x8).bind fun z0 => (if (zz == z0) = true then ((cells_Times.f k ze zf zg x2).bind fun z4 => ((gradineref23_Times.f k x7 x2).bind fun z5 => (if z4 = z5 then ((gradinelaw23_same.f).bind fun zaq => (some zaq)) else (some false)))) else (some false)))) else (some false)))) else (some false)))
end
def gradinelaw23_CellsTells.f (k : Nat) (a0_0 : Int) (l0_1 : List Int) (l0_2 : List Int) (a1_0 : Int) (l1_1 : List Int) (l1_2 : List Int) (a2 : Int) : Option (Bool) := (gradinelaw22_Many.f a0_0 l0_1 l0_2).bind fun zaf => (if zaf = true then (gradinelaw23_CellsTells.j0 k a2 true a0_0 l0_1 l0_2 a1_0 l1_1 l1_2) else ((gradinelaw22_Many.f a1_0 l1_1 l1_2).bind fun zab => (gradinelaw23_CellsTells.j0 k a2 zab a0_0 l0_1 l0_2 a1_0 l1_1 l1_2)))
set_option maxHeartbeats 8000000 in
set_option maxRecDepth 100000 in
theorem gradinelaw23_CellsTells.calls (k : Nat) (a0_0 : Int) (A0_1 : Option Addr) (c0_1 : Nat) (l0_1 : List Int) (A0_2 : Option Addr) (c0_2 : Nat) (l0_2 : List Int) (a1_0 : Int) (A1_1 : Option Addr) (c1_1 : Nat) (l1_1 : List Int) (A1_2 : Option Addr) (c1_2 : Nat) (l1_2 : List Int) (a2 : Int) (w : World) (hr0_1 : Kd.C (Kd.int .i64) w A0_1 l0_1.length l0_1) (hc0_1 : l0_1.length ≤ c0_1) (hr0_2 : Kd.C (Kd.int .i64) w A0_2 l0_2.length l0_2) (hc0_2 : l0_2.length ≤ c0_2) (hr1_1 : Kd.C (Kd.int .i64) w A1_1 l1_1.length l1_1) (hc1_1 : l1_1.length ≤ c1_1) (hr1_2 : Kd.C (Kd.int .i64) w A1_2 l1_2.length l1_2) (hc1_2 : l1_2.length ≤ c1_2) (h : gradinelaw23_CellsTells.f k a0_0 l0_1 l0_2 a1_0 l1_1 l1_2 a2 = some true) :
  Calls Try.prog 6 #[.agg #[.int .i64 a0_0, .slice A0_1 l0_1.length c0_1, .slice A0_2 l0_2.length c0_2], .agg #[.int .i64 a1_0, .slice A1_1 l1_1.length c1_1, .slice A1_2 l1_2.length c1_2], .int .i64 a2] w fun e w' => e = .returned (.bool true) ∧ Below w.heap.size w w' := by
 have hu24 := Try.underlying24
 have zr := aM hr0_1
 have zs := aM hc0_1
 clear hr0_1 hc0_1
 have zt := aM hr0_2
 have zu := aM hc0_2
 clear hr0_2 hc0_2
 have zag := aM hr1_1
 have zah := aM hc1_1
 clear hr1_1 hc1_1
 have zai := aM hr1_2
 have zaj := aM hc1_2
 clear hr1_2 hc1_2
 have HB := aM (Below.refl w.heap.size w)
 have H : ((gradinelaw22_Many.f a0_0 l0_1 l0_2).bind fun zaf => (if zaf = true then (gradinelaw23_CellsTells.j0 k a2 true a0_0 l0_1 l0_2 a1_0 l1_1 l1_2) else ((gradinelaw22_Many.f a1_0 l1_1 l1_2).bind fun zab => (gradinelaw23_CellsTells.j0 k a2 zab a0_0 l0_1 l0_2 a1_0 l1_1 l1_2)))) = some true := h
 clear h
 have HC4 := aM H
 clear H
 go_enter Try.func6, Try.ntmps6
 go_upto_region 1 with (first | ((with_reducible refine gate_dst (N := 3) rfl ?_); refine box_event ?hg (N := 3) ?hd (cs := #[.int .i64 a0_0, .slice A0_1 l0_1.length c0_1, .slice A0_2 l0_2.length c0_2]) (t := 24) ?hr ?_; (case hd => rfl); (case hg => rfl); (case hr => first | (go_simp; done) | (go_simp; rfl)); intro z1 hg w5 hbox hb; have za := aM (hbox); have GW810 := gE (w := w) hg (qB HB); have zc := GW810; replace HB := bS (qB HB) hb; clear hb hbox hg) | ((with_reducible refine gate_dst (N := 4) rfl ?_); refine box_event ?hg (N := 4) ?hd (cs := #[.int .i64 a1_0, .slice A1_1 l1_1.length c1_1, .slice A1_2 l1_2.length c1_2]) (t := 24) ?hr ?_; (case hd => rfl); (case hg => rfl); (case hr => first | (go_simp; done) | (go_simp; rfl)); intro z2 hg w6 hbox hb; have zb := aM (hbox); have GW811 := gE (w := w) hg (qB1 HB zc); have zd := GW811; replace HB := bS (qB1 HB zc) hb; have zp := nL hg za; have zq := nG hg za; replace za := bK za hb; clear hb hbox hg))
 (try simp only [Act.put, sP])
 go_cut [19] (fun v19 wc => ∃ (kq : Nat) (x19_3 : Bool), v19 = .bool x19_3 ∧ Aside0 (gradinelaw23_CellsTells.j0 kq a2 x19_3 a0_0 l0_1 l0_2 a1_0 l1_1 l1_2 = some true) ∧ Aside0 (kq ≤ k) ∧ Aside0 (wc.heap[z1]? = some (.cells #[.int .i64 a0_0, (.slice A0_1 l0_1.length c0_1), (.slice A0_2 l0_2.length c0_2)] 24 (0, 0))) ∧ Aside0 (wc.heap[z2]? = some (.cells #[.int .i64 a1_0, (.slice A1_1 l1_1.length c1_1), (.slice A1_2 l1_2.length c1_2)] 24 (0, 0))) ∧ Aside0 (Below w.heap.size w wc))
 case first =>
  have H := HC4.out
  clear HC4
  replace H := Option.bind_eq_some_iff.mp H
  obtain ⟨zaf, A70, H⟩ := H
  try dsimp only at H
  have A7 := aM A70
  clear A70
  by_cases c8 : zaf = true
  ·subst c8
   rw [if_pos rfl] at H
   have H' := aM H
   clear H
   have hnb9 := zp.out
   have hnc9 := zq.out
   obtain ⟨hcz10_0, hcz10_1, hcz10_2, hfz10_0, hfz10_1, hfz10_2⟩ := blk3 za.out
   go_wp2_with (first | ((with_reducible refine gate_callee (f := 8) rfl ?_); refine goesL_ (some 15) rfl rfl Try.func8 (by kernel_rfl) rfl #[.agg #[.int .i64 a0_0, .slice A0_1 l0_1.length c0_1, .slice A0_2 l0_2.length c0_2]] rfl pA ?_; (with_reducible refine (gradinelaw22_Many.calls a0_0 _ _ l0_1 _ _ l0_2 true _ ?s1 ?s2 ?s3 ?s4 A7.out).mono ?_); (case s1 => exact sC zr HB); (case s2 => exact zs.out); (case s3 => exact sC zt HB); (case s4 => exact zu.out); rintro e w11 ⟨rfl, hb⟩; refine ⟨_, rfl, ?_⟩; replace za := bK za hb; replace zb := bK zb hb; replace HB := bS (qB2 HB zc zd) hb; (try clear hb); (try clear hk); (try clear hi)))
   go_meet
   case rel => exact ⟨_, (true), (pF), H', ⟨by first | omega | exact Nat.le_refl _⟩, ⟨pK za.out⟩, ⟨pK zb.out⟩, ⟨qB2 HB zc zd⟩⟩
  replace c8 := Bool.eq_false_iff.mpr c8
  subst c8
  rw [if_neg (show ¬ (false = true) by decide)] at H
  replace H := Option.bind_eq_some_iff.mp H
  obtain ⟨zab, zar, H⟩ := H
  try dsimp only at H
  have A12 := aM zar
  clear zar
  have H' := aM H
  clear H
  have hnb13 := zp.out
  have hnc13 := zq.out
  obtain ⟨hcz14_0, hcz14_1, hcz14_2, hfz14_0, hfz14_1, hfz14_2⟩ := blk3 za.out
  go_wp2_with (first | ((with_reducible refine gate_callee (f := 8) rfl ?_); refine goesL_ (some 15) rfl rfl Try.func8 (by kernel_rfl) rfl #[.agg #[.int .i64 a0_0, .slice A0_1 l0_1.length c0_1, .slice A0_2 l0_2.length c0_2]] rfl pA ?_; (with_reducible refine (gradinelaw22_Many.calls a0_0 _ _ l0_1 _ _ l0_2 false _ ?s1 ?s2 ?s3 ?s4 A7.out).mono ?_); (case s1 => exact sC zr HB); (case s2 => exact zs.out); (case s3 => exact sC zt HB); (case s4 => exact zu.out); rintro e w15 ⟨rfl, hb⟩; refine ⟨_, rfl, ?_⟩; replace za := bK za hb; replace zb := bK zb hb; replace HB := bS (qB2 HB zc zd) hb; (try clear hb); (try clear hk); (try clear hi); obtain ⟨hcz16_0, hcz16_1, hcz16_2, hfz16_0, hfz16_1, hfz16_2⟩ := blk3 zb.out) | (go_at_call 8; (with_reducible refine (gradinelaw22_Many.calls a1_0 _ _ l1_1 _ _ l1_2 zab _ ?s1 ?s2 ?s3 ?s4 A12.out).mono ?_); (case s1 => exact sC zag HB); (case s2 => exact zah.out); (case s3 => exact sC zai HB); (case s4 => exact zaj.out); rintro e w17 ⟨rfl, hb⟩; replace za := bK za hb; replace zb := bK zb hb; replace HB := bS (qB2 HB zc zd) hb; (try clear hb); (try clear hk); (try clear hi)))
  go_meet
  case rel => exact ⟨_, (zab), (pF), H', ⟨by first | omega | exact Nat.le_refl _⟩, ⟨pK za.out⟩, ⟨pK zb.out⟩, ⟨qB2 HB zc zd⟩⟩
 case rest =>
  clear HC4
  obtain ⟨kq, x19_3, rfl, HA, HJ3, za, zb, HB⟩ := hcut
  cases kq with
  | zero => exact absurd HA.out (by simp [gradinelaw23_CellsTells.j0])
  | succ kj3 =>
   have H := HA.out
   clear HA
   simp only [gradinelaw23_CellsTells.j0] at H
   by_cases c18 : x19_3 = true
   ·subst c18
    rw [if_pos rfl] at H
    replace H := Option.bind_eq_some_iff.mp H
    obtain ⟨zao, zas, H⟩ := H
    try dsimp only at H
    have A19 := aM zas
    clear zas
    have hv_ := aM (Option.some.inj H)
    clear H
    go_wp2_with (first | ((with_reducible refine gate_callee (f := 26) rfl ?_); refine goesL_ (some 20) rfl rfl Try.func26 (by kernel_rfl) rfl #[] rfl pA ?_; (with_reducible refine (gradinelaw23_same.calls  zao _ A19.out).mono ?_); rintro e w20 ⟨rfl, hb⟩; refine ⟨_, rfl, ?_⟩; replace za := bK za hb; replace zb := bK zb hb; replace HB := bS (qB2 HB zc zd) hb; (try clear hb); (try clear hk); (try clear hi)))
    go_ret
    replace hv_ := hv_.out
    exact ⟨pE, qB2 HB zc zd⟩
   replace c18 := Bool.eq_false_iff.mpr c18
   subst c18
   rw [if_neg (show ¬ (false = true) by decide)] at H
   replace H := Option.bind_eq_some_iff.mp H
   obtain ⟨zl, zat, H⟩ := H
   try dsimp only at H
   have A21 := aM zat
   clear zat
   replace H := Option.bind_eq_some_iff.mp H
   obtain ⟨zw, zau, H⟩ := H
   try dsimp only at H
   have A22 := aM zau
   clear zau
   replace H := Option.bind_eq_some_iff.mp H
   obtain ⟨⟨zv, z6, z7⟩, zav, H⟩ := H
   try dsimp only at H
   have A23 := aM zav
   clear zav
   have HC24 := aM H
   clear H
   try go_wp2
   replace za := aM (blk_drew za.out)
   replace zb := aM (blk_drew zb.out)
   replace HB := aM (below_drew1 HB.out)
   refine start_ (n := 6) (S := fun w' => w'.cell? ⟨z1, 0, none⟩ = some (.int .i64 a0_0) ∧ w'.cell? ⟨z1, 1, none⟩ = some (.slice A0_1 l0_1.length c0_1) ∧ w'.cell? ⟨z1, 2, none⟩ = some (.slice A0_2 l0_2.length c0_2) ∧ w'.cell? ⟨z2, 0, none⟩ = some (.int .i64 a1_0) ∧ w'.cell? ⟨z2, 1, none⟩ = some (.slice A1_1 l1_1.length c1_1) ∧ w'.cell? ⟨z2, 2, none⟩ = some (.slice A1_2 l1_2.length c1_2)) (ds := []) (bm 6 0) (by kernel_rfl) rfl rfl ⟨(blk_cell za.out 0).trans rfl, (blk_cell za.out 1).trans rfl, (blk_cell za.out 2).trans rfl, (blk_cell zb.out 0).trans rfl, (blk_cell zb.out 1).trans rfl, (blk_cell zb.out 2).trans rfl⟩ (fun hHeld => ?_)
   generalize wc.drew = w25 at za zb HB hHeld ⊢
   refine take_ (i := 0) (N := some 21) (v := ?_) (a' := ?_) (bm 6 1) rfl rfl (by kernel_rfl) (fun _ _ _ h => h) (Or.inl ⟨by rfl, ?_⟩) hHeld ?_ ?_
   rotate_left
   ·rintro w' ⟨s0, s1, s2, s3, s4, s5⟩
    go_simp
    with_reducible rfl
   rotate_left
   ·simp only [Act.put, sP, i64_w, i32_w]
    rfl
   refine take_ (i := 2) (N := some 23) (v := ?_) (a' := ?_) (bm 6 5) rfl rfl (by kernel_rfl) (fun _ _ _ h => h) (Or.inl ⟨by rfl, ?_⟩) hHeld ?_ ?_
   rotate_left
   ·rintro w' ⟨s0, s1, s2, s3, s4, s5⟩
    go_simp
    with_reducible rfl
   rotate_left
   ·simp only [Act.put, sP, i64_w, i32_w]
    rfl
   refine one_ (i := 1) (N := some 22) (bm 6 7) rfl rfl (by kernel_rfl) (by decide) (fun K hK => ?_)
   refine goes_ Try.func10 (by kernel_rfl) rfl #[.agg #[.int .i64 a0_0, .slice A0_1 l0_1.length c0_1, .slice A0_2 l0_2.length c0_2], .int .i64 64] (by rfl) rfl rfl pA ?_
   with_reducible refine (gradineref22_Cells.calls kj3 a0_0 _ _ l0_1 _ _ l0_2 64 zl _ ?s1 ?s2 ?s3 ?s4 A21.out).mono ?_
   (case s1 => exact sC zr HB)
   (case s2 => exact zs.out)
   (case s3 => exact sC zt HB)
   (case s4 => exact zu.out)
   rintro e w26 ⟨zak, rfl, ho0, hb⟩
   refine ⟨_, rfl, ?_⟩
   have zn := aM (Kd.R_lower ho0 (below_size (qB2 HB zc zd)))
   replace za := bK za hb
   replace zb := bK zb hb
   replace HB := bS (qB2 HB zc zd) hb
   (try clear hb)
   (try clear ho0)
   refine hK.out _ _ ⟨(blk_cell za.out 0).trans rfl, (blk_cell za.out 1).trans rfl, (blk_cell za.out 2).trans rfl, (blk_cell zb.out 0).trans rfl, (blk_cell zb.out 1).trans rfl, (blk_cell zb.out 2).trans rfl⟩ (fun hHeld => ?_)
   clear hK K
   refine norm_ (a' := ?_) ?_ ?_
   rotate_left
   ·show Act.put _ (some 22) _ = _
    simp only [Act.put, sP, i64_w, i32_w]
    rfl
   refine one_ (i := 3) (N := some 24) (bm 6 15) rfl rfl (by kernel_rfl) (by decide) (fun K hK => ?_)
   refine goes_ Try.func10 (by kernel_rfl) rfl #[.agg #[.int .i64 a1_0, .slice A1_1 l1_1.length c1_1, .slice A1_2 l1_2.length c1_2], .int .i64 64] (by rfl) rfl rfl pA ?_
   with_reducible refine (gradineref22_Cells.calls kj3 a1_0 _ _ l1_1 _ _ l1_2 64 zw _ ?s1 ?s2 ?s3 ?s4 A22.out).mono ?_
   (case s1 => exact sC zag HB)
   (case s2 => exact zah.out)
   (case s3 => exact sC zai HB)
   (case s4 => exact zaj.out)
   rintro e w27 ⟨zal, rfl, ho0, hb⟩
   refine ⟨_, rfl, ?_⟩
   have z8 := aM (Kd.R_lower (Kd.R_new' ho0 (Kd.R_lt (pR zn.out))) (below_size (qB2 HB zc zd)))
   replace zn := eR zn ho0 hb
   replace za := bK za hb
   replace zb := bK zb hb
   replace HB := bS (qB2 HB zc zd) hb
   (try clear hb)
   (try clear ho0)
   refine hK.out _ _ ⟨(blk_cell za.out 0).trans rfl, (blk_cell za.out 1).trans rfl, (blk_cell za.out 2).trans rfl, (blk_cell zb.out 0).trans rfl, (blk_cell zb.out 1).trans rfl, (blk_cell zb.out 2).trans rfl⟩ (fun hHeld => ?_)
   clear hK K
   refine norm_ (a' := ?_) ?_ ?_
   rotate_left
   ·show Act.put _ (some 24) _ = _
    simp only [Act.put, sP, i64_w, i32_w]
    rfl
   refine pure_ (i := 4) (N := some 7) (v := ?_) (a' := ?_) (bm 6 31) rfl rfl (by kernel_rfl) (fun _ _ _ h => h) (Or.inl ⟨by rfl, ?_⟩) ?_ ?_
   rotate_left
   ·intro w'
    go_simp
    with_reducible rfl
   rotate_left
   ·simp only [Act.put, sP, i64_w, i32_w]
    rfl
   refine pure_ (i := 5) (N := some 8) (v := ?_) (a' := ?_) (bm 6 63) rfl rfl (by kernel_rfl) (fun _ _ _ h => h) (Or.inl ⟨by rfl, ?_⟩) ?_ ?_
   rotate_left
   ·intro w'
    go_simp
    with_reducible rfl
   rotate_left
   ·simp only [Act.put, sP, i64_w, i32_w]
    rfl
   refine done_ (by kernel_rfl) ?_
   have hnb28 := zp.out
   have hnc28 := zq.out
   obtain ⟨hcz29_0, hcz29_1, hcz29_2, hfz29_0, hfz29_1, hfz29_2⟩ := blk3 za.out
   go_upto_region 5 with (first | ((with_reducible refine gate_callee (f := 27) rfl ?_); refine goesL_ (some 27) rfl rfl Try.func27 (by kernel_rfl) rfl #[.agg #[.int .i64 a0_0, .slice A0_1 l0_1.length c0_1, .slice A0_2 l0_2.length c0_2]] rfl pA ?_; (with_reducible refine (cells_Span.calls kj3 a0_0 _ _ l0_1 _ _ l0_2 zv z6 z7 _ ?s1 ?s2 ?s3 ?s4 A23.out).mono ?_); (case s1 => exact sC zr HB); (case s2 => exact zs.out); (case s3 => exact sC zt HB); (case s4 => exact zu.out); rintro e w30 ⟨rfl, hb⟩; refine ⟨_, rfl, ?_⟩; replace zn := bR zn hb; replace z8 := bR z8 hb; replace za := bK za hb; replace zb := bK zb hb; replace HB := bS (qB2 HB zc zd) hb; (try clear hb); (try clear hk); (try clear hi)))
   (try simp only [Act.put, sP])
   go_cut [47] (fun v47 wc => ∃ (kq : Nat) (x47_23 : Bool), v47 = .bool x47_23 ∧ Aside0 (gradinelaw23_CellsTells.j1 kq a2 zl zw zv z6 z7 x47_23 a0_0 l0_1 l0_2 a1_0 l1_1 l1_2 = some true) ∧ Aside0 (kq ≤ kj3) ∧ Aside0 (Kd.R (Kd.int .i64) 3 wc w.heap.size (fun k_ => some k_ ≠ (zal : Value).ownBlock) zak zl) ∧ Aside0 (Kd.R (Kd.int .i64) 3 wc w.heap.size (fun k_ => some k_ ≠ (zak : Value).ownBlock) zal zw) ∧ Aside0 (wc.heap[z1]? = some (.cells #[.int .i64 a0_0, (.slice A0_1 l0_1.length c0_1), (.slice A0_2 l0_2.length c0_2)] 24 (0, 0))) ∧ Aside0 (wc.heap[z2]? = some (.cells #[.int .i64 a1_0, (.slice A1_1 l1_1.length c1_1), (.slice A1_2 l1_2.length c1_2)] 24 (0, 0))) ∧ Aside0 (Below w.heap.size w wc))
   case first =>
    have H := HC24.out
    clear HC24
    by_cases c31 : (z7 != (decide ((zl.length : Int) > 0))) = true
    ·rw [if_pos c31] at H
     rcases kj3 with _ | n_ <;> exact absurd H (by simp [gradinelaw23_CellsTells.j1])
    rw [if_neg c31] at H
    have z3 : (z7 != (decide ((zl.length : Int) > 0))) = false := by simpa using c31
    (try (have zam : decide (z7 = (decide ((zl.length : Int) > 0))) = true := by simpa using c31))
    (try (have zan : (z7 == (decide ((zl.length : Int) > 0))) = true := by simpa using c31))
    clear c31
    (first | rw [z3] | (simp only [i64_w, i32_w]; rw [z3]) | skip)
    by_cases c33 : z7 = true
    ·subst c33
     rw [if_pos rfl] at H
     have hz_ : decide (0 < (zl.length : Int)) = true := by simpa using z3
     clear z3
     try clear zam
     try clear zan
     have hn_ : zl ≠ [] := fun e_ => by rw [e_] at hz_; exact absurd hz_ (by decide)
     clear hz_
     obtain ⟨x_, l_, hl_⟩ := List.exists_cons_of_ne_nil hn_
     clear hn_
     subst hl_
     have H' := aM H
     clear H
     obtain ⟨Ao34, co34, eo34⟩ := Kd.R_slice zn.out
     subst eo34
     go_wp2
     go_meet
     case rel => exact ⟨_, (false), (pF), H', ⟨by have := HJ3.out; first | omega | exact Nat.le_refl _⟩, ⟨by (with_reducible repeat (first | apply rA | apply rN | apply rD)); exact Kd.R_mono zn.out (fun _ hk => hk.2)⟩, ⟨by (with_reducible repeat (first | apply rA | apply rN | apply rD)); exact Kd.R_mono z8.out (fun _ hk => hk.2)⟩, ⟨pK za.out⟩, ⟨pK zb.out⟩, ⟨qB2 HB zc zd⟩⟩
    replace c33 := Bool.eq_false_iff.mpr c33
    subst c33
    rw [if_neg (show ¬ (false = true) by decide)] at H
    have hz_ : decide (0 < (zl.length : Int)) = false := by simpa using z3
    clear z3
    try clear zam
    try clear zan
    have hl_ : zl = [] := List.length_eq_zero_iff.1 (by have h_ := of_decide_eq_false hz_; omega)
    clear hz_
    subst hl_
    by_cases c35 : zv = 0
    rotate_left
    ·rw [if_neg c35] at H
     have c35b0 : (zv == 0) = false := beq_eq_false_iff_ne.mpr c35
     have c35b1 : (zv != 0) = true := bne_iff_ne.mpr c35
     have H' := aM H
     clear H
     obtain ⟨Ao37, co37, eo37⟩ := Kd.R_slice zn.out
     subst eo37
     go_wp2
     go_meet
     case rel => exact ⟨_, (true), (pF), H', ⟨by have := HJ3.out; first | omega | exact Nat.le_refl _⟩, ⟨by (with_reducible repeat (first | apply rA | apply rN | apply rD)); exact Kd.R_mono zn.out (fun _ hk => hk.2)⟩, ⟨by (with_reducible repeat (first | apply rA | apply rN | apply rD)); exact Kd.R_mono z8.out (fun _ hk => hk.2)⟩, ⟨pK za.out⟩, ⟨pK zb.out⟩, ⟨qB2 HB zc zd⟩⟩
    rw [if_pos c35] at H
    have c35b0 : (zv == 0) = true := beq_iff_eq.mpr c35
    have c35b1 : (zv != 0) = false := bne_eq_false_iff_eq.mpr c35
    clear c35
    have H' := aM H
    clear H
    obtain ⟨Ao36, co36, eo36⟩ := Kd.R_slice zn.out
    subst eo36
    go_wp2
    go_meet
    case rel => exact ⟨_, ((z6 != 0)), (pF), H', ⟨by have := HJ3.out; first | omega | exact Nat.le_refl _⟩, ⟨by (with_reducible repeat (first | apply rA | apply rN | apply rD)); exact Kd.R_mono zn.out (fun _ hk => hk.2)⟩, ⟨by (with_reducible repeat (first | apply rA | apply rN | apply rD)); exact Kd.R_mono z8.out (fun _ hk => hk.2)⟩, ⟨pK za.out⟩, ⟨pK zb.out⟩, ⟨qB2 HB zc zd⟩⟩
   case rest =>
    clear HC24
    try clear c18
    try clear hcz29_0 hcz29_1 hcz29_2 hfz29_0 hfz29_1 hfz29_2
    obtain ⟨kq, x47_23, rfl, HA, zaw, zh, zm, za, zb, HB⟩ := hcut
    cases kq with
    | zero => exact absurd HA.out (by simp [gradinelaw23_CellsTells.j1])
    | succ zax =>
     have H := HA.out
     clear HA
     simp only [gradinelaw23_CellsTells.j1] at H
     by_cases c38 : x47_23 = true
     ·subst c38
      rw [if_pos rfl] at H
      exact absurd H (by simp)
     replace c38 := Bool.eq_false_iff.mpr c38
     subst c38
     rw [if_neg (show ¬ (false = true) by decide)] at H
     have HC39 := aM H
     clear H
     go_upto_if 48 with (fail)
     go_cut [] (fun wc => ∃ (kq : Nat), Aside0 (gradinelaw23_CellsTells.j2 kq a2 zl zw a0_0 l0_1 l0_2 a1_0 l1_1 l1_2 = some true) ∧ Aside0 (kq ≤ zax) ∧ Aside0 (Kd.R (Kd.int .i64) 3 wc w.heap.size (fun k_ => some k_ ≠ (zal : Value).ownBlock) zak zl) ∧ Aside0 (Kd.R (Kd.int .i64) 3 wc w.heap.size (fun k_ => some k_ ≠ (zak : Value).ownBlock) zal zw) ∧ Aside0 (wc.heap[z1]? = some (.cells #[.int .i64 a0_0, (.slice A0_1 l0_1.length c0_1), (.slice A0_2 l0_2.length c0_2)] 24 (0, 0))) ∧ Aside0 (wc.heap[z2]? = some (.cells #[.int .i64 a1_0, (.slice A1_1 l1_1.length c1_1), (.slice A1_2 l1_2.length c1_2)] 24 (0, 0))) ∧ Aside0 (Below w.heap.size w wc))
     case first =>
      have H := HC39.out
      clear HC39
      by_cases c40 : z7 = true
      rotate_left
      ·replace c40 := Bool.eq_false_iff.mpr c40
       subst c40
       rw [if_neg (show ¬ (false = true) by decide)] at H
       have H' := aM H
       clear H
       go_wp2
       go_meet
       case rel => exact ⟨_, H', ⟨by have := HJ3.out; have := zaw.out; first | omega | exact Nat.le_refl _⟩, ⟨pR zh.out⟩, ⟨pR zm.out⟩, ⟨pK za.out⟩, ⟨pK zb.out⟩, ⟨qB2 HB zc zd⟩⟩
      subst c40
      rw [if_pos rfl] at H
      replace H := Option.bind_eq_some_iff.mp H
      obtain ⟨⟨zac, zad⟩, zay, H⟩ := H
      try dsimp only at H
      have A41 := aM zay
      clear zay
      by_cases c42 : zv = zac
      rotate_left
      ·rw [if_neg c42] at H
       have z9 : (zv == zac) = false := beq_eq_false_iff_ne.mpr c42
       have c42b1 : (zv != zac) = true := bne_iff_ne.mpr c42
       (first | rw [z9] | (simp only [i64_w, i32_w]; rw [z9]) | skip)
       exact absurd H (by simp)
      rw [if_pos c42] at H
      have z9 : (zv == zac) = true := beq_iff_eq.mpr c42
      have c42b1 : (zv != zac) = false := bne_eq_false_iff_eq.mpr c42
      clear c42
      (first | rw [z9] | (simp only [i64_w, i32_w]; rw [z9]) | skip)
      by_cases c43 : z6 = zad
      rotate_left
      ·rw [if_neg c43] at H
       have c43b0 : (z6 == zad) = false := beq_eq_false_iff_ne.mpr c43
       have c43b1 : (z6 != zad) = true := bne_iff_ne.mpr c43
       exact absurd H (by simp)
      rw [if_pos c43] at H
      have c43b0 : (z6 == zad) = true := beq_iff_eq.mpr c43
      have c43b1 : (z6 != zad) = false := bne_eq_false_iff_eq.mpr c43
      clear c43
      have H' := aM H
      clear H
      obtain ⟨Ao44, co44, eo44⟩ := Kd.R_slice zh.out
      subst eo44
      go_wp2_with (first | ((with_reducible refine gate_callee (f := 28) rfl ?_); refine goesL_ (some 51) rfl rfl Try.func28 (by kernel_rfl) rfl #[.slice Ao44 zl.length co44] rfl pA ?_; (with_reducible refine (gradineref23_Span.calls zax _ _ zl zac zad _ ?s1 ?s2 A41.out).mono ?_); (case s1 => exact sR zh); (case s2 => exact sL zh); rintro e w45 ⟨rfl, hb⟩; refine ⟨_, rfl, ?_⟩; replace zh := bR zh hb; replace zm := bR zm hb; replace za := bK za hb; replace zb := bK zb hb; replace HB := bS (qB2 HB zc zd) hb; (try clear hb); (try clear hk); (try clear hi)))
      go_meet
      case rel => exact ⟨_, H', ⟨by have := HJ3.out; have := zaw.out; first | omega | exact Nat.le_refl _⟩, ⟨pR zh.out⟩, ⟨pR zm.out⟩, ⟨pK za.out⟩, ⟨pK zb.out⟩, ⟨qB2 HB zc zd⟩⟩
     case rest =>
      clear HC39
      try clear c38
      obtain ⟨kq, HA, HJ38, zh, zm, za, zb, HB⟩ := hcut
      cases kq with
      | zero => exact absurd HA.out (by simp [gradinelaw23_CellsTells.j2])
      | succ zaa =>
       have H := HA.out
       clear HA
       simp only [gradinelaw23_CellsTells.j2] at H
       replace H := Option.bind_eq_some_iff.mp H
       obtain ⟨zae, zaz, H⟩ := H
       try dsimp only at H
       have A46 := aM zaz
       clear zaz
       replace H := Option.bind_eq_some_iff.mp H
       obtain ⟨zap, za0, H⟩ := H
       try dsimp only at H
       have A47 := aM za0
       clear za0
       by_cases c48 : zap = true
       rotate_left
       ·replace c48 := Bool.eq_false_iff.mpr c48
        subst c48
        rw [if_neg (show ¬ (false = true) by decide)] at H
        exact absurd H (by simp)

       subst c48
       rw [if_pos rfl] at H
       replace H := Option.bind_eq_some_iff.mp H
       obtain ⟨zx, za1, H⟩ := H
       try dsimp only at H
       have A49 := aM za1
       clear za1
       replace H := Option.bind_eq_some_iff.mp H
       obtain ⟨zy, za2, H⟩ := H
       try dsimp only at H
       have A50 := aM za2
       clear za2
       by_cases c51 : (zx == zy) = true
       rotate_left
       ·rw [if_neg c51] at H
        have c51b0 : (zx == zy) = false := by simpa using c51
        (try (have c51b1 : decide (zx = zy) = false := by simpa using c51))
        (try (have c51b2 : (zx == zy) = false := by simpa using c51))
        (try (have c51b3 : ¬ (zx = zy) := by simpa using c51))
        clear c51
        exact absurd H (by simp)
       rw [if_pos c51] at H
       have c51b0 : (zx == zy) = true := c51
       (try (have c51b1 : decide (zx = zy) = true := by simpa using c51))
       (try (have c51b2 : (zx == zy) = true := by simpa using c51))
       clear c51
       replace H := Option.bind_eq_some_iff.mp H
       obtain ⟨zz, za3, H⟩ := H
       try dsimp only at H
       have A52 := aM za3
       clear za3
       replace H := Option.bind_eq_some_iff.mp H
       obtain ⟨z0, za4, H⟩ := H
       try dsimp only at H
       have A53 := aM za4
       clear za4
       by_cases c54 : (zz == z0) = true
       rotate_left
       ·rw [if_neg c54] at H
        have c54b0 : (zz == z0) = false := by simpa using c54
        (try (have c54b1 : decide (zz = z0) = false := by simpa using c54))
        (try (have c54b2 : (zz == z0) = false := by simpa using c54))
        (try (have c54b3 : ¬ (zz = z0) := by simpa using c54))
        clear c54
        exact absurd H (by simp)
       rw [if_pos c54] at H
       have c54b0 : (zz == z0) = true := c54
       (try (have c54b1 : decide (zz = z0) = true := by simpa using c54))
       (try (have c54b2 : (zz == z0) = true := by simpa using c54))
       clear c54
       replace H := Option.bind_eq_some_iff.mp H
       obtain ⟨z4, za5, H⟩ := H
       try dsimp only at H
       have A55 := aM za5
       clear za5
       replace H := Option.bind_eq_some_iff.mp H
       obtain ⟨z5, za6, H⟩ := H
       try dsimp only at H
       have A56 := aM za6
       clear za6
       by_cases c57 : z4 = z5
       rotate_left
       ·rw [if_neg c57] at H
        have c57b0 : (z4 == z5) = false := beq_eq_false_iff_ne.mpr c57
        have c57b1 : (z4 != z5) = true := bne_iff_ne.mpr c57
        exact absurd H (by simp)
       rw [if_pos c57] at H
       have c57b0 : (z4 == z5) = true := beq_iff_eq.mpr c57
       have c57b1 : (z4 != z5) = false := bne_eq_false_iff_eq.mpr c57
       clear c57
       replace H := Option.bind_eq_some_iff.mp H
       obtain ⟨zaq, za7, H⟩ := H
       try dsimp only at H
       have A58 := aM za7
       clear za7
       have hv_ := aM (Option.some.inj H)
       clear H
       have hnb59 := zp.out
       have hnc59 := zq.out
       obtain ⟨hcz60_0, hcz60_1, hcz60_2, hfz60_0, hfz60_1, hfz60_2⟩ := blk3 za.out
       go_wp2_with (first | ((with_reducible refine gate_callee (f := 29) rfl ?_); refine goesL_ (some 63) rfl rfl Try.func29 (by kernel_rfl) rfl #[.agg #[.int .i64 a0_0, .slice A0_1 l0_1.length c0_1, .slice A0_2 l0_2.length c0_2]] rfl pA ?_; (with_reducible refine (cells_List.calls zaa a0_0 _ _ l0_1 _ _ l0_2 zae _ ?s1 ?s2 ?s3 ?s4 A46.out).mono ?_); (case s1 => exact sC zr HB); (case s2 => exact zs.out); (case s3 => exact sC zt HB); (case s4 => exact zu.out); rintro e w61 ⟨v827, rfl, ho0, hb⟩; refine ⟨_, rfl, ?_⟩; have zo := aM (Kd.R_lower (Kd.R_new' (Kd.R_new' ho0 (Kd.R_lt (pR zh.out))) (Kd.R_lt (pR zm.out))) (below_size (qB2 HB zc zd))); replace zh := eR zh ho0 hb; replace zm := eR zm ho0 hb; replace za := bK za hb; replace zb := bK zb hb; replace HB := bS (qB2 HB zc zd) hb; (try clear hb); (try clear hk); (try clear hi); (try clear ho0); obtain ⟨Ao62, co62, eo62⟩ := Kd.R_slice zo.out; subst eo62; obtain ⟨Ao63, co63, eo63⟩ := Kd.R_slice zh.out; subst eo63) | ((with_reducible refine gate_callee (f := 20) rfl ?_); refine goesL_ (some 65) rfl rfl Try.func20 (by kernel_rfl) rfl #[.slice Ao62 zae.length co62, .slice Ao63 zl.length co63] rfl pA ?_; (with_reducible refine (gradineplain_Ints.calls zaa _ _ zae _ _ zl true _ ?s1 ?s2 ?s3 ?s4 A47.out).mono ?_); (case s1 => exact sR zo); (case s2 => exact sL zo); (case s3 => exact sR zh); (case s4 => exact sL zh); rintro e w' ⟨rfl, ⟨nd, rfl⟩⟩; refine ⟨_, rfl, ?_⟩; obtain ⟨hcz64_0, hcz64_1, hcz64_2, hfz64_0, hfz64_1, hfz64_2⟩ := blk3 za.out) | (go_at_call 30; (with_reducible refine (cells_Once.calls zaa a0_0 _ _ l0_1 _ _ l0_2 zx _ ?s1 ?s2 ?s3 ?s4 A49.out).mono ?_); (case s1 => exact pC (Kd.C_below zr.out (qB2 HB zc zd))); (case s2 => exact zs.out); (case s3 => exact pC (Kd.C_below zt.out (qB2 HB zc zd))); (case s4 => exact zu.out); rintro e w65 ⟨rfl, hb⟩; replace zh := bR zh hb; replace zm := bR zm hb; replace zo := bR zo hb; replace za := bK za hb; replace zb := bK zb hb; replace HB := bS (qB2 HB zc zd) hb; (try clear hb); (try clear hk); (try clear hi)) | (go_at_call 31; (with_reducible refine (gradineref23_Once.calls zaa _ _ zl zy _ ?s1 ?s2 A50.out).mono ?_); (case s1 => exact sR zh); (case s2 => exact sL zh); rintro e w' ⟨rfl, ⟨nd, rfl⟩⟩; obtain ⟨hcz66_0, hcz66_1, hcz66_2, hfz66_0, hfz66_1, hfz66_2⟩ := blk3 za.out; obtain ⟨hcz67_0, hcz67_1, hcz67_2, hfz67_0, hfz67_1, hfz67_2⟩ := blk3 zb.out) | (go_at_call 32; (with_reducible refine (cells_Meet.calls zaa a0_0 _ _ l0_1 _ _ l0_2 a1_0 _ _ l1_1 _ _ l1_2 zz _ ?s1 ?s2 ?s3 ?s4 ?s5 ?s6 ?s7 ?s8 A52.out).mono ?_); (case s1 => exact pC (Kd.C_below zr.out (qB2 HB zc zd))); (case s2 => exact zs.out); (case s3 => exact pC (Kd.C_below zt.out (qB2 HB zc zd))); (case s4 => exact zu.out); (case s5 => exact pC (Kd.C_below zag.out (qB2 HB zc zd))); (case s6 => exact zah.out); (case s7 => exact pC (Kd.C_below zai.out (qB2 HB zc zd))); (case s8 => exact zaj.out); rintro e w68 ⟨rfl, hb⟩; replace zh := bR zh hb; replace zm := bR zm hb; replace zo := bR zo hb; replace za := bK za hb; replace zb := bK zb hb; replace HB := bS (qB2 HB zc zd) hb; (try clear hb); (try clear hk); (try clear hi); obtain ⟨Ao69, co69, eo69⟩ := Kd.R_slice zm.out; subst eo69) | (go_at_call 33; (with_reducible refine (gradineref23_Meet.calls zaa _ _ zl _ _ zw z0 _ ?s1 ?s2 ?s3 ?s4 A53.out).mono ?_); (case s1 => exact sR zh); (case s2 => exact sL zh); (case s3 => exact sR zm); (case s4 => exact sL zm); rintro e w' ⟨rfl, ⟨nd, rfl⟩⟩; obtain ⟨hcz70_0, hcz70_1, hcz70_2, hfz70_0, hfz70_1, hfz70_2⟩ := blk3 za.out) | (go_at_call 34; (with_reducible refine (cells_Times.calls zaa a0_0 _ _ l0_1 _ _ l0_2 a2 z4 _ ?s1 ?s2 ?s3 ?s4 A55.out).mono ?_); (case s1 => exact pC (Kd.C_below zr.out (qB2 HB zc zd))); (case s2 => exact zs.out); (case s3 => exact pC (Kd.C_below zt.out (qB2 HB zc zd))); (case s4 => exact zu.out); rintro e w71 ⟨rfl, hb⟩; replace zh := bR zh hb; replace zm := bR zm hb; replace zo := bR zo hb; replace za := bK za hb; replace zb := bK zb hb; replace HB := bS (qB2 HB zc zd) hb; (try clear hb); (try clear hk); (try clear hi)) | (go_at_call 35; (with_reducible refine (gradineref23_Times.calls zaa _ _ zl a2 z5 _ ?s1 ?s2 A56.out).mono ?_); (case s1 => exact sR zh); (case s2 => exact sL zh); rintro e w' ⟨rfl, ⟨nd, rfl⟩⟩) | (go_at_call 26; (with_reducible refine (gradinelaw23_same.calls  zaq _ A58.out).mono ?_); rintro e w72 ⟨rfl, hb⟩; replace zh := bR zh hb; replace zm := bR zm hb; replace zo := bR zo hb; replace za := bK za hb; replace zb := bK zb hb; replace HB := bS (qB2 HB zc zd) hb; (try clear hb); (try clear hk); (try clear hi)))
       go_ret
       replace hv_ := hv_.out
       exact ⟨pE, qB2 HB zc zd⟩
end Go.Proofs.Ytjbpekblcecneaa.Q
