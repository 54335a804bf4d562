-- By wip/gprint.py (this session's), out of the kit's print.py.
import Derived.Test.YtjbpekblcecneaaQx0
import Derived.Test.YtjbpekblcecneaaQxfCellsOf
namespace Go.Proofs.Ytjbpekblcecneaa.Q
open Go.RowKit Go.Proofs.YtjbpekblcecneaaW.PrintWords Go.Proofs.YtjbpekblcecneaaW.PrintLast Go.Proofs.YtjbpekblcecneaaW.PrintMore
attribute [local go_sem] max2_int min2_int max_two min_two max_three min_three max_four min_four   -- for this text's walks alone
set_option linter.unusedVariables false
set_option linter.unusedSimpArgs false

/-! ### cells_Meet: function 32 (ours) -/
def cells_Meet.any : List Int → List Int → Bool
  | x :: s, y :: t => if x > 0 ∧ y > 0 then true else cells_Meet.any s t
  | _, _ => false
def cells_Meet.f (k : Nat) (a0_0 : Int) (l0_1 l0_2 : List Int) (a1_0 : Int) (l1_1 l1_2 : List Int) : Option Bool := (cells_of.f k a0_0 l0_1 l0_2).bind fun s => (cells_of.f k a1_0 l1_1 l1_2).bind fun t => some (cells_Meet.any s t)
theorem cells_Meet.bits1 : waitsOk (rtab .any (opsOf Try.f32 1)).2 [0, 1, 0, 7, 0, 0, 63, 127] = true := by kernel_rfl
set_option maxHeartbeats 8000000 in
set_option maxRecDepth 100000 in
theorem cells_Meet.calls (k : Nat) (a0_0 : Int) (A0_1 : Option Addr) (c0_1 : Nat) (l0_1 : List Int) (A0_2 : Option Addr) (c0_2 : Nat) (l0_2 : List Int) (a1_0 : Int) (A1_1 : Option Addr) (c1_1 : Nat) (l1_1 : List Int) (A1_2 : Option Addr) (c1_2 : Nat) (l1_2 : List Int) (r : Bool) (w : World) (hr0_1 : Kd.C (Kd.int .i64) w A0_1 l0_1.length l0_1) (hc0_1 : l0_1.length ≤ c0_1) (hr0_2 : Kd.C (Kd.int .i64) w A0_2 l0_2.length l0_2) (hc0_2 : l0_2.length ≤ c0_2) (hr1_1 : Kd.C (Kd.int .i64) w A1_1 l1_1.length l1_1) (hc1_1 : l1_1.length ≤ c1_1) (hr1_2 : Kd.C (Kd.int .i64) w A1_2 l1_2.length l1_2) (hc1_2 : l1_2.length ≤ c1_2) (h : cells_Meet.f k a0_0 l0_1 l0_2 a1_0 l1_1 l1_2 = some r) :
  Calls Try.prog 32 #[.agg #[.int .i64 a0_0, .slice A0_1 l0_1.length c0_1, .slice A0_2 l0_2.length c0_2], .agg #[.int .i64 a1_0, .slice A1_1 l1_1.length c1_1, .slice A1_2 l1_2.length c1_2]] w fun e w' => e = .returned (.bool r) ∧ Below w.heap.size w w' := by
 have hu24 := Try.underlying24
 have HR0_1 := aM hr0_1
 have HC0_1 := aM hc0_1
 have HR0_2 := aM hr0_2
 have HC0_2 := aM hc0_2
 have HR1_1 := aM hr1_1
 have HC1_1 := aM hc1_1
 have HR1_2 := aM hr1_2
 have HC1_2 := aM hc1_2
 clear hr0_1 hc0_1 hr0_2 hc0_2 hr1_1 hc1_1 hr1_2 hc1_2
 have HB := aM (Below.refl w.heap.size w)
 replace h := Option.bind_eq_some_iff.mp h
 obtain ⟨ya, Ea, h⟩ := h
 replace h := Option.bind_eq_some_iff.mp h
 obtain ⟨yb, Eb, h⟩ := h
 have H' := aM (Option.some.inj h)
 have Aa := aM Ea
 have Ab := aM Eb
 have HSa := aM (cells_of.size Ea)
 have HSb := aM (cells_of.size Eb)
 have hzya := aM (vals_size ya HSa.out)
 have hzyb := aM (vals_size yb HSb.out)
 clear h Ea Eb
 go_enter Try.func32, Try.ntmps32
 go_wp2_with (first | ((with_reducible refine gate_dst (N := 2) rfl ?_); refine box_event ?hg (N := 2) ?hd (cs := #[.int .i64 a0_0, .slice A0_1 l0_1.length c0_1, .slice A0_2 l0_2.length c0_2]) (t := 24) ?hr ?_; (case hd => rfl); (case hg => rfl); (case hr => first | (go_simp; done) | (go_simp; rfl)); intro ga hg w5 hbox hb; have BKa := aM (hbox); have GEa := gE (w := w) hg (qB HB); replace HB := bS (qB HB) hb; clear hb hbox hg) | ((with_reducible refine gate_dst (N := 3) rfl ?_); refine box_event ?hg (N := 3) ?hd (cs := #[.int .i64 a1_0, .slice A1_1 l1_1.length c1_1, .slice A1_2 l1_2.length c1_2]) (t := 24) ?hr ?_; (case hd => rfl); (case hg => rfl); (case hr => first | (go_simp; done) | (go_simp; rfl)); intro gb hg w6 hbox hb; have BKb := aM (hbox); have GEb := gE (w := w) hg (qB1 HB GEa); replace BKa := bK BKa hb; replace HB := bS (qB1 HB GEa) hb; clear hb hbox hg))
 replace BKa := aM (blk_drew BKa.out)
 replace BKb := aM (blk_drew BKb.out)
 replace HB := aM (below_drew1 HB.out)
 refine start_ (n := 8) (S := fun w' => w'.heap[ga]? = some (.cells #[.int .i64 a0_0, .slice A0_1 l0_1.length c0_1, .slice A0_2 l0_2.length c0_2] 24 (0, 0)) ∧ w'.heap[gb]? = some (.cells #[.int .i64 a1_0, .slice A1_1 l1_1.length c1_1, .slice A1_2 l1_2.length c1_2] 24 (0, 0))) (ds := []) (bm 8 0) (by kernel_rfl) rfl rfl ⟨BKa.out, BKb.out⟩ (fun hHeld => ?_); refine with_tabW (T := rtab .any (opsOf Try.f32 1)) rfl cells_Meet.bits1 (fun HT_ HW_ => ?_)
 generalize World.drew _ = w7 at BKa BKb HB hHeld ⊢
 refine pT (i := 0) (N := some 9) (bm 8 1) rfl rfl HT_.out HW_.out hHeld (by rintro w' ⟨s0, s1⟩; obtain ⟨x0, x1, x2, y0, y1, y2⟩ := blk3 s0; clear s0 s1; go_simp; with_reducible rfl) ?_
 refine pT (i := 2) (N := some 11) (bm 8 5) rfl rfl HT_.out HW_.out hHeld (by rintro w' ⟨s0, s1⟩; obtain ⟨x0, x1, x2, y0, y1, y2⟩ := blk3 s1; clear s0 s1; go_simp; with_reducible rfl) ?_
 refine join_ (σ := Nat × Nat) 2 (bm 8 63) (fun s_ => [(10, .agg (vals ya)), (12, .agg (vals yb)), (5, .pointer (some ⟨s_.1, 0, none⟩)), (6, .pointer (some ⟨s_.2, 0, none⟩))]) (fun s_ w' => (w'.heap[ga]? = some (.cells #[.int .i64 a0_0, .slice A0_1 l0_1.length c0_1, .slice A0_2 l0_2.length c0_2] 24 (0, 0)) ∧ w'.heap[gb]? = some (.cells #[.int .i64 a1_0, .slice A1_1 l1_1.length c1_1, .slice A1_2 l1_2.length c1_2] 24 (0, 0))) ∧ (w'.heap[s_.1]? = some (.cells (vals zeros) 72 (0, 0))) ∧ (w.heap.size ≤ s_.1) ∧ (ga ≠ s_.1) ∧ (gb ≠ s_.1) ∧ (w'.heap[s_.2]? = some (.cells (vals zeros) 72 (0, 0))) ∧ (w.heap.size ≤ s_.2) ∧ (ga ≠ s_.2) ∧ (gb ≠ s_.2) ∧ (s_.1 ≠ s_.2) ∧ (Below w.heap.size w w')) ?_ ?_
 rotate_left
 ·intro hJ2_45
  refine join_ (σ := Nat) 3 (bm 8 31) (fun s_ => [(10, .agg (vals ya)), (12, .agg (vals yb)), (5, .pointer (some ⟨s_, 0, none⟩))]) (fun s_ w' => (w'.heap[ga]? = some (.cells #[.int .i64 a0_0, .slice A0_1 l0_1.length c0_1, .slice A0_2 l0_2.length c0_2] 24 (0, 0)) ∧ w'.heap[gb]? = some (.cells #[.int .i64 a1_0, .slice A1_1 l1_1.length c1_1, .slice A1_2 l1_2.length c1_2] 24 (0, 0))) ∧ (w'.heap[s_]? = some (.cells (vals zeros) 72 (0, 0))) ∧ (w.heap.size ≤ s_) ∧ (ga ≠ s_) ∧ (gb ≠ s_) ∧ (Below w.heap.size w w')) ?_ ?_
  rotate_left
  ·intro hJ2_4
   refine join_ (σ := Nat) 3 (bm 8 47) (fun s_ => [(10, .agg (vals ya)), (12, .agg (vals yb)), (6, .pointer (some ⟨s_, 0, none⟩))]) (fun s_ w' => (w'.heap[ga]? = some (.cells #[.int .i64 a0_0, .slice A0_1 l0_1.length c0_1, .slice A0_2 l0_2.length c0_2] 24 (0, 0)) ∧ w'.heap[gb]? = some (.cells #[.int .i64 a1_0, .slice A1_1 l1_1.length c1_1, .slice A1_2 l1_2.length c1_2] 24 (0, 0))) ∧ (w'.heap[s_]? = some (.cells (vals zeros) 72 (0, 0))) ∧ (w.heap.size ≤ s_) ∧ (ga ≠ s_) ∧ (gb ≠ s_) ∧ (Below w.heap.size w w')) ?_ ?_
   rotate_left
   ·intro hJ2_5
    refine join_ (σ := Nat × Nat) 3 (bm 8 55) (fun s_ => [(10, .agg (vals ya)), (5, .pointer (some ⟨s_.1, 0, none⟩)), (6, .pointer (some ⟨s_.2, 0, none⟩))]) (fun s_ w' => (w'.heap[ga]? = some (.cells #[.int .i64 a0_0, .slice A0_1 l0_1.length c0_1, .slice A0_2 l0_2.length c0_2] 24 (0, 0)) ∧ w'.heap[gb]? = some (.cells #[.int .i64 a1_0, .slice A1_1 l1_1.length c1_1, .slice A1_2 l1_2.length c1_2] 24 (0, 0))) ∧ (w'.heap[s_.1]? = some (.cells (vals zeros) 72 (0, 0))) ∧ (w.heap.size ≤ s_.1) ∧ (ga ≠ s_.1) ∧ (gb ≠ s_.1) ∧ (w'.heap[s_.2]? = some (.cells (vals zeros) 72 (0, 0))) ∧ (w.heap.size ≤ s_.2) ∧ (ga ≠ s_.2) ∧ (gb ≠ s_.2) ∧ (s_.1 ≠ s_.2) ∧ (Below w.heap.size w w')) ?_ ?_
    rotate_left
    ·intro hJ1_45
     refine join_ (σ := Nat) 4 (bm 8 23) (fun s_ => [(10, .agg (vals ya)), (5, .pointer (some ⟨s_, 0, none⟩))]) (fun s_ w' => (w'.heap[ga]? = some (.cells #[.int .i64 a0_0, .slice A0_1 l0_1.length c0_1, .slice A0_2 l0_2.length c0_2] 24 (0, 0)) ∧ w'.heap[gb]? = some (.cells #[.int .i64 a1_0, .slice A1_1 l1_1.length c1_1, .slice A1_2 l1_2.length c1_2] 24 (0, 0))) ∧ (w'.heap[s_]? = some (.cells (vals zeros) 72 (0, 0))) ∧ (w.heap.size ≤ s_) ∧ (ga ≠ s_) ∧ (gb ≠ s_) ∧ (Below w.heap.size w w')) ?_ ?_
     rotate_left
     ·intro hJ1_4
      refine join_ (σ := Nat) 4 (bm 8 39) (fun s_ => [(10, .agg (vals ya)), (6, .pointer (some ⟨s_, 0, none⟩))]) (fun s_ w' => (w'.heap[ga]? = some (.cells #[.int .i64 a0_0, .slice A0_1 l0_1.length c0_1, .slice A0_2 l0_2.length c0_2] 24 (0, 0)) ∧ w'.heap[gb]? = some (.cells #[.int .i64 a1_0, .slice A1_1 l1_1.length c1_1, .slice A1_2 l1_2.length c1_2] 24 (0, 0))) ∧ (w'.heap[s_]? = some (.cells (vals zeros) 72 (0, 0))) ∧ (w.heap.size ≤ s_) ∧ (ga ≠ s_) ∧ (gb ≠ s_) ∧ (Below w.heap.size w w')) ?_ ?_
      rotate_left
      ·intro hJ1_5
       refine join_ (σ := Nat × Nat) 4 (bm 8 53) (fun s_ => [(5, .pointer (some ⟨s_.1, 0, none⟩)), (6, .pointer (some ⟨s_.2, 0, none⟩))]) (fun s_ w' => (w'.heap[ga]? = some (.cells #[.int .i64 a0_0, .slice A0_1 l0_1.length c0_1, .slice A0_2 l0_2.length c0_2] 24 (0, 0)) ∧ w'.heap[gb]? = some (.cells #[.int .i64 a1_0, .slice A1_1 l1_1.length c1_1, .slice A1_2 l1_2.length c1_2] 24 (0, 0))) ∧ (w'.heap[s_.1]? = some (.cells (vals zeros) 72 (0, 0))) ∧ (w.heap.size ≤ s_.1) ∧ (ga ≠ s_.1) ∧ (gb ≠ s_.1) ∧ (w'.heap[s_.2]? = some (.cells (vals zeros) 72 (0, 0))) ∧ (w.heap.size ≤ s_.2) ∧ (ga ≠ s_.2) ∧ (gb ≠ s_.2) ∧ (s_.1 ≠ s_.2) ∧ (Below w.heap.size w w')) ?_ ?_
       rotate_left
       ·intro hJ0_45
        refine three_ (i := 1) (j := 4) (k := 5) (Ni := some 10) (Nj := some 5) (Nk := some 6) (bm 8 7) (bm 8 21) (bm 8 37) rfl rfl rfl rfl rfl rfl (three_of HT_.out (by kernel_rfl)) (by decide) (by decide) (by decide) (fun K hK => ?_) (fun K hK => ?_) (fun K hK => ?_)
        ·skip
         refine goes_ Try.func53 (by kernel_rfl) rfl #[.agg #[.int .i64 a0_0, .slice A0_1 l0_1.length c0_1, .slice A0_2 l0_2.length c0_2]] (by rfl) rfl rfl pA ?_
         with_reducible refine (cells_of.calls k a0_0 _ _ l0_1 _ _ l0_2 ya _ ?s1 ?s2 ?s3 ?s4 Aa.out).mono ?_
         (case s1 => exact sC HR0_1 HB)
         (case s2 => exact HC0_1.out)
         (case s3 => exact sC HR0_2 HB)
         (case s4 => exact HC0_2.out)
         rintro e w21 ⟨rfl, hb⟩
         refine ⟨_, rfl, ?_⟩
         replace BKa := bK BKa hb
         replace BKb := bK BKb hb
         replace HB := bS (qB2 HB GEa GEb) hb
         clear hb
         refine hK.out _ _ ⟨BKa.out, BKb.out⟩ (fun hHeld => ?_)
         clear hK K
         refine norm_ (a' := ?_) ?_ ?_
         rotate_left
         ·show Act.put _ (some 10) _ = _
          simp only [Act.put, sP]
          rfl
         refine three_ (i := 3) (j := 4) (k := 5) (Ni := some 12) (Nj := some 5) (Nk := some 6) (bm 8 15) (bm 8 23) (bm 8 39) rfl rfl rfl rfl rfl rfl (three_of HT_.out (by kernel_rfl)) (by decide) (by decide) (by decide) (fun K hK => ?_) (fun K hK => ?_) (fun K hK => ?_)
         ·skip
          refine goes_ Try.func53 (by kernel_rfl) rfl #[.agg #[.int .i64 a1_0, .slice A1_1 l1_1.length c1_1, .slice A1_2 l1_2.length c1_2]] (by rfl) rfl rfl pA ?_
          with_reducible refine (cells_of.calls k a1_0 _ _ l1_1 _ _ l1_2 yb _ ?s1 ?s2 ?s3 ?s4 Ab.out).mono ?_
          (case s1 => exact sC HR1_1 HB)
          (case s2 => exact HC1_1.out)
          (case s3 => exact sC HR1_2 HB)
          (case s4 => exact HC1_2.out)
          rintro e w22 ⟨rfl, hb⟩
          refine ⟨_, rfl, ?_⟩
          replace BKa := bK BKa hb
          replace BKb := bK BKb hb
          replace HB := bS (qB2 HB GEa GEb) hb
          clear hb
          refine hK.out _ _ ⟨BKa.out, BKb.out⟩ (fun hHeld => ?_)
          clear hK K
          refine norm_ (a' := ?_) ?_ ?_
          rotate_left
          ·show Act.put _ (some 12) _ = _
           simp only [Act.put, sP]
           rfl
          refine two_ (i := 4) (j := 5) (Ni := some 5) (Nj := some 6) (bm 8 31) (bm 8 47) rfl rfl rfl rfl (two_of HT_.out (by kernel_rfl)) (by decide) (by decide) (fun K hK => ?_) (fun K hK => ?_)
          ·skip
           refine box_step ?hg (N := 5) ?hd (cs := vals zeros) (t := 72) ?hr ?_; (case hd => rfl); (case hg => rfl); (case hr => first | (go_simp; done) | (go_simp; rfl))
           intro g5 hg w23 hbox hb
           have B5 := aM hbox
           have GE5 := gE (w := w) hg (qB2 HB GEa GEb)
           have Na5 := nL hg BKa
           have Nb5 := nL hg BKb
           replace BKa := bK BKa hb
           replace BKb := bK BKb hb
           replace HB := bS (qB2 HB GEa GEb) hb
           clear hb hbox hg
           refine hK.out _ _ ⟨BKa.out, BKb.out⟩ (fun hHeld => ?_)
           clear hK K
           refine norm_ (a' := ?_) ?_ ?_
           rotate_left
           ·show Act.put _ (some 5) _ = _
            simp only [Act.put, sP]
            rfl
           exact norm_ (by first | (simp only [putAll, Act.put, sP]; done) | (simp only [putAll, Act.put, sP]; rfl)) (hJ2_4 g5 _ ⟨⟨BKa.out, BKb.out⟩, B5.out, GE5.out, Na5.out, Nb5.out, HB.out⟩)
          ·skip
           refine box_step ?hg (N := 6) ?hd (cs := vals zeros) (t := 72) ?hr ?_; (case hd => rfl); (case hg => rfl); (case hr => first | (go_simp; done) | (go_simp; rfl))
           intro g6 hg w24 hbox hb
           have B6 := aM hbox
           have GE6 := gE (w := w) hg (qB2 HB GEa GEb)
           have Na6 := nL hg BKa
           have Nb6 := nL hg BKb
           replace BKa := bK BKa hb
           replace BKb := bK BKb hb
           replace HB := bS (qB2 HB GEa GEb) hb
           clear hb hbox hg
           refine hK.out _ _ ⟨BKa.out, BKb.out⟩ (fun hHeld => ?_)
           clear hK K
           refine norm_ (a' := ?_) ?_ ?_
           rotate_left
           ·show Act.put _ (some 6) _ = _
            simp only [Act.put, sP]
            rfl
           exact norm_ (by first | (simp only [putAll, Act.put, sP]; done) | (simp only [putAll, Act.put, sP]; rfl)) (hJ2_5 g6 _ ⟨⟨BKa.out, BKb.out⟩, B6.out, GE6.out, Na6.out, Nb6.out, HB.out⟩)
         ·skip
          refine box_step ?hg (N := 5) ?hd (cs := vals zeros) (t := 72) ?hr ?_; (case hd => rfl); (case hg => rfl); (case hr => first | (go_simp; done) | (go_simp; rfl))
          intro g5 hg w25 hbox hb
          have B5 := aM hbox
          have GE5 := gE (w := w) hg (qB2 HB GEa GEb)
          have Na5 := nL hg BKa
          have Nb5 := nL hg BKb
          replace BKa := bK BKa hb
          replace BKb := bK BKb hb
          replace HB := bS (qB2 HB GEa GEb) hb
          clear hb hbox hg
          refine hK.out _ _ ⟨BKa.out, BKb.out⟩ (fun hHeld => ?_)
          clear hK K
          refine norm_ (a' := ?_) ?_ ?_
          rotate_left
          ·show Act.put _ (some 5) _ = _
           simp only [Act.put, sP]
           rfl
          exact norm_ (by first | (simp only [putAll, Act.put, sP]; done) | (simp only [putAll, Act.put, sP]; rfl)) (hJ1_4 g5 _ ⟨⟨BKa.out, BKb.out⟩, B5.out, GE5.out, Na5.out, Nb5.out, HB.out⟩)
         ·skip
          refine box_step ?hg (N := 6) ?hd (cs := vals zeros) (t := 72) ?hr ?_; (case hd => rfl); (case hg => rfl); (case hr => first | (go_simp; done) | (go_simp; rfl))
          intro g6 hg w26 hbox hb
          have B6 := aM hbox
          have GE6 := gE (w := w) hg (qB2 HB GEa GEb)
          have Na6 := nL hg BKa
          have Nb6 := nL hg BKb
          replace BKa := bK BKa hb
          replace BKb := bK BKb hb
          replace HB := bS (qB2 HB GEa GEb) hb
          clear hb hbox hg
          refine hK.out _ _ ⟨BKa.out, BKb.out⟩ (fun hHeld => ?_)
          clear hK K
          refine norm_ (a' := ?_) ?_ ?_
          rotate_left
          ·show Act.put _ (some 6) _ = _
           simp only [Act.put, sP]
           rfl
          exact norm_ (by first | (simp only [putAll, Act.put, sP]; done) | (simp only [putAll, Act.put, sP]; rfl)) (hJ1_5 g6 _ ⟨⟨BKa.out, BKb.out⟩, B6.out, GE6.out, Na6.out, Nb6.out, HB.out⟩)
        ·skip
         refine box_step ?hg (N := 5) ?hd (cs := vals zeros) (t := 72) ?hr ?_; (case hd => rfl); (case hg => rfl); (case hr => first | (go_simp; done) | (go_simp; rfl))
         intro g5 hg w27 hbox hb
         have B5 := aM hbox
         have GE5 := gE (w := w) hg (qB2 HB GEa GEb)
         have Na5 := nL hg BKa
         have Nb5 := nL hg BKb
         replace BKa := bK BKa hb
         replace BKb := bK BKb hb
         replace HB := bS (qB2 HB GEa GEb) hb
         clear hb hbox hg
         refine hK.out _ _ ⟨BKa.out, BKb.out⟩ (fun hHeld => ?_)
         clear hK K
         refine norm_ (a' := ?_) ?_ ?_
         rotate_left
         ·show Act.put _ (some 5) _ = _
          simp only [Act.put, sP]
          rfl
         refine two_ (i := 1) (j := 5) (Ni := some 10) (Nj := some 6) (bm 8 23) (bm 8 53) rfl rfl rfl rfl (two_of HT_.out (by kernel_rfl)) (by decide) (by decide) (fun K hK => ?_) (fun K hK => ?_)
         ·skip
          refine goes_ Try.func53 (by kernel_rfl) rfl #[.agg #[.int .i64 a0_0, .slice A0_1 l0_1.length c0_1, .slice A0_2 l0_2.length c0_2]] (by rfl) rfl rfl pA ?_
          with_reducible refine (cells_of.calls k a0_0 _ _ l0_1 _ _ l0_2 ya _ ?s1 ?s2 ?s3 ?s4 Aa.out).mono ?_
          (case s1 => exact sC HR0_1 HB)
          (case s2 => exact HC0_1.out)
          (case s3 => exact sC HR0_2 HB)
          (case s4 => exact HC0_2.out)
          rintro e w28 ⟨rfl, hb⟩
          refine ⟨_, rfl, ?_⟩
          replace B5 := bK B5 hb
          replace BKa := bK BKa hb
          replace BKb := bK BKb hb
          replace HB := bS (qB3 HB GEa GEb GE5) hb
          clear hb
          refine hK.out _ _ ⟨BKa.out, BKb.out⟩ (fun hHeld => ?_)
          clear hK K
          refine norm_ (a' := ?_) ?_ ?_
          rotate_left
          ·show Act.put _ (some 10) _ = _
           simp only [Act.put, sP]
           rfl
          exact norm_ (by first | (simp only [putAll, Act.put, sP]; done) | (simp only [putAll, Act.put, sP]; rfl)) (hJ1_4 g5 _ ⟨⟨BKa.out, BKb.out⟩, B5.out, GE5.out, Na5.out, Nb5.out, HB.out⟩)
         ·skip
          refine box_step ?hg (N := 6) ?hd (cs := vals zeros) (t := 72) ?hr ?_; (case hd => rfl); (case hg => rfl); (case hr => first | (go_simp; done) | (go_simp; rfl))
          intro g6 hg w29 hbox hb
          have B6 := aM hbox
          have GE6 := gE (w := w) hg (qB3 HB GEa GEb GE5)
          have Na6 := nL hg BKa
          have Nb6 := nL hg BKb
          have N56 := nL hg B5
          replace B5 := bK B5 hb
          replace BKa := bK BKa hb
          replace BKb := bK BKb hb
          replace HB := bS (qB3 HB GEa GEb GE5) hb
          clear hb hbox hg
          refine hK.out _ _ ⟨BKa.out, BKb.out⟩ (fun hHeld => ?_)
          clear hK K
          refine norm_ (a' := ?_) ?_ ?_
          rotate_left
          ·show Act.put _ (some 6) _ = _
           simp only [Act.put, sP]
           rfl
          exact norm_ (by first | (simp only [putAll, Act.put, sP]; done) | (simp only [putAll, Act.put, sP]; rfl)) (hJ0_45 (g5, g6) _ ⟨⟨BKa.out, BKb.out⟩, B5.out, GE5.out, Na5.out, Nb5.out, B6.out, GE6.out, Na6.out, Nb6.out, N56.out, HB.out⟩)
        ·skip
         refine box_step ?hg (N := 6) ?hd (cs := vals zeros) (t := 72) ?hr ?_; (case hd => rfl); (case hg => rfl); (case hr => first | (go_simp; done) | (go_simp; rfl))
         intro g6 hg w30 hbox hb
         have B6 := aM hbox
         have GE6 := gE (w := w) hg (qB2 HB GEa GEb)
         have Na6 := nL hg BKa
         have Nb6 := nL hg BKb
         replace BKa := bK BKa hb
         replace BKb := bK BKb hb
         replace HB := bS (qB2 HB GEa GEb) hb
         clear hb hbox hg
         refine hK.out _ _ ⟨BKa.out, BKb.out⟩ (fun hHeld => ?_)
         clear hK K
         refine norm_ (a' := ?_) ?_ ?_
         rotate_left
         ·show Act.put _ (some 6) _ = _
          simp only [Act.put, sP]
          rfl
         refine two_ (i := 1) (j := 4) (Ni := some 10) (Nj := some 5) (bm 8 39) (bm 8 53) rfl rfl rfl rfl (two_of HT_.out (by kernel_rfl)) (by decide) (by decide) (fun K hK => ?_) (fun K hK => ?_)
         ·skip
          refine goes_ Try.func53 (by kernel_rfl) rfl #[.agg #[.int .i64 a0_0, .slice A0_1 l0_1.length c0_1, .slice A0_2 l0_2.length c0_2]] (by rfl) rfl rfl pA ?_
          with_reducible refine (cells_of.calls k a0_0 _ _ l0_1 _ _ l0_2 ya _ ?s1 ?s2 ?s3 ?s4 Aa.out).mono ?_
          (case s1 => exact sC HR0_1 HB)
          (case s2 => exact HC0_1.out)
          (case s3 => exact sC HR0_2 HB)
          (case s4 => exact HC0_2.out)
          rintro e w31 ⟨rfl, hb⟩
          refine ⟨_, rfl, ?_⟩
          replace B6 := bK B6 hb
          replace BKa := bK BKa hb
          replace BKb := bK BKb hb
          replace HB := bS (qB3 HB GEa GEb GE6) hb
          clear hb
          refine hK.out _ _ ⟨BKa.out, BKb.out⟩ (fun hHeld => ?_)
          clear hK K
          refine norm_ (a' := ?_) ?_ ?_
          rotate_left
          ·show Act.put _ (some 10) _ = _
           simp only [Act.put, sP]
           rfl
          exact norm_ (by first | (simp only [putAll, Act.put, sP]; done) | (simp only [putAll, Act.put, sP]; rfl)) (hJ1_5 g6 _ ⟨⟨BKa.out, BKb.out⟩, B6.out, GE6.out, Na6.out, Nb6.out, HB.out⟩)
         ·skip
          refine box_step ?hg (N := 5) ?hd (cs := vals zeros) (t := 72) ?hr ?_; (case hd => rfl); (case hg => rfl); (case hr => first | (go_simp; done) | (go_simp; rfl))
          intro g5 hg w32 hbox hb
          have B5 := aM hbox
          have GE5 := gE (w := w) hg (qB3 HB GEa GEb GE6)
          have Na5 := nL hg BKa
          have Nb5 := nL hg BKb
          have N56 := nG hg B6
          replace B6 := bK B6 hb
          replace BKa := bK BKa hb
          replace BKb := bK BKb hb
          replace HB := bS (qB3 HB GEa GEb GE6) hb
          clear hb hbox hg
          refine hK.out _ _ ⟨BKa.out, BKb.out⟩ (fun hHeld => ?_)
          clear hK K
          refine norm_ (a' := ?_) ?_ ?_
          rotate_left
          ·show Act.put _ (some 5) _ = _
           simp only [Act.put, sP]
           rfl
          exact norm_ (by first | (simp only [putAll, Act.put, sP]; done) | (simp only [putAll, Act.put, sP]; rfl)) (hJ0_45 (g5, g6) _ ⟨⟨BKa.out, BKb.out⟩, B5.out, GE5.out, Na5.out, Nb5.out, B6.out, GE6.out, Na6.out, Nb6.out, N56.out, HB.out⟩)
       rintro ⟨g5, g6⟩ w33 ⟨hS_, b5_, e5_, na5_, nb5_, b6_, e6_, na6_, nb6_, n56_, hB_⟩
       clear BKa BKb HB
       have BKa := aM hS_.1
       have BKb := aM hS_.2
       have HB := aM hB_
       have B5 := aM b5_
       have GE5 := aM e5_
       have Na5 := aM na5_
       have Nb5 := aM nb5_
       have B6 := aM b6_
       have GE6 := aM e6_
       have Na6 := aM na6_
       have Nb6 := aM nb6_
       have N56 := aM n56_
       clear b5_ e5_ na5_ nb5_ b6_ e6_ na6_ nb6_ n56_ hB_
       have hHeld := hS_
       clear hS_
       dsimp only at B5 GE5 Na5 Nb5 B6 GE6 Na6 Nb6 N56
       refine norm_ (a' := ?_) ?_ ?_
       rotate_left
       ·simp only [putAll, Act.put, sP]
        rfl
       refine one_ (i := 1) (N := some 10) (bm 8 55) rfl rfl (one_of HT_.out (by kernel_rfl)) (by decide) (fun K hK => ?_)
       refine goes_ Try.func53 (by kernel_rfl) rfl #[.agg #[.int .i64 a0_0, .slice A0_1 l0_1.length c0_1, .slice A0_2 l0_2.length c0_2]] (by rfl) rfl rfl pA ?_
       with_reducible refine (cells_of.calls k a0_0 _ _ l0_1 _ _ l0_2 ya _ ?s1 ?s2 ?s3 ?s4 Aa.out).mono ?_
       (case s1 => exact sC HR0_1 HB)
       (case s2 => exact HC0_1.out)
       (case s3 => exact sC HR0_2 HB)
       (case s4 => exact HC0_2.out)
       rintro e w34 ⟨rfl, hb⟩
       refine ⟨_, rfl, ?_⟩
       replace B5 := bK B5 hb
       replace B6 := bK B6 hb
       replace BKa := bK BKa hb
       replace BKb := bK BKb hb
       replace HB := bS (qB4 HB GEa GEb GE5 GE6) hb
       clear hb
       refine hK.out _ _ ⟨BKa.out, BKb.out⟩ (fun hHeld => ?_)
       clear hK K
       refine norm_ (a' := ?_) ?_ ?_
       rotate_left
       ·show Act.put _ (some 10) _ = _
        simp only [Act.put, sP]
        rfl
       exact norm_ (by first | (simp only [putAll, Act.put, sP]; done) | (simp only [putAll, Act.put, sP]; rfl)) (hJ1_45 (g5, g6) _ ⟨⟨BKa.out, BKb.out⟩, B5.out, GE5.out, Na5.out, Nb5.out, B6.out, GE6.out, Na6.out, Nb6.out, N56.out, HB.out⟩)
      rintro g6 w35 ⟨hS_, b6_, e6_, na6_, nb6_, hB_⟩
      clear BKa BKb HB
      have BKa := aM hS_.1
      have BKb := aM hS_.2
      have HB := aM hB_
      have B6 := aM b6_
      have GE6 := aM e6_
      have Na6 := aM na6_
      have Nb6 := aM nb6_
      clear b6_ e6_ na6_ nb6_ hB_
      have hHeld := hS_
      clear hS_
      refine norm_ (a' := ?_) ?_ ?_
      rotate_left
      ·simp only [putAll, Act.put, sP]
       rfl
      refine two_ (i := 3) (j := 4) (Ni := some 12) (Nj := some 5) (bm 8 47) (bm 8 55) rfl rfl rfl rfl (two_of HT_.out (by kernel_rfl)) (by decide) (by decide) (fun K hK => ?_) (fun K hK => ?_)
      ·skip
       refine goes_ Try.func53 (by kernel_rfl) rfl #[.agg #[.int .i64 a1_0, .slice A1_1 l1_1.length c1_1, .slice A1_2 l1_2.length c1_2]] (by rfl) rfl rfl pA ?_
       with_reducible refine (cells_of.calls k a1_0 _ _ l1_1 _ _ l1_2 yb _ ?s1 ?s2 ?s3 ?s4 Ab.out).mono ?_
       (case s1 => exact sC HR1_1 HB)
       (case s2 => exact HC1_1.out)
       (case s3 => exact sC HR1_2 HB)
       (case s4 => exact HC1_2.out)
       rintro e w36 ⟨rfl, hb⟩
       refine ⟨_, rfl, ?_⟩
       replace B6 := bK B6 hb
       replace BKa := bK BKa hb
       replace BKb := bK BKb hb
       replace HB := bS (qB3 HB GEa GEb GE6) hb
       clear hb
       refine hK.out _ _ ⟨BKa.out, BKb.out⟩ (fun hHeld => ?_)
       clear hK K
       refine norm_ (a' := ?_) ?_ ?_
       rotate_left
       ·show Act.put _ (some 12) _ = _
        simp only [Act.put, sP]
        rfl
       exact norm_ (by first | (simp only [putAll, Act.put, sP]; done) | (simp only [putAll, Act.put, sP]; rfl)) (hJ2_5 g6 _ ⟨⟨BKa.out, BKb.out⟩, B6.out, GE6.out, Na6.out, Nb6.out, HB.out⟩)
      ·skip
       refine box_step ?hg (N := 5) ?hd (cs := vals zeros) (t := 72) ?hr ?_; (case hd => rfl); (case hg => rfl); (case hr => first | (go_simp; done) | (go_simp; rfl))
       intro g5 hg w37 hbox hb
       have B5 := aM hbox
       have GE5 := gE (w := w) hg (qB3 HB GEa GEb GE6)
       have Na5 := nL hg BKa
       have Nb5 := nL hg BKb
       have N56 := nG hg B6
       replace B6 := bK B6 hb
       replace BKa := bK BKa hb
       replace BKb := bK BKb hb
       replace HB := bS (qB3 HB GEa GEb GE6) hb
       clear hb hbox hg
       refine hK.out _ _ ⟨BKa.out, BKb.out⟩ (fun hHeld => ?_)
       clear hK K
       refine norm_ (a' := ?_) ?_ ?_
       rotate_left
       ·show Act.put _ (some 5) _ = _
        simp only [Act.put, sP]
        rfl
       exact norm_ (by first | (simp only [putAll, Act.put, sP]; done) | (simp only [putAll, Act.put, sP]; rfl)) (hJ1_45 (g5, g6) _ ⟨⟨BKa.out, BKb.out⟩, B5.out, GE5.out, Na5.out, Nb5.out, B6.out, GE6.out, Na6.out, Nb6.out, N56.out, HB.out⟩)
     rintro g5 w38 ⟨hS_, b5_, e5_, na5_, nb5_, hB_⟩
     clear BKa BKb HB
     have BKa := aM hS_.1
     have BKb := aM hS_.2
     have HB := aM hB_
     have B5 := aM b5_
     have GE5 := aM e5_
     have Na5 := aM na5_
     have Nb5 := aM nb5_
     clear b5_ e5_ na5_ nb5_ hB_
     have hHeld := hS_
     clear hS_
     refine norm_ (a' := ?_) ?_ ?_
     rotate_left
     ·simp only [putAll, Act.put, sP]
      rfl
     refine two_ (i := 3) (j := 5) (Ni := some 12) (Nj := some 6) (bm 8 31) (bm 8 55) rfl rfl rfl rfl (two_of HT_.out (by kernel_rfl)) (by decide) (by decide) (fun K hK => ?_) (fun K hK => ?_)
     ·skip
      refine goes_ Try.func53 (by kernel_rfl) rfl #[.agg #[.int .i64 a1_0, .slice A1_1 l1_1.length c1_1, .slice A1_2 l1_2.length c1_2]] (by rfl) rfl rfl pA ?_
      with_reducible refine (cells_of.calls k a1_0 _ _ l1_1 _ _ l1_2 yb _ ?s1 ?s2 ?s3 ?s4 Ab.out).mono ?_
      (case s1 => exact sC HR1_1 HB)
      (case s2 => exact HC1_1.out)
      (case s3 => exact sC HR1_2 HB)
      (case s4 => exact HC1_2.out)
      rintro e w39 ⟨rfl, hb⟩
      refine ⟨_, rfl, ?_⟩
      replace B5 := bK B5 hb
      replace BKa := bK BKa hb
      replace BKb := bK BKb hb
      replace HB := bS (qB3 HB GEa GEb GE5) hb
      clear hb
      refine hK.out _ _ ⟨BKa.out, BKb.out⟩ (fun hHeld => ?_)
      clear hK K
      refine norm_ (a' := ?_) ?_ ?_
      rotate_left
      ·show Act.put _ (some 12) _ = _
       simp only [Act.put, sP]
       rfl
      exact norm_ (by first | (simp only [putAll, Act.put, sP]; done) | (simp only [putAll, Act.put, sP]; rfl)) (hJ2_4 g5 _ ⟨⟨BKa.out, BKb.out⟩, B5.out, GE5.out, Na5.out, Nb5.out, HB.out⟩)
     ·skip
      refine box_step ?hg (N := 6) ?hd (cs := vals zeros) (t := 72) ?hr ?_; (case hd => rfl); (case hg => rfl); (case hr => first | (go_simp; done) | (go_simp; rfl))
      intro g6 hg w40 hbox hb
      have B6 := aM hbox
      have GE6 := gE (w := w) hg (qB3 HB GEa GEb GE5)
      have Na6 := nL hg BKa
      have Nb6 := nL hg BKb
      have N56 := nL hg B5
      replace B5 := bK B5 hb
      replace BKa := bK BKa hb
      replace BKb := bK BKb hb
      replace HB := bS (qB3 HB GEa GEb GE5) hb
      clear hb hbox hg
      refine hK.out _ _ ⟨BKa.out, BKb.out⟩ (fun hHeld => ?_)
      clear hK K
      refine norm_ (a' := ?_) ?_ ?_
      rotate_left
      ·show Act.put _ (some 6) _ = _
       simp only [Act.put, sP]
       rfl
      exact norm_ (by first | (simp only [putAll, Act.put, sP]; done) | (simp only [putAll, Act.put, sP]; rfl)) (hJ1_45 (g5, g6) _ ⟨⟨BKa.out, BKb.out⟩, B5.out, GE5.out, Na5.out, Nb5.out, B6.out, GE6.out, Na6.out, Nb6.out, N56.out, HB.out⟩)
    rintro ⟨g5, g6⟩ w41 ⟨hS_, b5_, e5_, na5_, nb5_, b6_, e6_, na6_, nb6_, n56_, hB_⟩
    clear BKa BKb HB
    have BKa := aM hS_.1
    have BKb := aM hS_.2
    have HB := aM hB_
    have B5 := aM b5_
    have GE5 := aM e5_
    have Na5 := aM na5_
    have Nb5 := aM nb5_
    have B6 := aM b6_
    have GE6 := aM e6_
    have Na6 := aM na6_
    have Nb6 := aM nb6_
    have N56 := aM n56_
    clear b5_ e5_ na5_ nb5_ b6_ e6_ na6_ nb6_ n56_ hB_
    have hHeld := hS_
    clear hS_
    dsimp only at B5 GE5 Na5 Nb5 B6 GE6 Na6 Nb6 N56
    refine norm_ (a' := ?_) ?_ ?_
    rotate_left
    ·simp only [putAll, Act.put, sP]
     rfl
    refine one_ (i := 3) (N := some 12) (bm 8 63) rfl rfl (one_of HT_.out (by kernel_rfl)) (by decide) (fun K hK => ?_)
    refine goes_ Try.func53 (by kernel_rfl) rfl #[.agg #[.int .i64 a1_0, .slice A1_1 l1_1.length c1_1, .slice A1_2 l1_2.length c1_2]] (by rfl) rfl rfl pA ?_
    with_reducible refine (cells_of.calls k a1_0 _ _ l1_1 _ _ l1_2 yb _ ?s1 ?s2 ?s3 ?s4 Ab.out).mono ?_
    (case s1 => exact sC HR1_1 HB)
    (case s2 => exact HC1_1.out)
    (case s3 => exact sC HR1_2 HB)
    (case s4 => exact HC1_2.out)
    rintro e w42 ⟨rfl, hb⟩
    refine ⟨_, rfl, ?_⟩
    replace B5 := bK B5 hb
    replace B6 := bK B6 hb
    replace BKa := bK BKa hb
    replace BKb := bK BKb hb
    replace HB := bS (qB4 HB GEa GEb GE5 GE6) hb
    clear hb
    refine hK.out _ _ ⟨BKa.out, BKb.out⟩ (fun hHeld => ?_)
    clear hK K
    refine norm_ (a' := ?_) ?_ ?_
    rotate_left
    ·show Act.put _ (some 12) _ = _
     simp only [Act.put, sP]
     rfl
    exact norm_ (by first | (simp only [putAll, Act.put, sP]; done) | (simp only [putAll, Act.put, sP]; rfl)) (hJ2_45 (g5, g6) _ ⟨⟨BKa.out, BKb.out⟩, B5.out, GE5.out, Na5.out, Nb5.out, B6.out, GE6.out, Na6.out, Nb6.out, N56.out, HB.out⟩)
   rintro g6 w43 ⟨hS_, b6_, e6_, na6_, nb6_, hB_⟩
   clear BKa BKb HB
   have BKa := aM hS_.1
   have BKb := aM hS_.2
   have HB := aM hB_
   have B6 := aM b6_
   have GE6 := aM e6_
   have Na6 := aM na6_
   have Nb6 := aM nb6_
   clear b6_ e6_ na6_ nb6_ hB_
   have hHeld := hS_
   clear hS_
   refine norm_ (a' := ?_) ?_ ?_
   rotate_left
   ·simp only [putAll, Act.put, sP]
    rfl
   refine one_ (i := 4) (N := some 5) (bm 8 63) rfl rfl (one_of HT_.out (by kernel_rfl)) (by decide) (fun K hK => ?_)
   refine box_step ?hg (N := 5) ?hd (cs := vals zeros) (t := 72) ?hr ?_; (case hd => rfl); (case hg => rfl); (case hr => first | (go_simp; done) | (go_simp; rfl))
   intro g5 hg w44 hbox hb
   have B5 := aM hbox
   have GE5 := gE (w := w) hg (qB3 HB GEa GEb GE6)
   have Na5 := nL hg BKa
   have Nb5 := nL hg BKb
   have N56 := nG hg B6
   replace B6 := bK B6 hb
   replace BKa := bK BKa hb
   replace BKb := bK BKb hb
   replace HB := bS (qB3 HB GEa GEb GE6) hb
   clear hb hbox hg
   refine hK.out _ _ ⟨BKa.out, BKb.out⟩ (fun hHeld => ?_)
   clear hK K
   refine norm_ (a' := ?_) ?_ ?_
   rotate_left
   ·show Act.put _ (some 5) _ = _
    simp only [Act.put, sP]
    rfl
   exact norm_ (by first | (simp only [putAll, Act.put, sP]; done) | (simp only [putAll, Act.put, sP]; rfl)) (hJ2_45 (g5, g6) _ ⟨⟨BKa.out, BKb.out⟩, B5.out, GE5.out, Na5.out, Nb5.out, B6.out, GE6.out, Na6.out, Nb6.out, N56.out, HB.out⟩)
  rintro g5 w45 ⟨hS_, b5_, e5_, na5_, nb5_, hB_⟩
  clear BKa BKb HB
  have BKa := aM hS_.1
  have BKb := aM hS_.2
  have HB := aM hB_
  have B5 := aM b5_
  have GE5 := aM e5_
  have Na5 := aM na5_
  have Nb5 := aM nb5_
  clear b5_ e5_ na5_ nb5_ hB_
  have hHeld := hS_
  clear hS_
  refine norm_ (a' := ?_) ?_ ?_
  rotate_left
  ·simp only [putAll, Act.put, sP]
   rfl
  refine one_ (i := 5) (N := some 6) (bm 8 63) rfl rfl (one_of HT_.out (by kernel_rfl)) (by decide) (fun K hK => ?_)
  refine box_step ?hg (N := 6) ?hd (cs := vals zeros) (t := 72) ?hr ?_; (case hd => rfl); (case hg => rfl); (case hr => first | (go_simp; done) | (go_simp; rfl))
  intro g6 hg w46 hbox hb
  have B6 := aM hbox
  have GE6 := gE (w := w) hg (qB3 HB GEa GEb GE5)
  have Na6 := nL hg BKa
  have Nb6 := nL hg BKb
  have N56 := nL hg B5
  replace B5 := bK B5 hb
  replace BKa := bK BKa hb
  replace BKb := bK BKb hb
  replace HB := bS (qB3 HB GEa GEb GE5) hb
  clear hb hbox hg
  refine hK.out _ _ ⟨BKa.out, BKb.out⟩ (fun hHeld => ?_)
  clear hK K
  refine norm_ (a' := ?_) ?_ ?_
  rotate_left
  ·show Act.put _ (some 6) _ = _
   simp only [Act.put, sP]
   rfl
  exact norm_ (by first | (simp only [putAll, Act.put, sP]; done) | (simp only [putAll, Act.put, sP]; rfl)) (hJ2_45 (g5, g6) _ ⟨⟨BKa.out, BKb.out⟩, B5.out, GE5.out, Na5.out, Nb5.out, B6.out, GE6.out, Na6.out, Nb6.out, N56.out, HB.out⟩)
 rintro ⟨g5, g6⟩ w47 ⟨hS_, b5_, e5_, na5_, nb5_, b6_, e6_, na6_, nb6_, n56_, hB_⟩
 clear BKa BKb HB
 have BKa := aM hS_.1
 have BKb := aM hS_.2
 have HB := aM hB_
 have B5 := aM b5_
 have GE5 := aM e5_
 have Na5 := aM na5_
 have Nb5 := aM nb5_
 have B6 := aM b6_
 have GE6 := aM e6_
 have Na6 := aM na6_
 have Nb6 := aM nb6_
 have N56 := aM n56_
 clear b5_ e5_ na5_ nb5_ b6_ e6_ na6_ nb6_ n56_ hB_
 have hHeld := hS_
 clear hS_
 dsimp only at B5 GE5 Na5 Nb5 B6 GE6 Na6 Nb6 N56
 refine norm_ (a' := ?_) ?_ ?_
 rotate_left
 ·simp only [putAll, Act.put, sP]
  rfl
 refine one_ (i := 6) (N := none) (bm 8 127) rfl rfl (one_of HT_.out (by kernel_rfl)) (by decide) (fun K hK => ?_)
 rw [if_pos (by rfl)]
 refine wp_store_row 72 (.tmp 5) (.tmp 10) rfl g5 (vals ya) rfl rfl 72 (vals zeros) B5.out (by rw [hzya.out]; kernel_rfl) (by rw [hzya.out]; rfl) (vals_one ya) ?_
 replace BKa := aM ((setRow_other _ g5 ga (vals ya) Na5.out).trans BKa.out)
 replace BKb := aM ((setRow_other _ g5 gb (vals ya) Nb5.out).trans BKb.out)
 replace B6 := aM ((setRow_other _ g5 g6 (vals ya) (Ne.symm N56.out)).trans B6.out)
 replace B5 := aM (setRow_heap _ g5 _ (vals ya) _ _ B5.out)
 replace HB := aM (bRow HB.out GE5.out (vals ya))
 refine hK.out _ _ ⟨BKa.out, BKb.out⟩ (fun hHeld => ?_)
 clear hK K
 generalize World.setRow _ _ _ = w48 at BKa BKb B5 B6 HB hHeld ⊢
 refine norm_ (a' := ?_) ?_ ?_
 rotate_left
 ·show Act.put _ none _ = _
  simp only [Act.put, sP]
  rfl
 refine one_ (i := 7) (N := none) (bm 8 255) rfl rfl (one_of HT_.out (by kernel_rfl)) (by decide) (fun K hK => ?_)
 rw [if_pos (by rfl)]
 refine wp_store_row 72 (.tmp 6) (.tmp 12) rfl g6 (vals yb) rfl rfl 72 (vals zeros) B6.out (by rw [hzyb.out]; kernel_rfl) (by rw [hzyb.out]; rfl) (vals_one yb) ?_
 replace BKa := aM ((setRow_other _ g6 ga (vals yb) Na6.out).trans BKa.out)
 replace BKb := aM ((setRow_other _ g6 gb (vals yb) Nb6.out).trans BKb.out)
 replace B5 := aM ((setRow_other _ g6 g5 (vals yb) N56.out).trans B5.out)
 replace B6 := aM (setRow_heap _ g6 _ (vals yb) _ _ B6.out)
 replace HB := aM (bRow HB.out GE6.out (vals yb))
 refine hK.out _ _ ⟨BKa.out, BKb.out⟩ (fun hHeld => ?_)
 clear hK K
 generalize World.setRow _ _ _ = wz at BKa BKb B5 B6 HB hHeld ⊢
 refine norm_ (a' := ?_) ?_ ?_
 rotate_left
 ·show Act.put _ none _ = _
  simp only [Act.put, sP]
  rfl
 refine done_ (done_of HT_.out (by kernel_rfl)) ?_
 go_wp2_with (first | ((with_reducible refine gate_dst (N := 13) rfl ?_); refine wpList_load_row rfl 72 (.tmp 5) rfl g5 rfl 72 (vals ya) (0, 0) _ B5.out Try.underlying72 rfl (by rw [hzya.out]; kernel_rfl) ?_; simp only [Act.put, sP]))
 go_loopg [14] 64 (fun kq v14 w' => ∃ (i : Nat), v14 = .int .i64 (i : Int) ∧ Aside0 (i + kq = 64) ∧ Aside0 (cells_Meet.any (ya.drop i) (yb.drop i) = r) ∧ Aside0 (w' = wz))
 case atStart => exact ⟨0, rfl, ⟨rfl⟩, ⟨by rw [List.drop_zero, List.drop_zero]; exact H'.out⟩, ⟨rfl⟩⟩
 case round =>
  obtain ⟨i, rfl, HK, HA, HW⟩ := hrel
  obtain rfl := HW.out
  clear HW H'
  cases gk with
  | zero =>
   have hi : i = 64 := by have := HK.out; omega
   subst hi
   have HA1 := HA.out
   rw [List.drop_eq_nil_of_le (by rw [HSa.out]; omega), cells_Meet.any] at HA1
   · subst HA1
     clear HA
     go_wp2
     go_ret
     exact ⟨pE, HB.out⟩
   · intros; simp_all
  | succ kq =>
   have hi : i < 64 := by have := HK.out; omega
   have hv := fun w => vals_index ya i hi HSa.out w
   have c1n : decide (i < 64) = true := decide_eq_true hi
   have c1i : decide ((i : Int) < 64) = true := decide_eq_true (by omega)
   have q0 : (0 ≤ (i : Int)) = True := eq_true (by omega)
   have q1 : ((i : Int) < 64) = True := eq_true (by omega)
   have hx2 := vals_cell B6.out (i : Int) (by omega) (by have := HSb.out; omega)
   rw [Int.toNat_natCast] at hx2
   have ea : rd ya (i : Int) = ya[i]'(by rw [HSa.out]; exact hi) := by simp [rd, List.getD_eq_getElem?_getD, List.getElem?_eq_getElem (show i < ya.length by rw [HSa.out]; exact hi)]
   have eb : rd yb (i : Int) = yb[i]'(by rw [HSb.out]; exact hi) := by simp [rd, List.getD_eq_getElem?_getD, List.getElem?_eq_getElem (show i < yb.length by rw [HSb.out]; exact hi)]
   have HA1 := HA.out
   rw [List.drop_eq_getElem_cons (by rw [HSa.out]; exact hi), List.drop_eq_getElem_cons (l := yb) (by rw [HSb.out]; exact hi), cells_Meet.any, ← ea, ← eb] at HA1
   clear HA ea eb
   by_cases c2 : rd ya (i : Int) > 0
   · have c2b : decide (0 < rd ya (i : Int)) = true := decide_eq_true c2
     by_cases c3 : rd yb (i : Int) > 0
     · have c3b : decide (0 < rd yb (i : Int)) = true := decide_eq_true c3
       rw [if_pos ⟨c2, c3⟩] at HA1
       subst HA1
       clear c2 c3 hi
       go_wp2
       go_ret
       exact ⟨pE, HB.out⟩
     · have c3b : decide (0 < rd yb (i : Int)) = false := decide_eq_false c3
       rw [if_neg (fun h => c3 h.2)] at HA1
       have H1 := aM HA1
       clear c2 c3 hi HA1
       go_wp2
       go_roundg kq
       case measure => omega
       case rel => exact ⟨i + 1, by first | rfl | (rw [w64o (by have := HK.out; omega) (by have := HK.out; omega)]; rfl), ⟨by have := HK.out; omega⟩, H1, ⟨rfl⟩⟩
   · have c2b : decide (0 < rd ya (i : Int)) = false := decide_eq_false c2
     rw [if_neg (fun h => c2 h.1)] at HA1
     have H1 := aM HA1
     clear c2 hi HA1
     go_wp2
     go_roundg kq
     case measure => omega
     case rel => exact ⟨i + 1, by first | rfl | (rw [w64o (by have := HK.out; omega) (by have := HK.out; omega)]; rfl), ⟨by have := HK.out; omega⟩, H1, ⟨rfl⟩⟩

end Go.Proofs.Ytjbpekblcecneaa.Q
