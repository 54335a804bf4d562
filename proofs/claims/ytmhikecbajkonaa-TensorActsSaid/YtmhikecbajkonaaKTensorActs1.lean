/- Texts of the proof of TensorActs, part 1: what functions of the program compute, and that they compute it. -/
import Derived.Test.YtmhikecbajkonaaWordsMore
import Derived.Test.YtmhikecbajkonaaKTensorActs0
namespace Go.Proofs.Ytmhikecbajkonaa.Q
open Go.RowKit Go.Proofs.YtmhikecbajkonaaW.PrintWords Go.Proofs.YtmhikecbajkonaaW.PrintLast Go.Proofs.YtmhikecbajkonaaW.PrintMore
attribute [local go_sem] max2_int min2_int max_two min_two max_three min_three max_four min_four   -- for this text's walks alone
set_option linter.unusedVariables false
set_option linter.unusedSimpArgs false
def cells_Meet.any : List Int → List Int → Bool
  | x :: s, y :: t => if x > 0 ∧ y > 0 then true else cells_Meet.any s t
  | _, _ => false
def cells_Meet.f (k : Nat) (a0_0 : Int) (l0_1 l0_2 : List Int) (a1_0 : Int) (l1_1 l1_2 : List Int) : Option Bool := (cells_of.f k a0_0 l0_1 l0_2).bind fun s => (cells_of.f k a1_0 l1_1 l1_2).bind fun t => some (cells_Meet.any s t)
theorem cells_Meet.bits1 : waitsOk (rtab .any (opsOf Try.f35 1)).2 [0, 1, 0, 7, 0, 0, 63, 127] = true := by kernel_rfl
set_option maxHeartbeats 8000000 in
set_option maxRecDepth 100000 in
theorem cells_Meet.calls (k : Nat) (a0_0 : Int) (A0_1 : Option Addr) (c0_1 : Nat) (l0_1 : List Int) (A0_2 : Option Addr) (c0_2 : Nat) (l0_2 : List Int) (a1_0 : Int) (A1_1 : Option Addr) (c1_1 : Nat) (l1_1 : List Int) (A1_2 : Option Addr) (c1_2 : Nat) (l1_2 : List Int) (r : Bool) (w : World) (hr0_1 : Kd.C (Kd.int .i64) w A0_1 l0_1.length l0_1) (hc0_1 : l0_1.length ≤ c0_1) (hr0_2 : Kd.C (Kd.int .i64) w A0_2 l0_2.length l0_2) (hc0_2 : l0_2.length ≤ c0_2) (hr1_1 : Kd.C (Kd.int .i64) w A1_1 l1_1.length l1_1) (hc1_1 : l1_1.length ≤ c1_1) (hr1_2 : Kd.C (Kd.int .i64) w A1_2 l1_2.length l1_2) (hc1_2 : l1_2.length ≤ c1_2) (h : cells_Meet.f k a0_0 l0_1 l0_2 a1_0 l1_1 l1_2 = some r) :
  Calls Try.prog 35 #[.agg #[.int .i64 a0_0, .slice A0_1 l0_1.length c0_1, .slice A0_2 l0_2.length c0_2], .agg #[.int .i64 a1_0, .slice A1_1 l1_1.length c1_1, .slice A1_2 l1_2.length c1_2]] w fun e w' => e = .returned (.bool r) ∧ Below w.heap.size w w' := by
 have hu24 := Try.underlying43
 have HR0_1 := aM hr0_1
 have HC0_1 := aM hc0_1
 have HR0_2 := aM hr0_2
 have HC0_2 := aM hc0_2
 have HR1_1 := aM hr1_1
 have HC1_1 := aM hc1_1
 have HR1_2 := aM hr1_2
 have HC1_2 := aM hc1_2
 clear hr0_1 hc0_1 hr0_2 hc0_2 hr1_1 hc1_1 hr1_2 hc1_2
 have HB := aM (Below.refl w.heap.size w)
 replace h := Option.bind_eq_some_iff.mp h
 obtain ⟨ya, Ea, h⟩ := h
 replace h := Option.bind_eq_some_iff.mp h
 obtain ⟨yb, Eb, h⟩ := h
 have H' := aM (Option.some.inj h)
 have Aa := aM Ea
 have Ab := aM Eb
 have HSa := aM (cells_of.size Ea)
 have HSb := aM (cells_of.size Eb)
 have hzya := aM (vals_size ya HSa.out)
 have hzyb := aM (vals_size yb HSb.out)
 clear h Ea Eb
 go_enter Try.func35, Try.ntmps35
 go_wp2_with (first | ((with_reducible refine gate_dst (N := 2) rfl ?_); refine box_event ?hg (N := 2) ?hd (cs := #[.int .i64 a0_0, .slice A0_1 l0_1.length c0_1, .slice A0_2 l0_2.length c0_2]) (t := 43) ?hr ?_; (case hd => rfl); (case hg => rfl); (case hr => first | (go_simp; done) | (go_simp; rfl)); intro ga hg w5 hbox hb; have BKa := aM (hbox); have GEa := gE (w := w) hg (qB HB); replace HB := bS (qB HB) hb; clear hb hbox hg) | ((with_reducible refine gate_dst (N := 3) rfl ?_); refine box_event ?hg (N := 3) ?hd (cs := #[.int .i64 a1_0, .slice A1_1 l1_1.length c1_1, .slice A1_2 l1_2.length c1_2]) (t := 43) ?hr ?_; (case hd => rfl); (case hg => rfl); (case hr => first | (go_simp; done) | (go_simp; rfl)); intro gb hg w6 hbox hb; have BKb := aM (hbox); have GEb := gE (w := w) hg (qB1 HB GEa); replace BKa := bK BKa hb; replace HB := bS (qB1 HB GEa) hb; clear hb hbox hg))
 replace BKa := aM (blk_drew BKa.out)
 replace BKb := aM (blk_drew BKb.out)
 replace HB := aM (below_drew1 HB.out)
 refine start_ (n := 8) (S := fun w' => w'.heap[ga]? = some (.cells #[.int .i64 a0_0, .slice A0_1 l0_1.length c0_1, .slice A0_2 l0_2.length c0_2] 43 (0, 0)) ∧ w'.heap[gb]? = some (.cells #[.int .i64 a1_0, .slice A1_1 l1_1.length c1_1, .slice A1_2 l1_2.length c1_2] 43 (0, 0))) (ds := []) (bm 8 0) (by kernel_rfl) rfl rfl ⟨BKa.out, BKb.out⟩ (fun hHeld => ?_); refine with_tabW (T := rtab .any (opsOf Try.f35 1)) rfl cells_Meet.bits1 (fun HT_ HW_ => ?_)
 generalize World.drew _ = w7 at BKa BKb HB hHeld ⊢
 refine pT (i := 0) (N := some 9) (bm 8 1) rfl rfl HT_.out HW_.out hHeld (by rintro w' ⟨s0, s1⟩; obtain ⟨x0, x1, x2, y0, y1, y2⟩ := blk3 s0; clear s0 s1; go_simp; with_reducible rfl) ?_
 refine pT (i := 2) (N := some 11) (bm 8 5) rfl rfl HT_.out HW_.out hHeld (by rintro w' ⟨s0, s1⟩; obtain ⟨x0, x1, x2, y0, y1, y2⟩ := blk3 s1; clear s0 s1; go_simp; with_reducible rfl) ?_
 refine join_ (σ := Nat × Nat) 2 (bm 8 63) (fun s_ => [(10, .agg (vals ya)), (12, .agg (vals yb)), (5, .pointer (some ⟨s_.1, 0, none⟩)), (6, .pointer (some ⟨s_.2, 0, none⟩))]) (fun s_ w' => (w'.heap[ga]? = some (.cells #[.int .i64 a0_0, .slice A0_1 l0_1.length c0_1, .slice A0_2 l0_2.length c0_2] 43 (0, 0)) ∧ w'.heap[gb]? = some (.cells #[.int .i64 a1_0, .slice A1_1 l1_1.length c1_1, .slice A1_2 l1_2.length c1_2] 43 (0, 0))) ∧ (w'.heap[s_.1]? = some (.cells (vals zeros) 93 (0, 0))) ∧ (w.heap.size ≤ s_.1) ∧ (ga ≠ s_.1) ∧ (gb ≠ s_.1) ∧ (w'.heap[s_.2]? = some (.cells (vals zeros) 93 (0, 0))) ∧ (w.heap.size ≤ s_.2) ∧ (ga ≠ s_.2) ∧ (gb ≠ s_.2) ∧ (s_.1 ≠ s_.2) ∧ (Below w.heap.size w w')) ?_ ?_
 rotate_left
 ·intro hJ2_45
  refine join_ (σ := Nat) 3 (bm 8 31) (fun s_ => [(10, .agg (vals ya)), (12, .agg (vals yb)), (5, .pointer (some ⟨s_, 0, none⟩))]) (fun s_ w' => (w'.heap[ga]? = some (.cells #[.int .i64 a0_0, .slice A0_1 l0_1.length c0_1, .slice A0_2 l0_2.length c0_2] 43 (0, 0)) ∧ w'.heap[gb]? = some (.cells #[.int .i64 a1_0, .slice A1_1 l1_1.length c1_1, .slice A1_2 l1_2.length c1_2] 43 (0, 0))) ∧ (w'.heap[s_]? = some (.cells (vals zeros) 93 (0, 0))) ∧ (w.heap.size ≤ s_) ∧ (ga ≠ s_) ∧ (gb ≠ s_) ∧ (Below w.heap.size w w')) ?_ ?_
  rotate_left
  ·intro hJ2_4
   refine join_ (σ := Nat) 3 (bm 8 47) (fun s_ => [(10, .agg (vals ya)), (12, .agg (vals yb)), (6, .pointer (some ⟨s_, 0, none⟩))]) (fun s_ w' => (w'.heap[ga]? = some (.cells #[.int .i64 a0_0, .slice A0_1 l0_1.length c0_1, .slice A0_2 l0_2.length c0_2] 43 (0, 0)) ∧ w'.heap[gb]? = some (.cells #[.int .i64 a1_0, .slice A1_1 l1_1.length c1_1, .slice A1_2 l1_2.length c1_2] 43 (0, 0))) ∧ (w'.heap[s_]? = some (.cells (vals zeros) 93 (0, 0))) ∧ (w.heap.size ≤ s_) ∧ (ga ≠ s_) ∧ (gb ≠ s_) ∧ (Below w.heap.size w w')) ?_ ?_
   rotate_left
   ·intro hJ2_5
    refine join_ (σ := Nat × Nat) 3 (bm 8 55) (fun s_ => [(10, .agg (vals ya)), (5, .pointer (some ⟨s_.1, 0, none⟩)), (6, .pointer (some ⟨s_.2, 0, none⟩))]) (fun s_ w' => (w'.heap[ga]? = some (.cells #[.int .i64 a0_0, .slice A0_1 l0_1.length c0_1, .slice A0_2 l0_2.length c0_2] 43 (0, 0)) ∧ w'.heap[gb]? = some (.cells #[.int .i64 a1_0, .slice A1_1 l1_1.length c1_1, .slice A1_2 l1_2.length c1_2] 43 (0, 0))) ∧ (w'.heap[s_.1]? = some (.cells (vals zeros) 93 (0, 0))) ∧ (w.heap.size ≤ s_.1) ∧ (ga ≠ s_.1) ∧ (gb ≠ s_.1) ∧ (w'.heap[s_.2]? = some (.cells (vals zeros) 93 (0, 0))) ∧ (w.heap.size ≤ s_.2) ∧ (ga ≠ s_.2) ∧ (gb ≠ s_.2) ∧ (s_.1 ≠ s_.2) ∧ (Below w.heap.size w w')) ?_ ?_
    rotate_left
    ·intro hJ1_45
     refine join_ (σ := Nat) 4 (bm 8 23) (fun s_ => [(10, .agg (vals ya)), (5, .pointer (some ⟨s_, 0, none⟩))]) (fun s_ w' => (w'.heap[ga]? = some (.cells #[.int .i64 a0_0, .slice A0_1 l0_1.length c0_1, .slice A0_2 l0_2.length c0_2] 43 (0, 0)) ∧ w'.heap[gb]? = some (.cells #[.int .i64 a1_0, .slice A1_1 l1_1.length c1_1, .slice A1_2 l1_2.length c1_2] 43 (0, 0))) ∧ (w'.heap[s_]? = some (.cells (vals zeros) 93 (0, 0))) ∧ (w.heap.size ≤ s_) ∧ (ga ≠ s_) ∧ (gb ≠ s_) ∧ (Below w.heap.size w w')) ?_ ?_
     rotate_left
     ·intro hJ1_4
      refine join_ (σ := Nat) 4 (bm 8 39) (fun s_ => [(10, .agg (vals ya)), (6, .pointer (some ⟨s_, 0, none⟩))]) (fun s_ w' => (w'.heap[ga]? = some (.cells #[.int .i64 a0_0, .slice A0_1 l0_1.length c0_1, .slice A0_2 l0_2.length c0_2] 43 (0, 0)) ∧ w'.heap[gb]? = some (.cells #[.int .i64 a1_0, .slice A1_1 l1_1.length c1_1, .slice A1_2 l1_2.length c1_2] 43 (0, 0))) ∧ (w'.heap[s_]? = some (.cells (vals zeros) 93 (0, 0))) ∧ (w.heap.size ≤ s_) ∧ (ga ≠ s_) ∧ (gb ≠ s_) ∧ (Below w.heap.size w w')) ?_ ?_
      rotate_left
      ·intro hJ1_5
       refine join_ (σ := Nat × Nat) 4 (bm 8 53) (fun s_ => [(5, .pointer (some ⟨s_.1, 0, none⟩)), (6, .pointer (some ⟨s_.2, 0, none⟩))]) (fun s_ w' => (w'.heap[ga]? = some (.cells #[.int .i64 a0_0, .slice A0_1 l0_1.length c0_1, .slice A0_2 l0_2.length c0_2] 43 (0, 0)) ∧ w'.heap[gb]? = some (.cells #[.int .i64 a1_0, .slice A1_1 l1_1.length c1_1, .slice A1_2 l1_2.length c1_2] 43 (0, 0))) ∧ (w'.heap[s_.1]? = some (.cells (vals zeros) 93 (0, 0))) ∧ (w.heap.size ≤ s_.1) ∧ (ga ≠ s_.1) ∧ (gb ≠ s_.1) ∧ (w'.heap[s_.2]? = some (.cells (vals zeros) 93 (0, 0))) ∧ (w.heap.size ≤ s_.2) ∧ (ga ≠ s_.2) ∧ (gb ≠ s_.2) ∧ (s_.1 ≠ s_.2) ∧ (Below w.heap.size w w')) ?_ ?_
       rotate_left
       ·intro hJ0_45
        refine three_ (i := 1) (j := 4) (k := 5) (Ni := some 10) (Nj := some 5) (Nk := some 6) (bm 8 7) (bm 8 21) (bm 8 37) rfl rfl rfl rfl rfl rfl (three_of HT_.out (by kernel_rfl)) (by decide) (by decide) (by decide) (fun K hK => ?_) (fun K hK => ?_) (fun K hK => ?_)
        ·skip
         refine goes_ Try.func47 (by kernel_rfl) rfl #[.agg #[.int .i64 a0_0, .slice A0_1 l0_1.length c0_1, .slice A0_2 l0_2.length c0_2]] (by rfl) rfl rfl pA ?_
         with_reducible refine (cells_of.calls k a0_0 _ _ l0_1 _ _ l0_2 ya _ ?s1 ?s2 ?s3 ?s4 Aa.out).mono ?_
         (case s1 => exact sC HR0_1 HB)
         (case s2 => exact HC0_1.out)
         (case s3 => exact sC HR0_2 HB)
         (case s4 => exact HC0_2.out)
         rintro e w21 ⟨rfl, hb⟩
         refine ⟨_, rfl, ?_⟩
         replace BKa := bK BKa hb
         replace BKb := bK BKb hb
         replace HB := bS (qB2 HB GEa GEb) hb
         clear hb
         refine hK.out _ _ ⟨BKa.out, BKb.out⟩ (fun hHeld => ?_)
         clear hK K
         refine norm_ (a' := ?_) ?_ ?_
         rotate_left
         ·show Act.put _ (some 10) _ = _
          simp only [Act.put, sP]
          rfl
         refine three_ (i := 3) (j := 4) (k := 5) (Ni := some 12) (Nj := some 5) (Nk := some 6) (bm 8 15) (bm 8 23) (bm 8 39) rfl rfl rfl rfl rfl rfl (three_of HT_.out (by kernel_rfl)) (by decide) (by decide) (by decide) (fun K hK => ?_) (fun K hK => ?_) (fun K hK => ?_)
         ·skip
          refine goes_ Try.func47 (by kernel_rfl) rfl #[.agg #[.int .i64 a1_0, .slice A1_1 l1_1.length c1_1, .slice A1_2 l1_2.length c1_2]] (by rfl) rfl rfl pA ?_
          with_reducible refine (cells_of.calls k a1_0 _ _ l1_1 _ _ l1_2 yb _ ?s1 ?s2 ?s3 ?s4 Ab.out).mono ?_
          (case s1 => exact sC HR1_1 HB)
          (case s2 => exact HC1_1.out)
          (case s3 => exact sC HR1_2 HB)
          (case s4 => exact HC1_2.out)
          rintro e w22 ⟨rfl, hb⟩
          refine ⟨_, rfl, ?_⟩
          replace BKa := bK BKa hb
          replace BKb := bK BKb hb
          replace HB := bS (qB2 HB GEa GEb) hb
          clear hb
          refine hK.out _ _ ⟨BKa.out, BKb.out⟩ (fun hHeld => ?_)
          clear hK K
          refine norm_ (a' := ?_) ?_ ?_
          rotate_left
          ·show Act.put _ (some 12) _ = _
           simp only [Act.put, sP]
           rfl
          refine two_ (i := 4) (j := 5) (Ni := some 5) (Nj := some 6) (bm 8 31) (bm 8 47) rfl rfl rfl rfl (two_of HT_.out (by kernel_rfl)) (by decide) (by decide) (fun K hK => ?_) (fun K hK => ?_)
          ·skip
           refine box_step ?hg (N := 5) ?hd (cs := vals zeros) (t := 93) ?hr ?_; (case hd => rfl); (case hg => rfl); (case hr => first | (go_simp; done) | (go_simp; rfl))
           intro g5 hg w23 hbox hb
           have B5 := aM hbox
           have GE5 := gE (w := w) hg (qB2 HB GEa GEb)
           have Na5 := nL hg BKa
           have Nb5 := nL hg BKb
           replace BKa := bK BKa hb
           replace BKb := bK BKb hb
           replace HB := bS (qB2 HB GEa GEb) hb
           clear hb hbox hg
           refine hK.out _ _ ⟨BKa.out, BKb.out⟩ (fun hHeld => ?_)
           clear hK K
           refine norm_ (a' := ?_) ?_ ?_
           rotate_left
           ·show Act.put _ (some 5) _ = _
            simp only [Act.put, sP]
            rfl
           exact norm_ (by first | (simp only [putAll, Act.put, sP]; done) | (simp only [putAll, Act.put, sP]; rfl)) (hJ2_4 g5 _ ⟨⟨BKa.out, BKb.out⟩, B5.out, GE5.out, Na5.out, Nb5.out, HB.out⟩)
          ·skip
           refine box_step ?hg (N := 6) ?hd (cs := vals zeros) (t := 93) ?hr ?_; (case hd => rfl); (case hg => rfl); (case hr => first | (go_simp; done) | (go_simp; rfl))
           intro g6 hg w24 hbox hb
           have B6 := aM hbox
           have GE6 := gE (w := w) hg (qB2 HB GEa GEb)
           have Na6 := nL hg BKa
           have Nb6 := nL hg BKb
           replace BKa := bK BKa hb
           replace BKb := bK BKb hb
           replace HB := bS (qB2 HB GEa GEb) hb
           clear hb hbox hg
           refine hK.out _ _ ⟨BKa.out, BKb.out⟩ (fun hHeld => ?_)
           clear hK K
           refine norm_ (a' := ?_) ?_ ?_
           rotate_left
           ·show Act.put _ (some 6) _ = _
            simp only [Act.put, sP]
            rfl
           exact norm_ (by first | (simp only [putAll, Act.put, sP]; done) | (simp only [putAll, Act.put, sP]; rfl)) (hJ2_5 g6 _ ⟨⟨BKa.out, BKb.out⟩, B6.out, GE6.out, Na6.out, Nb6.out, HB.out⟩)
         ·skip
          refine box_step ?hg (N := 5) ?hd (cs := vals zeros) (t := 93) ?hr ?_; (case hd => rfl); (case hg => rfl); (case hr => first | (go_simp; done) | (go_simp; rfl))
          intro g5 hg w25 hbox hb
          have B5 := aM hbox
          have GE5 := gE (w := w) hg (qB2 HB GEa GEb)
          have Na5 := nL hg BKa
          have Nb5 := nL hg BKb
          replace BKa := bK BKa hb
          replace BKb := bK BKb hb
          replace HB := bS (qB2 HB GEa GEb) hb
          clear hb hbox hg
          refine hK.out _ _ ⟨BKa.out, BKb.out⟩ (fun hHeld => ?_)
          clear hK K
          refine norm_ (a' := ?_) ?_ ?_
          rotate_left
          ·show Act.put _ (some 5) _ = _
           simp only [Act.put, sP]
           rfl
          exact norm_ (by first | (simp only [putAll, Act.put, sP]; done) | (simp only [putAll, Act.put, sP]; rfl)) (hJ1_4 g5 _ ⟨⟨BKa.out, BKb.out⟩, B5.out, GE5.out, Na5.out, Nb5.out, HB.out⟩)
         ·skip
          refine box_step ?hg (N := 6) ?hd (cs := vals zeros) (t := 93) ?hr ?_; (case hd => rfl); (case hg => rfl); (case hr => first | (go_simp; done) | (go_simp; rfl))
          intro g6 hg w26 hbox hb
          have B6 := aM hbox
          have GE6 := gE (w := w) hg (qB2 HB GEa GEb)
          have Na6 := nL hg BKa
          have Nb6 := nL hg BKb
          replace BKa := bK BKa hb
          replace BKb := bK BKb hb
          replace HB := bS (qB2 HB GEa GEb) hb
          clear hb hbox hg
          refine hK.out _ _ ⟨BKa.out, BKb.out⟩ (fun hHeld => ?_)
          clear hK K
          refine norm_ (a' := ?_) ?_ ?_
          rotate_left
          ·show Act.put _ (some 6) _ = _
           simp only [Act.put, sP]
           rfl
          exact norm_ (by first | (simp only [putAll, Act.put, sP]; done) | (simp only [putAll, Act.put, sP]; rfl)) (hJ1_5 g6 _ ⟨⟨BKa.out, BKb.out⟩, B6.out, GE6.out, Na6.out, Nb6.out, HB.out⟩)
        ·skip
         refine box_step ?hg (N := 5) ?hd (cs := vals zeros) (t := 93) ?hr ?_; (case hd => rfl); (case hg => rfl); (case hr => first | (go_simp; done) | (go_simp; rfl))
         intro g5 hg w27 hbox hb
         have B5 := aM hbox
         have GE5 := gE (w := w) hg (qB2 HB GEa GEb)
         have Na5 := nL hg BKa
         have Nb5 := nL hg BKb
         replace BKa := bK BKa hb
         replace BKb := bK BKb hb
         replace HB := bS (qB2 HB GEa GEb) hb
         clear hb hbox hg
         refine hK.out _ _ ⟨BKa.out, BKb.out⟩ (fun hHeld => ?_)
         clear hK K
         refine norm_ (a' := ?_) ?_ ?_
         rotate_left
         ·show Act.put _ (some 5) _ = _
          simp only [Act.put, sP]
          rfl
         refine two_ (i := 1) (j := 5) (Ni := some 10) (Nj := some 6) (bm 8 23) (bm 8 53) rfl rfl rfl rfl (two_of HT_.out (by kernel_rfl)) (by decide) (by decide) (fun K hK => ?_) (fun K hK => ?_)
         ·skip
          refine goes_ Try.func47 (by kernel_rfl) rfl #[.agg #[.int .i64 a0_0, .slice A0_1 l0_1.length c0_1, .slice A0_2 l0_2.length c0_2]] (by rfl) rfl rfl pA ?_
          with_reducible refine (cells_of.calls k a0_0 _ _ l0_1 _ _ l0_2 ya _ ?s1 ?s2 ?s3 ?s4 Aa.out).mono ?_
          (case s1 => exact sC HR0_1 HB)
          (case s2 => exact HC0_1.out)
          (case s3 => exact sC HR0_2 HB)
          (case s4 => exact HC0_2.out)
          rintro e w28 ⟨rfl, hb⟩
          refine ⟨_, rfl, ?_⟩
          replace B5 := bK B5 hb
          replace BKa := bK BKa hb
          replace BKb := bK BKb hb
          replace HB := bS (qB3 HB GEa GEb GE5) hb
          clear hb
          refine hK.out _ _ ⟨BKa.out, BKb.out⟩ (fun hHeld => ?_)
          clear hK K
          refine norm_ (a' := ?_) ?_ ?_
          rotate_left
          ·show Act.put _ (some 10) _ = _
           simp only [Act.put, sP]
           rfl
          exact norm_ (by first | (simp only [putAll, Act.put, sP]; done) | (simp only [putAll, Act.put, sP]; rfl)) (hJ1_4 g5 _ ⟨⟨BKa.out, BKb.out⟩, B5.out, GE5.out, Na5.out, Nb5.out, HB.out⟩)
         ·skip
          refine box_step ?hg (N := 6) ?hd (cs := vals zeros) (t := 93) ?hr ?_; (case hd => rfl); (case hg => rfl); (case hr => first | (go_simp; done) | (go_simp; rfl))
          intro g6 hg w29 hbox hb
          have B6 := aM hbox
          have GE6 := gE (w := w) hg (qB3 HB GEa GEb GE5)
          have Na6 := nL hg BKa
          have Nb6 := nL hg BKb
          have N56 := nL hg B5
          replace B5 := bK B5 hb
          replace BKa := bK BKa hb
          replace BKb := bK BKb hb
          replace HB := bS (qB3 HB GEa GEb GE5) hb
          clear hb hbox hg
          refine hK.out _ _ ⟨BKa.out, BKb.out⟩ (fun hHeld => ?_)
          clear hK K
          refine norm_ (a' := ?_) ?_ ?_
          rotate_left
          ·show Act.put _ (some 6) _ = _
           simp only [Act.put, sP]
           rfl
          exact norm_ (by first | (simp only [putAll, Act.put, sP]; done) | (simp only [putAll, Act.put, sP]; rfl)) (hJ0_45 (g5, g6) _ ⟨⟨BKa.out, BKb.out⟩, B5.out, GE5.out, Na5.out, Nb5.out, B6.out, GE6.out, Na6.out, Nb6.out, N56.out, HB.out⟩)
        ·skip
         refine box_step ?hg (N := 6) ?hd (cs := vals zeros) (t := 93) ?hr ?_; (case hd => rfl); (case hg => rfl); (case hr => first | (go_simp; done) | (go_simp; rfl))
         intro g6 hg w30 hbox hb
         have B6 := aM hbox
         have GE6 := gE (w := w) hg (qB2 HB GEa GEb)
         have Na6 := nL hg BKa
         have Nb6 := nL hg BKb
         replace BKa := bK BKa hb
         replace BKb := bK BKb hb
         replace HB := bS (qB2 HB GEa GEb) hb
         clear hb hbox hg
         refine hK.out _ _ ⟨BKa.out, BKb.out⟩ (fun hHeld => ?_)
         clear hK K
         refine norm_ (a' := ?_) ?_ ?_
         rotate_left
         ·show Act.put _ (some 6) _ = _
          simp only [Act.put, sP]
          rfl
         refine two_ (i := 1) (j := 4) (Ni := some 10) (Nj := some 5) (bm 8 39) (bm 8 53) rfl rfl rfl rfl (two_of HT_.out (by kernel_rfl)) (by decide) (by decide) (fun K hK => ?_) (fun K hK => ?_)
         ·skip
          refine goes_ Try.func47 (by kernel_rfl) rfl #[.agg #[.int .i64 a0_0, .slice A0_1 l0_1.length c0_1, .slice A0_2 l0_2.length c0_2]] (by rfl) rfl rfl pA ?_
          with_reducible refine (cells_of.calls k a0_0 _ _ l0_1 _ _ l0_2 ya _ ?s1 ?s2 ?s3 ?s4 Aa.out).mono ?_
          (case s1 => exact sC HR0_1 HB)
          (case s2 => exact HC0_1.out)
          (case s3 => exact sC HR0_2 HB)
          (case s4 => exact HC0_2.out)
          rintro e w31 ⟨rfl, hb⟩
          refine ⟨_, rfl, ?_⟩
          replace B6 := bK B6 hb
          replace BKa := bK BKa hb
          replace BKb := bK BKb hb
          replace HB := bS (qB3 HB GEa GEb GE6) hb
          clear hb
          refine hK.out _ _ ⟨BKa.out, BKb.out⟩ (fun hHeld => ?_)
          clear hK K
          refine norm_ (a' := ?_) ?_ ?_
          rotate_left
          ·show Act.put _ (some 10) _ = _
           simp only [Act.put, sP]
           rfl
          exact norm_ (by first | (simp only [putAll, Act.put, sP]; done) | (simp only [putAll, Act.put, sP]; rfl)) (hJ1_5 g6 _ ⟨⟨BKa.out, BKb.out⟩, B6.out, GE6.out, Na6.out, Nb6.out, HB.out⟩)
         ·skip
          refine box_step ?hg (N := 5) ?hd (cs := vals zeros) (t := 93) ?hr ?_; (case hd => rfl); (case hg => rfl); (case hr => first | (go_simp; done) | (go_simp; rfl))
          intro g5 hg w32 hbox hb
          have B5 := aM hbox
          have GE5 := gE (w := w) hg (qB3 HB GEa GEb GE6)
          have Na5 := nL hg BKa
          have Nb5 := nL hg BKb
          have N56 := nG hg B6
          replace B6 := bK B6 hb
          replace BKa := bK BKa hb
          replace BKb := bK BKb hb
          replace HB := bS (qB3 HB GEa GEb GE6) hb
          clear hb hbox hg
          refine hK.out _ _ ⟨BKa.out, BKb.out⟩ (fun hHeld => ?_)
          clear hK K
          refine norm_ (a' := ?_) ?_ ?_
          rotate_left
          ·show Act.put _ (some 5) _ = _
           simp only [Act.put, sP]
           rfl
          exact norm_ (by first | (simp only [putAll, Act.put, sP]; done) | (simp only [putAll, Act.put, sP]; rfl)) (hJ0_45 (g5, g6) _ ⟨⟨BKa.out, BKb.out⟩, B5.out, GE5.out, Na5.out, Nb5.out, B6.out, GE6.out, Na6.out, Nb6.out, N56.out, HB.out⟩)
       rintro ⟨g5, g6⟩ w33 ⟨hS_, b5_, e5_, na5_, nb5_, b6_, e6_, na6_, nb6_, n56_, hB_⟩
       clear BKa BKb HB
       have BKa := aM hS_.1
       have BKb := aM hS_.2
       have HB := aM hB_
       have B5 := aM b5_
       have GE5 := aM e5_
       have Na5 := aM na5_
       have Nb5 := aM nb5_
       have B6 := aM b6_
       have GE6 := aM e6_
       have Na6 := aM na6_
       have Nb6 := aM nb6_
       have N56 := aM n56_
       clear b5_ e5_ na5_ nb5_ b6_ e6_ na6_ nb6_ n56_ hB_
       have hHeld := hS_
       clear hS_
       dsimp only at B5 GE5 Na5 Nb5 B6 GE6 Na6 Nb6 N56
       refine norm_ (a' := ?_) ?_ ?_
       rotate_left
       ·simp only [putAll, Act.put, sP]
        rfl
       refine one_ (i := 1) (N := some 10) (bm 8 55) rfl rfl (one_of HT_.out (by kernel_rfl)) (by decide) (fun K hK => ?_)
       refine goes_ Try.func47 (by kernel_rfl) rfl #[.agg #[.int .i64 a0_0, .slice A0_1 l0_1.length c0_1, .slice A0_2 l0_2.length c0_2]] (by rfl) rfl rfl pA ?_
       with_reducible refine (cells_of.calls k a0_0 _ _ l0_1 _ _ l0_2 ya _ ?s1 ?s2 ?s3 ?s4 Aa.out).mono ?_
       (case s1 => exact sC HR0_1 HB)
       (case s2 => exact HC0_1.out)
       (case s3 => exact sC HR0_2 HB)
       (case s4 => exact HC0_2.out)
       rintro e w34 ⟨rfl, hb⟩
       refine ⟨_, rfl, ?_⟩
       replace B5 := bK B5 hb
       replace B6 := bK B6 hb
       replace BKa := bK BKa hb
       replace BKb := bK BKb hb
       replace HB := bS (qB4 HB GEa GEb GE5 GE6) hb
       clear hb
       refine hK.out _ _ ⟨BKa.out, BKb.out⟩ (fun hHeld => ?_)
       clear hK K
       refine norm_ (a' := ?_) ?_ ?_
       rotate_left
       ·show Act.put _ (some 10) _ = _
        simp only [Act.put, sP]
        rfl
       exact norm_ (by first | (simp only [putAll, Act.put, sP]; done) | (simp only [putAll, Act.put, sP]; rfl)) (hJ1_45 (g5, g6) _ ⟨⟨BKa.out, BKb.out⟩, B5.out, GE5.out, Na5.out, Nb5.out, B6.out, GE6.out, Na6.out, Nb6.out, N56.out, HB.out⟩)
      rintro g6 w35 ⟨hS_, b6_, e6_, na6_, nb6_, hB_⟩
      clear BKa BKb HB
      have BKa := aM hS_.1
      have BKb := aM hS_.2
      have HB := aM hB_
      have B6 := aM b6_
      have GE6 := aM e6_
      have Na6 := aM na6_
      have Nb6 := aM nb6_
      clear b6_ e6_ na6_ nb6_ hB_
      have hHeld := hS_
      clear hS_
      refine norm_ (a' := ?_) ?_ ?_
      rotate_left
      ·simp only [putAll, Act.put, sP]
       rfl
      refine two_ (i := 3) (j := 4) (Ni := some 12) (Nj := some 5) (bm 8 47) (bm 8 55) rfl rfl rfl rfl (two_of HT_.out (by kernel_rfl)) (by decide) (by decide) (fun K hK => ?_) (fun K hK => ?_)
      ·skip
       refine goes_ Try.func47 (by kernel_rfl) rfl #[.agg #[.int .i64 a1_0, .slice A1_1 l1_1.length c1_1, .slice A1_2 l1_2.length c1_2]] (by rfl) rfl rfl pA ?_
       with_reducible refine (cells_of.calls k a1_0 _ _ l1_1 _ _ l1_2 yb _ ?s1 ?s2 ?s3 ?s4 Ab.out).mono ?_
       (case s1 => exact sC HR1_1 HB)
       (case s2 => exact HC1_1.out)
       (case s3 => exact sC HR1_2 HB)
       (case s4 => exact HC1_2.out)
       rintro e w36 ⟨rfl, hb⟩
       refine ⟨_, rfl, ?_⟩
       replace B6 := bK B6 hb
       replace BKa := bK BKa hb
       replace BKb := bK BKb hb
       replace HB := bS (qB3 HB GEa GEb GE6) hb
       clear hb
       refine hK.out _ _ ⟨BKa.out, BKb.out⟩ (fun hHeld => ?_)
       clear hK K
       refine norm_ (a' := ?_) ?_ ?_
       rotate_left
       ·show Act.put _ (some 12) _ = _
        simp only [Act.put, sP]
        rfl
       exact norm_ (by first | (simp only [putAll, Act.put, sP]; done) | (simp only [putAll, Act.put, sP]; rfl)) (hJ2_5 g6 _ ⟨⟨BKa.out, BKb.out⟩, B6.out, GE6.out, Na6.out, Nb6.out, HB.out⟩)
      ·skip
       refine box_step ?hg (N := 5) ?hd (cs := vals zeros) (t := 93) ?hr ?_; (case hd => rfl); (case hg => rfl); (case hr => first | (go_simp; done) | (go_simp; rfl))
       intro g5 hg w37 hbox hb
       have B5 := aM hbox
       have GE5 := gE (w := w) hg (qB3 HB GEa GEb GE6)
       have Na5 := nL hg BKa
       have Nb5 := nL hg BKb
       have N56 := nG hg B6
       replace B6 := bK B6 hb
       replace BKa := bK BKa hb
       replace BKb := bK BKb hb
       replace HB := bS (qB3 HB GEa GEb GE6) hb
       clear hb hbox hg
       refine hK.out _ _ ⟨BKa.out, BKb.out⟩ (fun hHeld => ?_)
       clear hK K
       refine norm_ (a' := ?_) ?_ ?_
       rotate_left
       ·show Act.put _ (some 5) _ = _
        simp only [Act.put, sP]
        rfl
       exact norm_ (by first | (simp only [putAll, Act.put, sP]; done) | (simp only [putAll, Act.put, sP]; rfl)) (hJ1_45 (g5, g6) _ ⟨⟨BKa.out, BKb.out⟩, B5.out, GE5.out, Na5.out, Nb5.out, B6.out, GE6.out, Na6.out, Nb6.out, N56.out, HB.out⟩)
     rintro g5 w38 ⟨hS_, b5_, e5_, na5_, nb5_, hB_⟩
     clear BKa BKb HB
     have BKa := aM hS_.1
     have BKb := aM hS_.2
     have HB := aM hB_
     have B5 := aM b5_
     have GE5 := aM e5_
     have Na5 := aM na5_
     have Nb5 := aM nb5_
     clear b5_ e5_ na5_ nb5_ hB_
     have hHeld := hS_
     clear hS_
     refine norm_ (a' := ?_) ?_ ?_
     rotate_left
     ·simp only [putAll, Act.put, sP]
      rfl
     refine two_ (i := 3) (j := 5) (Ni := some 12) (Nj := some 6) (bm 8 31) (bm 8 55) rfl rfl rfl rfl (two_of HT_.out (by kernel_rfl)) (by decide) (by decide) (fun K hK => ?_) (fun K hK => ?_)
     ·skip
      refine goes_ Try.func47 (by kernel_rfl) rfl #[.agg #[.int .i64 a1_0, .slice A1_1 l1_1.length c1_1, .slice A1_2 l1_2.length c1_2]] (by rfl) rfl rfl pA ?_
      with_reducible refine (cells_of.calls k a1_0 _ _ l1_1 _ _ l1_2 yb _ ?s1 ?s2 ?s3 ?s4 Ab.out).mono ?_
      (case s1 => exact sC HR1_1 HB)
      (case s2 => exact HC1_1.out)
      (case s3 => exact sC HR1_2 HB)
      (case s4 => exact HC1_2.out)
      rintro e w39 ⟨rfl, hb⟩
      refine ⟨_, rfl, ?_⟩
      replace B5 := bK B5 hb
      replace BKa := bK BKa hb
      replace BKb := bK BKb hb
      replace HB := bS (qB3 HB GEa GEb GE5) hb
      clear hb
      refine hK.out _ _ ⟨BKa.out, BKb.out⟩ (fun hHeld => ?_)
      clear hK K
      refine norm_ (a' := ?_) ?_ ?_
      rotate_left
      ·show Act.put _ (some 12) _ = _
       simp only [Act.put, sP]
       rfl
      exact norm_ (by first | (simp only [putAll, Act.put, sP]; done) | (simp only [putAll, Act.put, sP]; rfl)) (hJ2_4 g5 _ ⟨⟨BKa.out, BKb.out⟩, B5.out, GE5.out, Na5.out, Nb5.out, HB.out⟩)
     ·skip
      refine box_step ?hg (N := 6) ?hd (cs := vals zeros) (t := 93) ?hr ?_; (case hd => rfl); (case hg => rfl); (case hr => first | (go_simp; done) | (go_simp; rfl))
      intro g6 hg w40 hbox hb
      have B6 := aM hbox
      have GE6 := gE (w := w) hg (qB3 HB GEa GEb GE5)
      have Na6 := nL hg BKa
      have Nb6 := nL hg BKb
      have N56 := nL hg B5
      replace B5 := bK B5 hb
      replace BKa := bK BKa hb
      replace BKb := bK BKb hb
      replace HB := bS (qB3 HB GEa GEb GE5) hb
      clear hb hbox hg
      refine hK.out _ _ ⟨BKa.out, BKb.out⟩ (fun hHeld => ?_)
      clear hK K
      refine norm_ (a' := ?_) ?_ ?_
      rotate_left
      ·show Act.put _ (some 6) _ = _
       simp only [Act.put, sP]
       rfl
      exact norm_ (by first | (simp only [putAll, Act.put, sP]; done) | (simp only [putAll, Act.put, sP]; rfl)) (hJ1_45 (g5, g6) _ ⟨⟨BKa.out, BKb.out⟩, B5.out, GE5.out, Na5.out, Nb5.out, B6.out, GE6.out, Na6.out, Nb6.out, N56.out, HB.out⟩)
    rintro ⟨g5, g6⟩ w41 ⟨hS_, b5_, e5_, na5_, nb5_, b6_, e6_, na6_, nb6_, n56_, hB_⟩
    clear BKa BKb HB
    have BKa := aM hS_.1
    have BKb := aM hS_.2
    have HB := aM hB_
    have B5 := aM b5_
    have GE5 := aM e5_
    have Na5 := aM na5_
    have Nb5 := aM nb5_
    have B6 := aM b6_
    have GE6 := aM e6_
    have Na6 := aM na6_
    have Nb6 := aM nb6_
    have N56 := aM n56_
    clear b5_ e5_ na5_ nb5_ b6_ e6_ na6_ nb6_ n56_ hB_
    have hHeld := hS_
    clear hS_
    dsimp only at B5 GE5 Na5 Nb5 B6 GE6 Na6 Nb6 N56
    refine norm_ (a' := ?_) ?_ ?_
    rotate_left
    ·simp only [putAll, Act.put, sP]
     rfl
    refine one_ (i := 3) (N := some 12) (bm 8 63) rfl rfl (one_of HT_.out (by kernel_rfl)) (by decide) (fun K hK => ?_)
    refine goes_ Try.func47 (by kernel_rfl) rfl #[.agg #[.int .i64 a1_0, .slice A1_1 l1_1.length c1_1, .slice A1_2 l1_2.length c1_2]] (by rfl) rfl rfl pA ?_
    with_reducible refine (cells_of.calls k a1_0 _ _ l1_1 _ _ l1_2 yb _ ?s1 ?s2 ?s3 ?s4 Ab.out).mono ?_
    (case s1 => exact sC HR1_1 HB)
    (case s2 => exact HC1_1.out)
    (case s3 => exact sC HR1_2 HB)
    (case s4 => exact HC1_2.out)
    rintro e w42 ⟨rfl, hb⟩
    refine ⟨_, rfl, ?_⟩
    replace B5 := bK B5 hb
    replace B6 := bK B6 hb
    replace BKa := bK BKa hb
    replace BKb := bK BKb hb
    replace HB := bS (qB4 HB GEa GEb GE5 GE6) hb
    clear hb
    refine hK.out _ _ ⟨BKa.out, BKb.out⟩ (fun hHeld => ?_)
    clear hK K
    refine norm_ (a' := ?_) ?_ ?_
    rotate_left
    ·show Act.put _ (some 12) _ = _
     simp only [Act.put, sP]
     rfl
    exact norm_ (by first | (simp only [putAll, Act.put, sP]; done) | (simp only [putAll, Act.put, sP]; rfl)) (hJ2_45 (g5, g6) _ ⟨⟨BKa.out, BKb.out⟩, B5.out, GE5.out, Na5.out, Nb5.out, B6.out, GE6.out, Na6.out, Nb6.out, N56.out, HB.out⟩)
   rintro g6 w43 ⟨hS_, b6_, e6_, na6_, nb6_, hB_⟩
   clear BKa BKb HB
   have BKa := aM hS_.1
   have BKb := aM hS_.2
   have HB := aM hB_
   have B6 := aM b6_
   have GE6 := aM e6_
   have Na6 := aM na6_
   have Nb6 := aM nb6_
   clear b6_ e6_ na6_ nb6_ hB_
   have hHeld := hS_
   clear hS_
   refine norm_ (a' := ?_) ?_ ?_
   rotate_left
   ·simp only [putAll, Act.put, sP]
    rfl
   refine one_ (i := 4) (N := some 5) (bm 8 63) rfl rfl (one_of HT_.out (by kernel_rfl)) (by decide) (fun K hK => ?_)
   refine box_step ?hg (N := 5) ?hd (cs := vals zeros) (t := 93) ?hr ?_; (case hd => rfl); (case hg => rfl); (case hr => first | (go_simp; done) | (go_simp; rfl))
   intro g5 hg w44 hbox hb
   have B5 := aM hbox
   have GE5 := gE (w := w) hg (qB3 HB GEa GEb GE6)
   have Na5 := nL hg BKa
   have Nb5 := nL hg BKb
   have N56 := nG hg B6
   replace B6 := bK B6 hb
   replace BKa := bK BKa hb
   replace BKb := bK BKb hb
   replace HB := bS (qB3 HB GEa GEb GE6) hb
   clear hb hbox hg
   refine hK.out _ _ ⟨BKa.out, BKb.out⟩ (fun hHeld => ?_)
   clear hK K
   refine norm_ (a' := ?_) ?_ ?_
   rotate_left
   ·show Act.put _ (some 5) _ = _
    simp only [Act.put, sP]
    rfl
   exact norm_ (by first | (simp only [putAll, Act.put, sP]; done) | (simp only [putAll, Act.put, sP]; rfl)) (hJ2_45 (g5, g6) _ ⟨⟨BKa.out, BKb.out⟩, B5.out, GE5.out, Na5.out, Nb5.out, B6.out, GE6.out, Na6.out, Nb6.out, N56.out, HB.out⟩)
  rintro g5 w45 ⟨hS_, b5_, e5_, na5_, nb5_, hB_⟩
  clear BKa BKb HB
  have BKa := aM hS_.1
  have BKb := aM hS_.2
  have HB := aM hB_
  have B5 := aM b5_
  have GE5 := aM e5_
  have Na5 := aM na5_
  have Nb5 := aM nb5_
  clear b5_ e5_ na5_ nb5_ hB_
  have hHeld := hS_
  clear hS_
  refine norm_ (a' := ?_) ?_ ?_
  rotate_left
  ·simp only [putAll, Act.put, sP]
   rfl
  refine one_ (i := 5) (N := some 6) (bm 8 63) rfl rfl (one_of HT_.out (by kernel_rfl)) (by decide) (fun K hK => ?_)
  refine box_step ?hg (N := 6) ?hd (cs := vals zeros) (t := 93) ?hr ?_; (case hd => rfl); (case hg => rfl); (case hr => first | (go_simp; done) | (go_simp; rfl))
  intro g6 hg w46 hbox hb
  have B6 := aM hbox
  have GE6 := gE (w := w) hg (qB3 HB GEa GEb GE5)
  have Na6 := nL hg BKa
  have Nb6 := nL hg BKb
  have N56 := nL hg B5
  replace B5 := bK B5 hb
  replace BKa := bK BKa hb
  replace BKb := bK BKb hb
  replace HB := bS (qB3 HB GEa GEb GE5) hb
  clear hb hbox hg
  refine hK.out _ _ ⟨BKa.out, BKb.out⟩ (fun hHeld => ?_)
  clear hK K
  refine norm_ (a' := ?_) ?_ ?_
  rotate_left
  ·show Act.put _ (some 6) _ = _
   simp only [Act.put, sP]
   rfl
  exact norm_ (by first | (simp only [putAll, Act.put, sP]; done) | (simp only [putAll, Act.put, sP]; rfl)) (hJ2_45 (g5, g6) _ ⟨⟨BKa.out, BKb.out⟩, B5.out, GE5.out, Na5.out, Nb5.out, B6.out, GE6.out, Na6.out, Nb6.out, N56.out, HB.out⟩)
 rintro ⟨g5, g6⟩ w47 ⟨hS_, b5_, e5_, na5_, nb5_, b6_, e6_, na6_, nb6_, n56_, hB_⟩
 clear BKa BKb HB
 have BKa := aM hS_.1
 have BKb := aM hS_.2
 have HB := aM hB_
 have B5 := aM b5_
 have GE5 := aM e5_
 have Na5 := aM na5_
 have Nb5 := aM nb5_
 have B6 := aM b6_
 have GE6 := aM e6_
 have Na6 := aM na6_
 have Nb6 := aM nb6_
 have N56 := aM n56_
 clear b5_ e5_ na5_ nb5_ b6_ e6_ na6_ nb6_ n56_ hB_
 have hHeld := hS_
 clear hS_
 dsimp only at B5 GE5 Na5 Nb5 B6 GE6 Na6 Nb6 N56
 refine norm_ (a' := ?_) ?_ ?_
 rotate_left
 ·simp only [putAll, Act.put, sP]
  rfl
 refine one_ (i := 6) (N := none) (bm 8 127) rfl rfl (one_of HT_.out (by kernel_rfl)) (by decide) (fun K hK => ?_)
 rw [if_pos (by rfl)]
 refine wp_store_row 93 (.tmp 5) (.tmp 10) rfl g5 (vals ya) rfl rfl 93 (vals zeros) B5.out (by rw [hzya.out]; kernel_rfl) (by rw [hzya.out]; rfl) (vals_one ya) ?_
 replace BKa := aM ((setRow_other _ g5 ga (vals ya) Na5.out).trans BKa.out)
 replace BKb := aM ((setRow_other _ g5 gb (vals ya) Nb5.out).trans BKb.out)
 replace B6 := aM ((setRow_other _ g5 g6 (vals ya) (Ne.symm N56.out)).trans B6.out)
 replace B5 := aM (setRow_heap _ g5 _ (vals ya) _ _ B5.out)
 replace HB := aM (bRow HB.out GE5.out (vals ya))
 refine hK.out _ _ ⟨BKa.out, BKb.out⟩ (fun hHeld => ?_)
 clear hK K
 generalize World.setRow _ _ _ = w48 at BKa BKb B5 B6 HB hHeld ⊢
 refine norm_ (a' := ?_) ?_ ?_
 rotate_left
 ·show Act.put _ none _ = _
  simp only [Act.put, sP]
  rfl
 refine one_ (i := 7) (N := none) (bm 8 255) rfl rfl (one_of HT_.out (by kernel_rfl)) (by decide) (fun K hK => ?_)
 rw [if_pos (by rfl)]
 refine wp_store_row 93 (.tmp 6) (.tmp 12) rfl g6 (vals yb) rfl rfl 93 (vals zeros) B6.out (by rw [hzyb.out]; kernel_rfl) (by rw [hzyb.out]; rfl) (vals_one yb) ?_
 replace BKa := aM ((setRow_other _ g6 ga (vals yb) Na6.out).trans BKa.out)
 replace BKb := aM ((setRow_other _ g6 gb (vals yb) Nb6.out).trans BKb.out)
 replace B5 := aM ((setRow_other _ g6 g5 (vals yb) N56.out).trans B5.out)
 replace B6 := aM (setRow_heap _ g6 _ (vals yb) _ _ B6.out)
 replace HB := aM (bRow HB.out GE6.out (vals yb))
 refine hK.out _ _ ⟨BKa.out, BKb.out⟩ (fun hHeld => ?_)
 clear hK K
 generalize World.setRow _ _ _ = wz at BKa BKb B5 B6 HB hHeld ⊢
 refine norm_ (a' := ?_) ?_ ?_
 rotate_left
 ·show Act.put _ none _ = _
  simp only [Act.put, sP]
  rfl
 refine done_ (done_of HT_.out (by kernel_rfl)) ?_
 go_wp2_with (first | ((with_reducible refine gate_dst (N := 13) rfl ?_); refine wpList_load_row rfl 93 (.tmp 5) rfl g5 rfl 93 (vals ya) (0, 0) _ B5.out Try.underlying93 rfl (by rw [hzya.out]; kernel_rfl) ?_; simp only [Act.put, sP]))
 go_loopg [14] 64 (fun kq v14 w' => ∃ (i : Nat), v14 = .int .i64 (i : Int) ∧ Aside0 (i + kq = 64) ∧ Aside0 (cells_Meet.any (ya.drop i) (yb.drop i) = r) ∧ Aside0 (w' = wz))
 case atStart => exact ⟨0, rfl, ⟨rfl⟩, ⟨by rw [List.drop_zero, List.drop_zero]; exact H'.out⟩, ⟨rfl⟩⟩
 case round =>
  obtain ⟨i, rfl, HK, HA, HW⟩ := hrel
  obtain rfl := HW.out
  clear HW H'
  cases gk with
  | zero =>
   have hi : i = 64 := by have := HK.out; omega
   subst hi
   have HA1 := HA.out
   rw [List.drop_eq_nil_of_le (by rw [HSa.out]; omega), cells_Meet.any] at HA1
   · subst HA1
     clear HA
     go_wp2
     go_ret
     exact ⟨pE, HB.out⟩
   · intros; simp_all
  | succ kq =>
   have hi : i < 64 := by have := HK.out; omega
   have hv := fun w => vals_index ya i hi HSa.out w
   have c1n : decide (i < 64) = true := decide_eq_true hi
   have c1i : decide ((i : Int) < 64) = true := decide_eq_true (by omega)
   have q0 : (0 ≤ (i : Int)) = True := eq_true (by omega)
   have q1 : ((i : Int) < 64) = True := eq_true (by omega)
   have hx2 := vals_cell B6.out (i : Int) (by omega) (by have := HSb.out; omega)
   rw [Int.toNat_natCast] at hx2
   have ea : rd ya (i : Int) = ya[i]'(by rw [HSa.out]; exact hi) := by simp [rd, List.getD_eq_getElem?_getD, List.getElem?_eq_getElem (show i < ya.length by rw [HSa.out]; exact hi)]
   have eb : rd yb (i : Int) = yb[i]'(by rw [HSb.out]; exact hi) := by simp [rd, List.getD_eq_getElem?_getD, List.getElem?_eq_getElem (show i < yb.length by rw [HSb.out]; exact hi)]
   have HA1 := HA.out
   rw [List.drop_eq_getElem_cons (by rw [HSa.out]; exact hi), List.drop_eq_getElem_cons (l := yb) (by rw [HSb.out]; exact hi), cells_Meet.any, ← ea, ← eb] at HA1
   clear HA ea eb
   by_cases c2 : rd ya (i : Int) > 0
   · have c2b : decide (0 < rd ya (i : Int)) = true := decide_eq_true c2
     by_cases c3 : rd yb (i : Int) > 0
     · have c3b : decide (0 < rd yb (i : Int)) = true := decide_eq_true c3
       rw [if_pos ⟨c2, c3⟩] at HA1
       subst HA1
       clear c2 c3 hi
       go_wp2
       go_ret
       exact ⟨pE, HB.out⟩
     · have c3b : decide (0 < rd yb (i : Int)) = false := decide_eq_false c3
       rw [if_neg (fun h => c3 h.2)] at HA1
       have H1 := aM HA1
       clear c2 c3 hi HA1
       go_wp2
       go_roundg kq
       case measure => omega
       case rel => exact ⟨i + 1, by first | rfl | (rw [w64o (by have := HK.out; omega) (by have := HK.out; omega)]; rfl), ⟨by have := HK.out; omega⟩, H1, ⟨rfl⟩⟩
   · have c2b : decide (0 < rd ya (i : Int)) = false := decide_eq_false c2
     rw [if_neg (fun h => c2 h.1)] at HA1
     have H1 := aM HA1
     clear c2 hi HA1
     go_wp2
     go_roundg kq
     case measure => omega
     case rel => exact ⟨i + 1, by first | rfl | (rw [w64o (by have := HK.out; omega) (by have := HK.out; omega)]; rfl), ⟨by have := HK.out; omega⟩, H1, ⟨rfl⟩⟩
def gradinelaw22_Many.f (a0_0 : Int) (l0_1 : List Int) (l0_2 : List Int) : Option (Bool) := if (l0_1.length : Int) > 20 then (some true) else (some (decide ((l0_2.length : Int) > 20)))
set_option maxHeartbeats 8000000 in
set_option maxRecDepth 100000 in
theorem gradinelaw22_Many.calls (a0_0 : Int) (A0_1 : Option Addr) (c0_1 : Nat) (l0_1 : List Int) (A0_2 : Option Addr) (c0_2 : Nat) (l0_2 : List Int) (r : Bool) (w : World) (hr0_1 : Kd.C (Kd.int .i64) w A0_1 l0_1.length l0_1) (hc0_1 : l0_1.length ≤ c0_1) (hr0_2 : Kd.C (Kd.int .i64) w A0_2 l0_2.length l0_2) (hc0_2 : l0_2.length ≤ c0_2) (h : gradinelaw22_Many.f a0_0 l0_1 l0_2 = some r) :
  Calls Try.prog 21 #[.agg #[.int .i64 a0_0, .slice A0_1 l0_1.length c0_1, .slice A0_2 l0_2.length c0_2]] w fun e w' => e = .returned (.bool r) ∧ Below w.heap.size w w' := by
 have hu43 := Try.underlying43
 have HR0_1 := aM hr0_1
 have HC0_1 := aM hc0_1
 clear hr0_1 hc0_1
 have HR0_2 := aM hr0_2
 have HC0_2 := aM hc0_2
 clear hr0_2 hc0_2
 have HB := aM (Below.refl w.heap.size w)
 have H : (if (l0_1.length : Int) > 20 then (some true) else (some (decide ((l0_2.length : Int) > 20)))) = some r := h
 clear h
 by_cases c2 : (l0_1.length : Int) > 20
 ·rw [if_pos c2] at H
  have c2b0 : decide (20 < (l0_1.length : Int)) = true := decide_eq_true c2
  have c2b1 : decide (20 < l0_1.length) = true := decide_eq_true (by omega)
  clear c2
  obtain rfl := Option.some.inj H
  go_enter Try.func21, Try.ntmps21
  go_wp2_with (first | ((with_reducible refine gate_dst (N := 1) rfl ?_); (try (refine gate_guard (by rfl) ?_; dsimp only)); refine box_event ?hg (N := 1) ?hd (cs := #[.int .i64 a0_0, .slice A0_1 l0_1.length c0_1, .slice A0_2 l0_2.length c0_2]) (t := 43) ?hr ?_; (case hd => rfl); (case hg => rfl); (case hr => first | (go_simp; done) | (go_simp; rfl)); intro gb108 hg w3 hbox hb; have za := aM (hbox); have zb := gE (w := w) hg (qB HB); have zc := zb; replace HB := bS (qB HB) hb; clear hb hbox hg; obtain ⟨hcz4_0, hcz4_1, hcz4_2, hfz4_0, hfz4_1, hfz4_2⟩ := blk3 za.out))
  go_ret
  exact ⟨pE, qB1 HB zc⟩
 rw [if_neg c2] at H
 have c2b0 : decide (20 < (l0_1.length : Int)) = false := decide_eq_false c2
 have c2b1 : decide (20 < l0_1.length) = false := decide_eq_false (by omega)
 clear c2
 obtain rfl := Option.some.inj H
 go_enter Try.func21, Try.ntmps21
 go_wp2_with (first | ((with_reducible refine gate_dst (N := 1) rfl ?_); (try (refine gate_guard (by rfl) ?_; dsimp only)); refine box_event ?hg (N := 1) ?hd (cs := #[.int .i64 a0_0, .slice A0_1 l0_1.length c0_1, .slice A0_2 l0_2.length c0_2]) (t := 43) ?hr ?_; (case hd => rfl); (case hg => rfl); (case hr => first | (go_simp; done) | (go_simp; rfl)); intro gb108 hg w5 hbox hb; have za := aM (hbox); have zb := gE (w := w) hg (qB HB); have zc := zb; replace HB := bS (qB HB) hb; clear hb hbox hg; obtain ⟨hcz6_0, hcz6_1, hcz6_2, hfz6_0, hfz6_1, hfz6_2⟩ := blk3 za.out))
 go_ret
 exact ⟨pE, qB1 HB zc⟩
def gradineplain_Long.f (a0_0 : Bool) (l0_1 : List Int) (l0_2 : List Int) (a1 : Int) : Option (Bool) := if (l0_1.length : Int) > a1 then (some true) else (some (decide ((l0_2.length : Int) > a1)))
set_option maxHeartbeats 8000000 in
set_option maxRecDepth 100000 in
theorem gradineplain_Long.calls (a0_0 : Bool) (A0_1 : Option Addr) (c0_1 : Nat) (l0_1 : List Int) (A0_2 : Option Addr) (c0_2 : Nat) (l0_2 : List Int) (a1 : Int) (r : Bool) (w : World) (hr0_1 : Kd.C (Kd.int .u64) w A0_1 l0_1.length l0_1) (hc0_1 : l0_1.length ≤ c0_1) (hr0_2 : Kd.C (Kd.int .u64) w A0_2 l0_2.length l0_2) (hc0_2 : l0_2.length ≤ c0_2) (h : gradineplain_Long.f a0_0 l0_1 l0_2 a1 = some r) :
  Calls Try.prog 42 #[.agg #[.bool a0_0, .slice A0_1 l0_1.length c0_1, .slice A0_2 l0_2.length c0_2], .int .i64 a1] w fun e w' => e = .returned (.bool r) ∧ Below w.heap.size w w' := by
 have hu78 := Try.underlying78
 have HR0_1 := aM hr0_1
 have HC0_1 := aM hc0_1
 clear hr0_1 hc0_1
 have HR0_2 := aM hr0_2
 have HC0_2 := aM hc0_2
 clear hr0_2 hc0_2
 have HB := aM (Below.refl w.heap.size w)
 have H : (if (l0_1.length : Int) > a1 then (some true) else (some (decide ((l0_2.length : Int) > a1)))) = some r := h
 clear h
 by_cases c3 : (l0_1.length : Int) > a1
 ·rw [if_pos c3] at H
  have c3b0 : decide (a1 < (l0_1.length : Int)) = true := decide_eq_true c3
  clear c3
  obtain rfl := Option.some.inj H
  go_enter Try.func42, Try.ntmps42
  go_wp2_with (first | ((with_reducible refine gate_dst (N := 2) rfl ?_); (try (refine gate_guard (by rfl) ?_; dsimp only)); refine box_event ?hg (N := 2) ?hd (cs := #[.bool a0_0, .slice A0_1 l0_1.length c0_1, .slice A0_2 l0_2.length c0_2]) (t := 78) ?hr ?_; (case hd => rfl); (case hg => rfl); (case hr => first | (go_simp; done) | (go_simp; rfl)); intro gb101 hg w4 hbox hb; have za := aM (hbox); have zb := gE (w := w) hg (qB HB); have zc := zb; replace HB := bS (qB HB) hb; clear hb hbox hg; obtain ⟨hcz5_0, hcz5_1, hcz5_2, hfz5_0, hfz5_1, hfz5_2⟩ := blk3 za.out))
  go_ret
  exact ⟨pE, qB1 HB zc⟩
 rw [if_neg c3] at H
 have c3b0 : decide (a1 < (l0_1.length : Int)) = false := decide_eq_false c3
 clear c3
 obtain rfl := Option.some.inj H
 go_enter Try.func42, Try.ntmps42
 go_wp2_with (first | ((with_reducible refine gate_dst (N := 2) rfl ?_); (try (refine gate_guard (by rfl) ?_; dsimp only)); refine box_event ?hg (N := 2) ?hd (cs := #[.bool a0_0, .slice A0_1 l0_1.length c0_1, .slice A0_2 l0_2.length c0_2]) (t := 78) ?hr ?_; (case hd => rfl); (case hg => rfl); (case hr => first | (go_simp; done) | (go_simp; rfl)); intro gb101 hg w6 hbox hb; have za := aM (hbox); have zb := gE (w := w) hg (qB HB); have zc := zb; replace HB := bS (qB HB) hb; clear hb hbox hg; obtain ⟨hcz7_0, hcz7_1, hcz7_2, hfz7_0, hfz7_1, hfz7_2⟩ := blk3 za.out))
 go_ret
 exact ⟨pE, qB1 HB zc⟩
def gradineplain_Wide.l0 : Nat → List (S80) → Int → Int → Int → Option (Bool)
 | 0, _, _, _, _ => none
 | k + 1, x0, x1, x7, x8 => if x8 < x7 then (if 0 ≤ x8 then (if x8 < (x0.length : Int) then ((gradineplain_Long.f ((rd_T80 x0 x8).f0.f0) ((rd_T80 x0 x8).f0.f1) ((rd_T80 x0 x8).f0.f2) x1).bind fun ze => (if ze = true then (some true) else (gradineplain_Wide.l0 k x0 x1 x7 (wrap64 (x8 + 1))))) else (none)) else (none)) else (some false)
def gradineplain_Wide.f (k : Nat) (l0 : List (S80)) (a1 : Int) : Option (Bool) := gradineplain_Wide.l0 k l0 a1 (l0.length : Int) 0
set_option maxHeartbeats 8000000 in
set_option maxRecDepth 100000 in
theorem gradineplain_Wide.calls (k : Nat) (A0 : Option Addr) (c0 : Nat) (l0 : List (S80)) (a1 : Int) (r : Bool) (w : World) (hr0 : Kd.C k80 w A0 l0.length l0) (hc0 : l0.length ≤ c0) (h : gradineplain_Wide.f k l0 a1 = some r) :
  Calls Try.prog 24 #[.slice A0 l0.length c0, .int .i64 a1] w fun e w' => e = .returned (.bool r) ∧ Below w.heap.size w w' := by
 have hu78 := Try.underlying78
 have HR0 := aM hr0
 have HC0 := aM hc0
 clear hr0 hc0
 have HB := aM (Below.refl w.heap.size w)
 have H : (gradineplain_Wide.l0 k l0 a1 (l0.length : Int) 0) = some r := h
 clear h
 have H' := aM H
 clear H
 go_enter Try.func24, Try.ntmps24
 go_wp2
 go_loopg [8] k (fun kq v8 w' => ∃ (x8_1 : Int), v8 = .int .i64 x8_1 ∧ Aside0 (gradineplain_Wide.l0 kq l0 a1 (l0.length : Int) x8_1 = some r) ∧ Aside0 (kq ≤ k) ∧ Aside0 (Below w.heap.size w w'))
 case atStart => exact ⟨(0), (pF), H', ⟨Nat.le_refl _⟩, ⟨qB HB⟩⟩
 case round =>
  clear H'
  obtain ⟨x8_1, rfl, HA, HK1, HB⟩ := hrel
  cases gk with
  | zero => exact absurd HA.out (by simp [gradineplain_Wide.l0])
  | succ k1 =>
   have H := HA.out
   clear HA
   simp only [gradineplain_Wide.l0] at H
   by_cases c3 : x8_1 < (l0.length : Int)
   rotate_left
   ·rw [if_neg c3] at H
    have c3b0 : decide (x8_1 < (l0.length : Int)) = false := decide_eq_false c3
    clear c3
    obtain rfl := Option.some.inj H
    go_wp2
    go_ret
    exact ⟨pE, qB HB⟩
   rw [if_pos c3] at H
   have c3b0 : decide (x8_1 < (l0.length : Int)) = true := decide_eq_true c3
   clear c3
   by_cases c4 : 0 ≤ x8_1
   rotate_left
   ·rw [if_neg c4] at H
    exact absurd H (by simp)
   rw [if_pos c4] at H
   have c4b0 : decide (0 ≤ x8_1) = true := decide_eq_true c4
   clear c4
   by_cases c5 : x8_1 < (l0.length : Int)
   rotate_left
   ·rw [if_neg c5] at H
    exact absurd H (by simp)
   rw [if_pos c5] at H
   have c5b0 : decide (x8_1 < (l0.length : Int)) = true := decide_eq_true c5
   clear c5
   replace H := Option.bind_eq_some_iff.mp H
   obtain ⟨ze, A60, H⟩ := H
   try dsimp only at H
   have A6 := aM A60
   clear A60
   by_cases c7 : ze = true
   ·subst c7
    rw [if_pos rfl] at H
    obtain rfl := Option.some.inj H
    have p102 : 0 ≤ (x8_1 : Int) := of_decide_eq_true pD
    have q102 : x8_1 < (l0.length : Int) := of_decide_eq_true pD
    obtain ⟨ad102, A102_1, c102_1, A102_2, c102_2, e102, hx102_0, hx102_1, hx102_2, hx102_3, hx102_4, hl102_1, hi102_1, hl102_2, hi102_2⟩ := at_T80 HR0.out x8_1 p102 q102
    cases e102
    replace hx102_0 := (HB.out.cell (World.block_lt_of_cell? w _ hx102_0)).trans hx102_0
    replace hx102_1 := (HB.out.cell (World.block_lt_of_cell? w _ hx102_1)).trans hx102_1
    replace hx102_2 := (HB.out.cell (World.block_lt_of_cell? w _ hx102_2)).trans hx102_2
    replace hx102_3 := (HB.out.cell (World.block_lt_of_cell? w _ hx102_3)).trans hx102_3
    replace hx102_4 := (HB.out.cell (World.block_lt_of_cell? w _ hx102_4)).trans hx102_4
    have za := aM hi102_1
    have zb := aM hl102_1
    clear hi102_1 hl102_1
    have zc := aM hi102_2
    have zd := aM hl102_2
    clear hi102_2 hl102_2
    replace p102 := eq_true p102
    replace q102 := eq_true q102
    go_wp2_with (first | ((with_reducible refine gate_callee (f := 42) rfl ?_); refine goesL_ (some 17) rfl rfl Try.func42 (by kernel_rfl) rfl #[.agg #[.bool ((rd_T80 l0 x8_1).f0.f0), .slice A102_1 ((rd_T80 l0 x8_1).f0.f1).length c102_1, .slice A102_2 ((rd_T80 l0 x8_1).f0.f2).length c102_2], .int .i64 a1] rfl pA ?_; (with_reducible refine (gradineplain_Long.calls ((rd_T80 l0 x8_1).f0.f0) _ _ ((rd_T80 l0 x8_1).f0.f1) _ _ ((rd_T80 l0 x8_1).f0.f2) a1 true _ ?s1 ?s2 ?s3 ?s4 A6.out).mono ?_); (case s1 => exact sC za HB); (case s2 => exact zb.out); (case s3 => exact sC zc HB); (case s4 => exact zd.out); rintro e w8 ⟨rfl, hb⟩; refine ⟨_, rfl, ?_⟩; replace HB := bS (qB HB) hb; (try clear hb); (try clear hk); (try clear hi)))
    go_ret
    exact ⟨pE, qB HB⟩
   replace c7 := Bool.eq_false_iff.mpr c7
   subst c7
   rw [if_neg (show ¬ (false = true) by decide)] at H
   have H' := aM H
   clear H
   have p102 : 0 ≤ (x8_1 : Int) := of_decide_eq_true pD
   have q102 : x8_1 < (l0.length : Int) := of_decide_eq_true pD
   obtain ⟨ad102, A102_1, c102_1, A102_2, c102_2, e102, hx102_0, hx102_1, hx102_2, hx102_3, hx102_4, hl102_1, hi102_1, hl102_2, hi102_2⟩ := at_T80 HR0.out x8_1 p102 q102
   cases e102
   replace hx102_0 := (HB.out.cell (World.block_lt_of_cell? w _ hx102_0)).trans hx102_0
   replace hx102_1 := (HB.out.cell (World.block_lt_of_cell? w _ hx102_1)).trans hx102_1
   replace hx102_2 := (HB.out.cell (World.block_lt_of_cell? w _ hx102_2)).trans hx102_2
   replace hx102_3 := (HB.out.cell (World.block_lt_of_cell? w _ hx102_3)).trans hx102_3
   replace hx102_4 := (HB.out.cell (World.block_lt_of_cell? w _ hx102_4)).trans hx102_4
   have za := aM hi102_1
   have zb := aM hl102_1
   clear hi102_1 hl102_1
   have zc := aM hi102_2
   have zd := aM hl102_2
   clear hi102_2 hl102_2
   replace p102 := eq_true p102
   replace q102 := eq_true q102
   go_wp2_with (first | ((with_reducible refine gate_callee (f := 42) rfl ?_); refine goesL_ (some 17) rfl rfl Try.func42 (by kernel_rfl) rfl #[.agg #[.bool ((rd_T80 l0 x8_1).f0.f0), .slice A102_1 ((rd_T80 l0 x8_1).f0.f1).length c102_1, .slice A102_2 ((rd_T80 l0 x8_1).f0.f2).length c102_2], .int .i64 a1] rfl pA ?_; (with_reducible refine (gradineplain_Long.calls ((rd_T80 l0 x8_1).f0.f0) _ _ ((rd_T80 l0 x8_1).f0.f1) _ _ ((rd_T80 l0 x8_1).f0.f2) a1 false _ ?s1 ?s2 ?s3 ?s4 A6.out).mono ?_); (case s1 => exact sC za HB); (case s2 => exact zb.out); (case s3 => exact sC zc HB); (case s4 => exact zd.out); rintro e w9 ⟨rfl, hb⟩; refine ⟨_, rfl, ?_⟩; replace HB := bS (qB HB) hb; (try clear hb); (try clear hk); (try clear hi)))
   go_roundg k1
   case measure => have := HK1.out; omega
   case rel => exact ⟨(wrap64 (x8_1 + 1)), (pF), H', ⟨by have := HK1.out; omega⟩, ⟨qB HB⟩⟩
def gradinelaw25_many.l0 : Nat → List (S45) → Int → Int → Option (Bool)
 | 0, _, _, _ => none
 | k + 1, x0, x5, x6 => if x6 < x5 then (if 0 ≤ x6 then (if x6 < (x0.length : Int) then ((gradinelaw22_Many.f ((rd_T45 x0 x6).f0.f0) ((rd_T45 x0 x6).f0.f1) ((rd_T45 x0 x6).f0.f2)).bind fun zo => (if zo = true then (some true) else (if (((rd_T45 x0 x6).f1).length : Int) > 100 then (some true) else ((gradineplain_Wide.f k ((rd_T45 x0 x6).f1) 9).bind fun zp => (if zp = true then (some true) else (gradinelaw25_many.l0 k x0 x5 (wrap64 (x6 + 1)))))))) else (none)) else (none)) else (some (decide ((x0.length : Int) > 20)))
def gradinelaw25_many.f (k : Nat) (l0 : List (S45)) : Option (Bool) := gradinelaw25_many.l0 k l0 (l0.length : Int) 0
set_option maxHeartbeats 8000000 in
set_option maxRecDepth 100000 in
theorem gradinelaw25_many.calls (k : Nat) (A0 : Option Addr) (c0 : Nat) (l0 : List (S45)) (r : Bool) (w : World) (hr0 : Kd.C k45 w A0 l0.length l0) (hc0 : l0.length ≤ c0) (h : gradinelaw25_many.f k l0 = some r) :
  Calls Try.prog 6 #[.slice A0 l0.length c0] w fun e w' => e = .returned (.bool r) ∧ Below w.heap.size w w' := by
 have hu43 := Try.underlying43
 have HR0 := aM hr0
 have HC0 := aM hc0
 clear hr0 hc0
 have HB := aM (Below.refl w.heap.size w)
 have H : (gradinelaw25_many.l0 k l0 (l0.length : Int) 0) = some r := h
 clear h
 have H' := aM H
 clear H
 go_enter Try.func6, Try.ntmps6
 go_wp2
 go_loopg [6] k (fun kq v6 w' => ∃ (x6_1 : Int), v6 = .int .i64 x6_1 ∧ Aside0 (gradinelaw25_many.l0 kq l0 (l0.length : Int) x6_1 = some r) ∧ Aside0 (kq ≤ k) ∧ Aside0 (Below w.heap.size w w'))
 case atStart => exact ⟨(0), (pF), H', ⟨Nat.le_refl _⟩, ⟨qB HB⟩⟩
 case round =>
  clear H'
  obtain ⟨x6_1, rfl, HA, HK1, HB⟩ := hrel
  cases gk with
  | zero => exact absurd HA.out (by simp [gradinelaw25_many.l0])
  | succ k1 =>
   have H := HA.out
   clear HA
   simp only [gradinelaw25_many.l0] at H
   by_cases c2 : x6_1 < (l0.length : Int)
   rotate_left
   ·rw [if_neg c2] at H
    have c2b0 : decide (x6_1 < (l0.length : Int)) = false := decide_eq_false c2
    clear c2
    obtain rfl := Option.some.inj H
    go_wp2
    go_ret
    exact ⟨pE, qB HB⟩
   rw [if_pos c2] at H
   have c2b0 : decide (x6_1 < (l0.length : Int)) = true := decide_eq_true c2
   clear c2
   by_cases c3 : 0 ≤ x6_1
   rotate_left
   ·rw [if_neg c3] at H
    exact absurd H (by simp)
   rw [if_pos c3] at H
   have c3b0 : decide (0 ≤ x6_1) = true := decide_eq_true c3
   clear c3
   by_cases c4 : x6_1 < (l0.length : Int)
   rotate_left
   ·rw [if_neg c4] at H
    exact absurd H (by simp)
   rw [if_pos c4] at H
   have c4b0 : decide (x6_1 < (l0.length : Int)) = true := decide_eq_true c4
   clear c4
   replace H := Option.bind_eq_some_iff.mp H
   obtain ⟨zo, A50, H⟩ := H
   try dsimp only at H
   have A5 := aM A50
   clear A50
   by_cases c6 : zo = true
   ·subst c6
    rw [if_pos rfl] at H
    obtain rfl := Option.some.inj H
    have p109 : 0 ≤ (x6_1 : Int) := of_decide_eq_true pD
    have q109 : x6_1 < (l0.length : Int) := of_decide_eq_true pD
    obtain ⟨ad109, A109_1, c109_1, A109_2, c109_2, A109_3, c109_3, e109, hx109_0, hx109_1, hx109_2, hx109_3, hl109_1, hi109_1, hl109_2, hi109_2, hl109_3, hi109_3⟩ := at_T45 HR0.out x6_1 p109 q109
    cases e109
    replace hx109_0 := (HB.out.cell (World.block_lt_of_cell? w _ hx109_0)).trans hx109_0
    replace hx109_1 := (HB.out.cell (World.block_lt_of_cell? w _ hx109_1)).trans hx109_1
    replace hx109_2 := (HB.out.cell (World.block_lt_of_cell? w _ hx109_2)).trans hx109_2
    replace hx109_3 := (HB.out.cell (World.block_lt_of_cell? w _ hx109_3)).trans hx109_3
    have za := aM hi109_1
    have zb := aM hl109_1
    clear hi109_1 hl109_1
    have zc := aM hi109_2
    have zd := aM hl109_2
    clear hi109_2 hl109_2
    have ze := aM hi109_3
    have zf := aM hl109_3
    clear hi109_3 hl109_3
    replace p109 := eq_true p109
    replace q109 := eq_true q109
    go_wp2_with (first | ((with_reducible refine gate_callee (f := 21) rfl ?_); refine goesL_ (some 14) rfl rfl Try.func21 (by kernel_rfl) rfl #[.agg #[.int .i64 ((rd_T45 l0 x6_1).f0.f0), .slice A109_1 ((rd_T45 l0 x6_1).f0.f1).length c109_1, .slice A109_2 ((rd_T45 l0 x6_1).f0.f2).length c109_2]] rfl pA ?_; (with_reducible refine (gradinelaw22_Many.calls ((rd_T45 l0 x6_1).f0.f0) _ _ ((rd_T45 l0 x6_1).f0.f1) _ _ ((rd_T45 l0 x6_1).f0.f2) true _ ?s1 ?s2 ?s3 ?s4 A5.out).mono ?_); (case s1 => exact sC za HB); (case s2 => exact zb.out); (case s3 => exact sC zc HB); (case s4 => exact zd.out); rintro e w7 ⟨rfl, hb⟩; refine ⟨_, rfl, ?_⟩; replace HB := bS (qB HB) hb; (try clear hb); (try clear hk); (try clear hi)))
    go_ret
    exact ⟨pE, qB HB⟩
   replace c6 := Bool.eq_false_iff.mpr c6
   subst c6
   rw [if_neg (show ¬ (false = true) by decide)] at H
   by_cases c8 : (((rd_T45 l0 x6_1).f1).length : Int) > 100
   ·rw [if_pos c8] at H
    have c8b0 : decide (100 < (((rd_T45 l0 x6_1).f1).length : Int)) = true := decide_eq_true c8
    have c8b1 : decide (100 < ((rd_T45 l0 x6_1).f1).length) = true := decide_eq_true (by omega)
    clear c8
    obtain rfl := Option.some.inj H
    have p109 : 0 ≤ (x6_1 : Int) := of_decide_eq_true pD
    have q109 : x6_1 < (l0.length : Int) := of_decide_eq_true pD
    obtain ⟨ad109, A109_1, c109_1, A109_2, c109_2, A109_3, c109_3, e109, hx109_0, hx109_1, hx109_2, hx109_3, hl109_1, hi109_1, hl109_2, hi109_2, hl109_3, hi109_3⟩ := at_T45 HR0.out x6_1 p109 q109
    cases e109
    replace hx109_0 := (HB.out.cell (World.block_lt_of_cell? w _ hx109_0)).trans hx109_0
    replace hx109_1 := (HB.out.cell (World.block_lt_of_cell? w _ hx109_1)).trans hx109_1
    replace hx109_2 := (HB.out.cell (World.block_lt_of_cell? w _ hx109_2)).trans hx109_2
    replace hx109_3 := (HB.out.cell (World.block_lt_of_cell? w _ hx109_3)).trans hx109_3
    have za := aM hi109_1
    have zb := aM hl109_1
    clear hi109_1 hl109_1
    have zc := aM hi109_2
    have zd := aM hl109_2
    clear hi109_2 hl109_2
    have ze := aM hi109_3
    have zf := aM hl109_3
    clear hi109_3 hl109_3
    replace p109 := eq_true p109
    replace q109 := eq_true q109
    go_wp2_with (first | ((with_reducible refine gate_callee (f := 21) rfl ?_); refine goesL_ (some 14) rfl rfl Try.func21 (by kernel_rfl) rfl #[.agg #[.int .i64 ((rd_T45 l0 x6_1).f0.f0), .slice A109_1 ((rd_T45 l0 x6_1).f0.f1).length c109_1, .slice A109_2 ((rd_T45 l0 x6_1).f0.f2).length c109_2]] rfl pA ?_; (with_reducible refine (gradinelaw22_Many.calls ((rd_T45 l0 x6_1).f0.f0) _ _ ((rd_T45 l0 x6_1).f0.f1) _ _ ((rd_T45 l0 x6_1).f0.f2) false _ ?s1 ?s2 ?s3 ?s4 A5.out).mono ?_); (case s1 => exact sC za HB); (case s2 => exact zb.out); (case s3 => exact sC zc HB); (case s4 => exact zd.out); rintro e w9 ⟨rfl, hb⟩; refine ⟨_, rfl, ?_⟩; replace HB := bS (qB HB) hb; (try clear hb); (try clear hk); (try clear hi); have p111 : 0 ≤ (x6_1 : Int) := of_decide_eq_true pD; have q111 : x6_1 < (l0.length : Int) := of_decide_eq_true pD; obtain ⟨ad111, A111_1, c111_1, A111_2, c111_2, A111_3, c111_3, e111, hx111_0, hx111_1, hx111_2, hx111_3, hl111_1, hi111_1, hl111_2, hi111_2, hl111_3, hi111_3⟩ := at_T45 HR0.out x6_1 p111 q111; obtain rfl : ad109 = ad111 := (by injection e111); replace hx111_0 := (HB.out.cell (World.block_lt_of_cell? w _ hx111_0)).trans hx111_0; replace hx111_1 := (HB.out.cell (World.block_lt_of_cell? w _ hx111_1)).trans hx111_1; replace hx111_2 := (HB.out.cell (World.block_lt_of_cell? w _ hx111_2)).trans hx111_2; replace hx111_3 := (HB.out.cell (World.block_lt_of_cell? w _ hx111_3)).trans hx111_3; have zi := aM hi111_1; have zj := aM hl111_1; clear hi111_1 hl111_1; have zk := aM hi111_2; have zl := aM hl111_2; clear hi111_2 hl111_2; have zm := aM hi111_3; have zn := aM hl111_3; clear hi111_3 hl111_3; replace p111 := eq_true p111; replace q111 := eq_true q111))
    go_ret
    exact ⟨pE, qB HB⟩
   rw [if_neg c8] at H
   have c8b0 : decide (100 < (((rd_T45 l0 x6_1).f1).length : Int)) = false := decide_eq_false c8
   have c8b1 : decide (100 < ((rd_T45 l0 x6_1).f1).length) = false := decide_eq_false (by omega)
   clear c8
   replace H := Option.bind_eq_some_iff.mp H
   obtain ⟨zp, zq, H⟩ := H
   try dsimp only at H
   have A10 := aM zq
   clear zq
   by_cases c11 : zp = true
   ·subst c11
    rw [if_pos rfl] at H
    obtain rfl := Option.some.inj H
    have p109 : 0 ≤ (x6_1 : Int) := of_decide_eq_true pD
    have q109 : x6_1 < (l0.length : Int) := of_decide_eq_true pD
    obtain ⟨ad109, A109_1, c109_1, A109_2, c109_2, A109_3, c109_3, e109, hx109_0, hx109_1, hx109_2, hx109_3, hl109_1, hi109_1, hl109_2, hi109_2, hl109_3, hi109_3⟩ := at_T45 HR0.out x6_1 p109 q109
    cases e109
    replace hx109_0 := (HB.out.cell (World.block_lt_of_cell? w _ hx109_0)).trans hx109_0
    replace hx109_1 := (HB.out.cell (World.block_lt_of_cell? w _ hx109_1)).trans hx109_1
    replace hx109_2 := (HB.out.cell (World.block_lt_of_cell? w _ hx109_2)).trans hx109_2
    replace hx109_3 := (HB.out.cell (World.block_lt_of_cell? w _ hx109_3)).trans hx109_3
    have za := aM hi109_1
    have zb := aM hl109_1
    clear hi109_1 hl109_1
    have zc := aM hi109_2
    have zd := aM hl109_2
    clear hi109_2 hl109_2
    have ze := aM hi109_3
    have zf := aM hl109_3
    clear hi109_3 hl109_3
    replace p109 := eq_true p109
    replace q109 := eq_true q109
    go_wp2_with (first | ((with_reducible refine gate_callee (f := 21) rfl ?_); refine goesL_ (some 14) rfl rfl Try.func21 (by kernel_rfl) rfl #[.agg #[.int .i64 ((rd_T45 l0 x6_1).f0.f0), .slice A109_1 ((rd_T45 l0 x6_1).f0.f1).length c109_1, .slice A109_2 ((rd_T45 l0 x6_1).f0.f2).length c109_2]] rfl pA ?_; (with_reducible refine (gradinelaw22_Many.calls ((rd_T45 l0 x6_1).f0.f0) _ _ ((rd_T45 l0 x6_1).f0.f1) _ _ ((rd_T45 l0 x6_1).f0.f2) false _ ?s1 ?s2 ?s3 ?s4 A5.out).mono ?_); (case s1 => exact sC za HB); (case s2 => exact zb.out); (case s3 => exact sC zc HB); (case s4 => exact zd.out); rintro e w12 ⟨rfl, hb⟩; refine ⟨_, rfl, ?_⟩; replace HB := bS (qB HB) hb; (try clear hb); (try clear hk); (try clear hi); have p111 : 0 ≤ (x6_1 : Int) := of_decide_eq_true pD; have q111 : x6_1 < (l0.length : Int) := of_decide_eq_true pD; obtain ⟨ad111, A111_1, c111_1, A111_2, c111_2, A111_3, c111_3, e111, hx111_0, hx111_1, hx111_2, hx111_3, hl111_1, hi111_1, hl111_2, hi111_2, hl111_3, hi111_3⟩ := at_T45 HR0.out x6_1 p111 q111; obtain rfl : ad109 = ad111 := (by injection e111); replace hx111_0 := (HB.out.cell (World.block_lt_of_cell? w _ hx111_0)).trans hx111_0; replace hx111_1 := (HB.out.cell (World.block_lt_of_cell? w _ hx111_1)).trans hx111_1; replace hx111_2 := (HB.out.cell (World.block_lt_of_cell? w _ hx111_2)).trans hx111_2; replace hx111_3 := (HB.out.cell (World.block_lt_of_cell? w _ hx111_3)).trans hx111_3; have zi := aM hi111_1; have zj := aM hl111_1; clear hi111_1 hl111_1; have zk := aM hi111_2; have zl := aM hl111_2; clear hi111_2 hl111_2; have zm := aM hi111_3; have zn := aM hl111_3; clear hi111_3 hl111_3; replace p111 := eq_true p111; replace q111 := eq_true q111; have p112 : 0 ≤ (x6_1 : Int) := of_decide_eq_true pD; have q112 : x6_1 < (l0.length : Int) := of_decide_eq_true pD; obtain ⟨ad112, A112_1, c112_1, A112_2, c112_2, A112_3, c112_3, e112, hx112_0, hx112_1, hx112_2, hx112_3, hl112_1, hi112_1, hl112_2, hi112_2, hl112_3, hi112_3⟩ := at_T45 HR0.out x6_1 p112 q112; obtain rfl : ad109 = ad112 := (by injection e112); replace hx112_0 := (HB.out.cell (World.block_lt_of_cell? w _ hx112_0)).trans hx112_0; replace hx112_1 := (HB.out.cell (World.block_lt_of_cell? w _ hx112_1)).trans hx112_1; replace hx112_2 := (HB.out.cell (World.block_lt_of_cell? w _ hx112_2)).trans hx112_2; replace hx112_3 := (HB.out.cell (World.block_lt_of_cell? w _ hx112_3)).trans hx112_3; have HR112_1 := aM hi112_1; have HC112_1 := aM hl112_1; clear hi112_1 hl112_1; have HR112_2 := aM hi112_2; have HC112_2 := aM hl112_2; clear hi112_2 hl112_2; have zg := aM hi112_3; have zh := aM hl112_3; clear hi112_3 hl112_3; replace p112 := eq_true p112; replace q112 := eq_true q112; have ea_ := Option.some.inj (hx111_1.symm.trans hx112_1); injection ea_ with ea_ en_ ec_; subst ea_; subst ec_; clear en_; have ea_ := Option.some.inj (hx111_2.symm.trans hx112_2); injection ea_ with ea_ en_ ec_; subst ea_; subst ec_; clear en_; have ea_ := Option.some.inj (hx111_3.symm.trans hx112_3); injection ea_ with ea_ en_ ec_; subst ea_; subst ec_; clear en_) | (go_at_call 24; (with_reducible refine (gradineplain_Wide.calls k1 _ _ ((rd_T45 l0 x6_1).f1) 9 true _ ?s1 ?s2 A10.out).mono ?_); (case s1 => exact sC zg HB); (case s2 => exact zh.out); rintro e w13 ⟨rfl, hb⟩; replace HB := bS (qB HB) hb; (try clear hb); (try clear hk); (try clear hi)))
    go_ret
    exact ⟨pE, qB HB⟩
   replace c11 := Bool.eq_false_iff.mpr c11
   subst c11
   rw [if_neg (show ¬ (false = true) by decide)] at H
   have H' := aM H
   clear H
   have p109 : 0 ≤ (x6_1 : Int) := of_decide_eq_true pD
   have q109 : x6_1 < (l0.length : Int) := of_decide_eq_true pD
   obtain ⟨ad109, A109_1, c109_1, A109_2, c109_2, A109_3, c109_3, e109, hx109_0, hx109_1, hx109_2, hx109_3, hl109_1, hi109_1, hl109_2, hi109_2, hl109_3, hi109_3⟩ := at_T45 HR0.out x6_1 p109 q109
   cases e109
   replace hx109_0 := (HB.out.cell (World.block_lt_of_cell? w _ hx109_0)).trans hx109_0
   replace hx109_1 := (HB.out.cell (World.block_lt_of_cell? w _ hx109_1)).trans hx109_1
   replace hx109_2 := (HB.out.cell (World.block_lt_of_cell? w _ hx109_2)).trans hx109_2
   replace hx109_3 := (HB.out.cell (World.block_lt_of_cell? w _ hx109_3)).trans hx109_3
   have za := aM hi109_1
   have zb := aM hl109_1
   clear hi109_1 hl109_1
   have zc := aM hi109_2
   have zd := aM hl109_2
   clear hi109_2 hl109_2
   have ze := aM hi109_3
   have zf := aM hl109_3
   clear hi109_3 hl109_3
   replace p109 := eq_true p109
   replace q109 := eq_true q109
   go_wp2_with (first | ((with_reducible refine gate_callee (f := 21) rfl ?_); refine goesL_ (some 14) rfl rfl Try.func21 (by kernel_rfl) rfl #[.agg #[.int .i64 ((rd_T45 l0 x6_1).f0.f0), .slice A109_1 ((rd_T45 l0 x6_1).f0.f1).length c109_1, .slice A109_2 ((rd_T45 l0 x6_1).f0.f2).length c109_2]] rfl pA ?_; (with_reducible refine (gradinelaw22_Many.calls ((rd_T45 l0 x6_1).f0.f0) _ _ ((rd_T45 l0 x6_1).f0.f1) _ _ ((rd_T45 l0 x6_1).f0.f2) false _ ?s1 ?s2 ?s3 ?s4 A5.out).mono ?_); (case s1 => exact sC za HB); (case s2 => exact zb.out); (case s3 => exact sC zc HB); (case s4 => exact zd.out); rintro e w14 ⟨rfl, hb⟩; refine ⟨_, rfl, ?_⟩; replace HB := bS (qB HB) hb; (try clear hb); (try clear hk); (try clear hi); have p111 : 0 ≤ (x6_1 : Int) := of_decide_eq_true pD; have q111 : x6_1 < (l0.length : Int) := of_decide_eq_true pD; obtain ⟨ad111, A111_1, c111_1, A111_2, c111_2, A111_3, c111_3, e111, hx111_0, hx111_1, hx111_2, hx111_3, hl111_1, hi111_1, hl111_2, hi111_2, hl111_3, hi111_3⟩ := at_T45 HR0.out x6_1 p111 q111; obtain rfl : ad109 = ad111 := (by injection e111); replace hx111_0 := (HB.out.cell (World.block_lt_of_cell? w _ hx111_0)).trans hx111_0; replace hx111_1 := (HB.out.cell (World.block_lt_of_cell? w _ hx111_1)).trans hx111_1; replace hx111_2 := (HB.out.cell (World.block_lt_of_cell? w _ hx111_2)).trans hx111_2; replace hx111_3 := (HB.out.cell (World.block_lt_of_cell? w _ hx111_3)).trans hx111_3; have zi := aM hi111_1; have zj := aM hl111_1; clear hi111_1 hl111_1; have zk := aM hi111_2; have zl := aM hl111_2; clear hi111_2 hl111_2; have zm := aM hi111_3; have zn := aM hl111_3; clear hi111_3 hl111_3; replace p111 := eq_true p111; replace q111 := eq_true q111; have p112 : 0 ≤ (x6_1 : Int) := of_decide_eq_true pD; have q112 : x6_1 < (l0.length : Int) := of_decide_eq_true pD; obtain ⟨ad112, A112_1, c112_1, A112_2, c112_2, A112_3, c112_3, e112, hx112_0, hx112_1, hx112_2, hx112_3, hl112_1, hi112_1, hl112_2, hi112_2, hl112_3, hi112_3⟩ := at_T45 HR0.out x6_1 p112 q112; obtain rfl : ad109 = ad112 := (by injection e112); replace hx112_0 := (HB.out.cell (World.block_lt_of_cell? w _ hx112_0)).trans hx112_0; replace hx112_1 := (HB.out.cell (World.block_lt_of_cell? w _ hx112_1)).trans hx112_1; replace hx112_2 := (HB.out.cell (World.block_lt_of_cell? w _ hx112_2)).trans hx112_2; replace hx112_3 := (HB.out.cell (World.block_lt_of_cell? w _ hx112_3)).trans hx112_3; have HR112_1 := aM hi112_1; have HC112_1 := aM hl112_1; clear hi112_1 hl112_1; have HR112_2 := aM hi112_2; have HC112_2 := aM hl112_2; clear hi112_2 hl112_2; have zg := aM hi112_3; have zh := aM hl112_3; clear hi112_3 hl112_3; replace p112 := eq_true p112; replace q112 := eq_true q112; have ea_ := Option.some.inj (hx111_1.symm.trans hx112_1); injection ea_ with ea_ en_ ec_; subst ea_; subst ec_; clear en_; have ea_ := Option.some.inj (hx111_2.symm.trans hx112_2); injection ea_ with ea_ en_ ec_; subst ea_; subst ec_; clear en_; have ea_ := Option.some.inj (hx111_3.symm.trans hx112_3); injection ea_ with ea_ en_ ec_; subst ea_; subst ec_; clear en_) | (go_at_call 24; (with_reducible refine (gradineplain_Wide.calls k1 _ _ ((rd_T45 l0 x6_1).f1) 9 false _ ?s1 ?s2 A10.out).mono ?_); (case s1 => exact sC zg HB); (case s2 => exact zh.out); rintro e w15 ⟨rfl, hb⟩; replace HB := bS (qB HB) hb; (try clear hb); (try clear hk); (try clear hi)))
   go_roundg k1
   case measure => have := HK1.out; omega
   case rel => exact ⟨(wrap64 (x6_1 + 1)), (pF), H', ⟨by have := HK1.out; omega⟩, ⟨qB HB⟩⟩
def gradinelaw25_vals.f (a0 : Int) (a1 : Int) (a2 : Int) (a3 : Int) : Option ((List (S80))) := some (([(⟨(⟨false, ([] : List Int), ([] : List Int)⟩ : S78), a0, 0⟩ : S80), (⟨(⟨false, ([] : List Int), ([] : List Int)⟩ : S78), a1, 0⟩ : S80), (⟨(⟨false, ([] : List Int), ([] : List Int)⟩ : S78), a2, 0⟩ : S80), (⟨(⟨false, ([] : List Int), ([] : List Int)⟩ : S78), a3, 0⟩ : S80)] : List (S80)))
set_option maxHeartbeats 8000000 in
set_option maxRecDepth 100000 in
theorem gradinelaw25_vals.calls (a0 : Int) (a1 : Int) (a2 : Int) (a3 : Int) (r : List (S80)) (w : World) (h : gradinelaw25_vals.f a0 a1 a2 a3 = some r) :
  Calls Try.prog 25 #[.int .u64 a0, .int .u64 a1, .int .u64 a2, .int .u64 a3] w fun e w' => ∃ v0_ : Value, e = .returned (v0_) ∧ Kd.S k80 80 w' w.heap.size (fun _ => True) v0_ r ∧ Below w.heap.size w w' := by
 have hu80 := Try.underlying80
 have HB := aM (Below.refl w.heap.size w)
 have H : (some (([(⟨(⟨false, ([] : List Int), ([] : List Int)⟩ : S78), a0, 0⟩ : S80), (⟨(⟨false, ([] : List Int), ([] : List Int)⟩ : S78), a1, 0⟩ : S80), (⟨(⟨false, ([] : List Int), ([] : List Int)⟩ : S78), a2, 0⟩ : S80), (⟨(⟨false, ([] : List Int), ([] : List Int)⟩ : S78), a3, 0⟩ : S80)] : List (S80)))) = some r := h
 clear h
 obtain ⟨y198, za⟩ : ∃ y_ : List (S80), y_ = (([(⟨(⟨false, ([] : List Int), ([] : List Int)⟩ : S78), a0, 0⟩ : S80), (⟨(⟨false, ([] : List Int), ([] : List Int)⟩ : S78), a1, 0⟩ : S80), (⟨(⟨false, ([] : List Int), ([] : List Int)⟩ : S78), a2, 0⟩ : S80), (⟨(⟨false, ([] : List Int), ([] : List Int)⟩ : S78), a3, 0⟩ : S80)] : List (S80))) := ⟨_, rfl⟩
 replace H : (some y198) = some r := pH za H
 have zb := aM za
 clear za
 obtain rfl := Option.some.inj H
 go_enter Try.func25, Try.ntmps25
 go_wp2_with (first | ((with_reducible refine gate_dst (N := 17) rfl ?_); refine Kd.S_lit k80 _ 80 ?hg (N := 17) ?hd (xs := ([(⟨(⟨false, ([] : List Int), ([] : List Int)⟩ : S78), a0, 0⟩ : S80), (⟨(⟨false, ([] : List Int), ([] : List Int)⟩ : S78), a1, 0⟩ : S80), (⟨(⟨false, ([] : List Int), ([] : List Int)⟩ : S78), a2, 0⟩ : S80), (⟨(⟨false, ([] : List Int), ([] : List Int)⟩ : S78), a3, 0⟩ : S80)] : List (S80))) (inner := [.bool false, .slice none 0 0, .slice none 0 0, .int .u64 a0, .int .i64 0, .bool false, .slice none 0 0, .slice none 0 0, .int .u64 a1, .int .i64 0, .bool false, .slice none 0 0, .slice none 0 0, .int .u64 a2, .int .i64 0, .bool false, .slice none 0 0, .slice none 0 0, .int .u64 a3, .int .i64 0]) (ok := fun _ => True) (okp := fun _ => True) ?hr ?hp (fun _ hk => hk) trivial (Below.refl _ _) (Nat.le_refl _) (by simp) ?_; (case hd => rfl); (case hg => rfl); (case hr => first | (go_simp; done) | (go_simp; rfl)); (case hp => exact (Reps.c5 (show Kd.M k80 _ _ _ (⟨(⟨false, ([] : List Int), ([] : List Int)⟩ : S78), a0, 0⟩ : S80) [.bool false, .slice none 0 0, .slice none 0 0, .int .u64 a0, .int .i64 0] from (k80_mkM _ _ _ (⟨(⟨false, ([] : List Int), ([] : List Int)⟩ : S78), a0, 0⟩ : S80) (Kd.R_nil _ _ _ _ _) (Kd.R_nil _ _ _ _ _))) (Reps.c5 (show Kd.M k80 _ _ _ (⟨(⟨false, ([] : List Int), ([] : List Int)⟩ : S78), a1, 0⟩ : S80) [.bool false, .slice none 0 0, .slice none 0 0, .int .u64 a1, .int .i64 0] from (k80_mkM _ _ _ (⟨(⟨false, ([] : List Int), ([] : List Int)⟩ : S78), a1, 0⟩ : S80) (Kd.R_nil _ _ _ _ _) (Kd.R_nil _ _ _ _ _))) (Reps.c5 (show Kd.M k80 _ _ _ (⟨(⟨false, ([] : List Int), ([] : List Int)⟩ : S78), a2, 0⟩ : S80) [.bool false, .slice none 0 0, .slice none 0 0, .int .u64 a2, .int .i64 0] from (k80_mkM _ _ _ (⟨(⟨false, ([] : List Int), ([] : List Int)⟩ : S78), a2, 0⟩ : S80) (Kd.R_nil _ _ _ _ _) (Kd.R_nil _ _ _ _ _))) (Reps.c5 (show Kd.M k80 _ _ _ (⟨(⟨false, ([] : List Int), ([] : List Int)⟩ : S78), a3, 0⟩ : S80) [.bool false, .slice none 0 0, .slice none 0 0, .int .u64 a3, .int .i64 0] from (k80_mkM _ _ _ (⟨(⟨false, ([] : List Int), ([] : List Int)⟩ : S78), a3, 0⟩ : S80) (Kd.R_nil _ _ _ _ _) (Kd.R_nil _ _ _ _ _))) (Reps.none _ _)))))); intro v199 w5 ho6 hb hg_ hnew_; clear hg_ hnew_; (first | rw [← zb.out] at ho6 | (simp only [Int.reduceToNat] at ho6; rw [← zb.out] at ho6)); have HO200 := aM (Kd.S_lower ho6 (below_size (qB HB))); replace HB := bS (qB HB) hb; clear hb ho6))
 go_ret
 exact ⟨_, pE, by (with_reducible repeat (first | apply Kd.S_alloc | apply Kd.S_drewN | apply Kd.S_drew)); exact HO200.out, qB HB⟩
def gradineplain_Args.l0 : Nat → List (S25) → Int → Int → Option (Bool)
 | 0, _, _, _ => none
 | k + 1, x0, x5, x6 => if x6 < x5 then (if 0 ≤ x6 then (if x6 < (x0.length : Int) then (if (((rd_T25 x0 x6).f0).length : Int) > 20 then (some true) else (if (((rd_T25 x0 x6).f1).length : Int) > 100 then (some true) else ((gradineplain_Wide.f k ((rd_T25 x0 x6).f1) 9).bind fun zk => (if zk = true then (some true) else (gradineplain_Args.l0 k x0 x5 (wrap64 (x6 + 1))))))) else (none)) else (none)) else (some (decide ((x0.length : Int) > 6)))
def gradineplain_Args.f (k : Nat) (l0 : List (S25)) : Option (Bool) := gradineplain_Args.l0 k l0 (l0.length : Int) 0
set_option maxHeartbeats 8000000 in
set_option maxRecDepth 100000 in
theorem gradineplain_Args.calls (k : Nat) (A0 : Option Addr) (c0 : Nat) (l0 : List (S25)) (r : Bool) (w : World) (hr0 : Kd.C k25 w A0 l0.length l0) (hc0 : l0.length ≤ c0) (h : gradineplain_Args.f k l0 = some r) :
  Calls Try.prog 5 #[.slice A0 l0.length c0] w fun e w' => e = .returned (.bool r) ∧ Below w.heap.size w w' := by
 have HR0 := aM hr0
 have HC0 := aM hc0
 clear hr0 hc0
 have HB := aM (Below.refl w.heap.size w)
 have H : (gradineplain_Args.l0 k l0 (l0.length : Int) 0) = some r := h
 clear h
 have H' := aM H
 clear H
 go_enter Try.func5, Try.ntmps5
 go_wp2
 go_loopg [6] k (fun kq v6 w' => ∃ (x6_1 : Int), v6 = .int .i64 x6_1 ∧ Aside0 (gradineplain_Args.l0 kq l0 (l0.length : Int) x6_1 = some r) ∧ Aside0 (kq ≤ k) ∧ Aside0 (Below w.heap.size w w'))
 case atStart => exact ⟨(0), (pF), H', ⟨Nat.le_refl _⟩, ⟨qB HB⟩⟩
 case round =>
  clear H'
  obtain ⟨x6_1, rfl, HA, HK1, HB⟩ := hrel
  cases gk with
  | zero => exact absurd HA.out (by simp [gradineplain_Args.l0])
  | succ k1 =>
   have H := HA.out
   clear HA
   simp only [gradineplain_Args.l0] at H
   by_cases c2 : x6_1 < (l0.length : Int)
   rotate_left
   ·rw [if_neg c2] at H
    have c2b0 : decide (x6_1 < (l0.length : Int)) = false := decide_eq_false c2
    clear c2
    obtain rfl := Option.some.inj H
    go_wp2
    go_ret
    exact ⟨pE, qB HB⟩
   rw [if_pos c2] at H
   have c2b0 : decide (x6_1 < (l0.length : Int)) = true := decide_eq_true c2
   clear c2
   by_cases c3 : 0 ≤ x6_1
   rotate_left
   ·rw [if_neg c3] at H
    exact absurd H (by simp)
   rw [if_pos c3] at H
   have c3b0 : decide (0 ≤ x6_1) = true := decide_eq_true c3
   clear c3
   by_cases c4 : x6_1 < (l0.length : Int)
   rotate_left
   ·rw [if_neg c4] at H
    exact absurd H (by simp)
   rw [if_pos c4] at H
   have c4b0 : decide (x6_1 < (l0.length : Int)) = true := decide_eq_true c4
   clear c4
   by_cases c5 : (((rd_T25 l0 x6_1).f0).length : Int) > 20
   ·rw [if_pos c5] at H
    have c5b0 : decide (20 < (((rd_T25 l0 x6_1).f0).length : Int)) = true := decide_eq_true c5
    have c5b1 : decide (20 < ((rd_T25 l0 x6_1).f0).length) = true := decide_eq_true (by omega)
    clear c5
    obtain rfl := Option.some.inj H
    have p104 : 0 ≤ (x6_1 : Int) := of_decide_eq_true pD
    have q104 : x6_1 < (l0.length : Int) := of_decide_eq_true pD
    obtain ⟨ad104, A104_0, c104_0, A104_1, c104_1, e104, hx104_0, hx104_1, hl104_0, hi104_0, hl104_1, hi104_1⟩ := at_T25 HR0.out x6_1 p104 q104
    cases e104
    replace hx104_0 := (HB.out.cell (World.block_lt_of_cell? w _ hx104_0)).trans hx104_0
    replace hx104_1 := (HB.out.cell (World.block_lt_of_cell? w _ hx104_1)).trans hx104_1
    have za := aM hi104_0
    have zb := aM hl104_0
    clear hi104_0 hl104_0
    have zc := aM hi104_1
    have zd := aM hl104_1
    clear hi104_1 hl104_1
    replace p104 := eq_true p104
    replace q104 := eq_true q104
    go_wp2
    go_ret
    exact ⟨pE, qB HB⟩
   rw [if_neg c5] at H
   have c5b0 : decide (20 < (((rd_T25 l0 x6_1).f0).length : Int)) = false := decide_eq_false c5
   have c5b1 : decide (20 < ((rd_T25 l0 x6_1).f0).length) = false := decide_eq_false (by omega)
   clear c5
   by_cases c6 : (((rd_T25 l0 x6_1).f1).length : Int) > 100
   ·rw [if_pos c6] at H
    have c6b0 : decide (100 < (((rd_T25 l0 x6_1).f1).length : Int)) = true := decide_eq_true c6
    have c6b1 : decide (100 < ((rd_T25 l0 x6_1).f1).length) = true := decide_eq_true (by omega)
    clear c6
    obtain rfl := Option.some.inj H
    have p104 : 0 ≤ (x6_1 : Int) := of_decide_eq_true pD
    have q104 : x6_1 < (l0.length : Int) := of_decide_eq_true pD
    obtain ⟨ad104, A104_0, c104_0, A104_1, c104_1, e104, hx104_0, hx104_1, hl104_0, hi104_0, hl104_1, hi104_1⟩ := at_T25 HR0.out x6_1 p104 q104
    cases e104
    replace hx104_0 := (HB.out.cell (World.block_lt_of_cell? w _ hx104_0)).trans hx104_0
    replace hx104_1 := (HB.out.cell (World.block_lt_of_cell? w _ hx104_1)).trans hx104_1
    have za := aM hi104_0
    have zb := aM hl104_0
    clear hi104_0 hl104_0
    have zc := aM hi104_1
    have zd := aM hl104_1
    clear hi104_1 hl104_1
    replace p104 := eq_true p104
    replace q104 := eq_true q104
    have p105 : 0 ≤ (x6_1 : Int) := of_decide_eq_true pD
    have q105 : x6_1 < (l0.length : Int) := of_decide_eq_true pD
    obtain ⟨ad105, A105_0, c105_0, A105_1, c105_1, e105, hx105_0, hx105_1, hl105_0, hi105_0, hl105_1, hi105_1⟩ := at_T25 HR0.out x6_1 p105 q105
    obtain rfl : ad104 = ad105 := (by injection e105)
    replace hx105_0 := (HB.out.cell (World.block_lt_of_cell? w _ hx105_0)).trans hx105_0
    replace hx105_1 := (HB.out.cell (World.block_lt_of_cell? w _ hx105_1)).trans hx105_1
    have zg := aM hi105_0
    have zh := aM hl105_0
    clear hi105_0 hl105_0
    have zi := aM hi105_1
    have zj := aM hl105_1
    clear hi105_1 hl105_1
    replace p105 := eq_true p105
    replace q105 := eq_true q105
    have ea_ := Option.some.inj (hx104_0.symm.trans hx105_0)
    injection ea_ with ea_ en_ ec_
    subst ea_
    subst ec_
    clear en_
    have ea_ := Option.some.inj (hx104_1.symm.trans hx105_1)
    injection ea_ with ea_ en_ ec_
    subst ea_
    subst ec_
    clear en_
    go_wp2
    go_ret
    exact ⟨pE, qB HB⟩
   rw [if_neg c6] at H
   have c6b0 : decide (100 < (((rd_T25 l0 x6_1).f1).length : Int)) = false := decide_eq_false c6
   have c6b1 : decide (100 < ((rd_T25 l0 x6_1).f1).length) = false := decide_eq_false (by omega)
   clear c6
   replace H := Option.bind_eq_some_iff.mp H
   obtain ⟨zk, A70, H⟩ := H
   try dsimp only at H
   have A7 := aM A70
   clear A70
   by_cases c8 : zk = true
   ·subst c8
    rw [if_pos rfl] at H
    obtain rfl := Option.some.inj H
    have p104 : 0 ≤ (x6_1 : Int) := of_decide_eq_true pD
    have q104 : x6_1 < (l0.length : Int) := of_decide_eq_true pD
    obtain ⟨ad104, A104_0, c104_0, A104_1, c104_1, e104, hx104_0, hx104_1, hl104_0, hi104_0, hl104_1, hi104_1⟩ := at_T25 HR0.out x6_1 p104 q104
    cases e104
    replace hx104_0 := (HB.out.cell (World.block_lt_of_cell? w _ hx104_0)).trans hx104_0
    replace hx104_1 := (HB.out.cell (World.block_lt_of_cell? w _ hx104_1)).trans hx104_1
    have za := aM hi104_0
    have zb := aM hl104_0
    clear hi104_0 hl104_0
    have zc := aM hi104_1
    have zd := aM hl104_1
    clear hi104_1 hl104_1
    replace p104 := eq_true p104
    replace q104 := eq_true q104
    have p105 : 0 ≤ (x6_1 : Int) := of_decide_eq_true pD
    have q105 : x6_1 < (l0.length : Int) := of_decide_eq_true pD
    obtain ⟨ad105, A105_0, c105_0, A105_1, c105_1, e105, hx105_0, hx105_1, hl105_0, hi105_0, hl105_1, hi105_1⟩ := at_T25 HR0.out x6_1 p105 q105
    obtain rfl : ad104 = ad105 := (by injection e105)
    replace hx105_0 := (HB.out.cell (World.block_lt_of_cell? w _ hx105_0)).trans hx105_0
    replace hx105_1 := (HB.out.cell (World.block_lt_of_cell? w _ hx105_1)).trans hx105_1
    have zg := aM hi105_0
    have zh := aM hl105_0
    clear hi105_0 hl105_0
    have zi := aM hi105_1
    have zj := aM hl105_1
    clear hi105_1 hl105_1
    replace p105 := eq_true p105
    replace q105 := eq_true q105
    have ea_ := Option.some.inj (hx104_0.symm.trans hx105_0)
    injection ea_ with ea_ en_ ec_
    subst ea_
    subst ec_
    clear en_
    have ea_ := Option.some.inj (hx104_1.symm.trans hx105_1)
    injection ea_ with ea_ en_ ec_
    subst ea_
    subst ec_
    clear en_
    have p106 : 0 ≤ (x6_1 : Int) := of_decide_eq_true pD
    have q106 : x6_1 < (l0.length : Int) := of_decide_eq_true pD
    obtain ⟨ad106, A106_0, c106_0, A106_1, c106_1, e106, hx106_0, hx106_1, hl106_0, hi106_0, hl106_1, hi106_1⟩ := at_T25 HR0.out x6_1 p106 q106
    obtain rfl : ad104 = ad106 := (by injection e106)
    replace hx106_0 := (HB.out.cell (World.block_lt_of_cell? w _ hx106_0)).trans hx106_0
    replace hx106_1 := (HB.out.cell (World.block_lt_of_cell? w _ hx106_1)).trans hx106_1
    have HR106_0 := aM hi106_0
    have HC106_0 := aM hl106_0
    clear hi106_0 hl106_0
    have ze := aM hi106_1
    have zf := aM hl106_1
    clear hi106_1 hl106_1
    replace p106 := eq_true p106
    replace q106 := eq_true q106
    have ea_ := Option.some.inj (hx104_0.symm.trans hx106_0)
    injection ea_ with ea_ en_ ec_
    subst ea_
    subst ec_
    clear en_
    have ea_ := Option.some.inj (hx104_1.symm.trans hx106_1)
    injection ea_ with ea_ en_ ec_
    subst ea_
    subst ec_
    clear en_
    go_wp2_with (first | (go_at_call 24; (with_reducible refine (gradineplain_Wide.calls k1 _ _ ((rd_T25 l0 x6_1).f1) 9 true _ ?s1 ?s2 A7.out).mono ?_); (case s1 => exact sC ze HB); (case s2 => exact zf.out); rintro e w9 ⟨rfl, hb⟩; replace HB := bS (qB HB) hb; (try clear hb); (try clear hk); (try clear hi)))
    go_ret
    exact ⟨pE, qB HB⟩
   replace c8 := Bool.eq_false_iff.mpr c8
   subst c8
   rw [if_neg (show ¬ (false = true) by decide)] at H
   have H' := aM H
   clear H
   have p104 : 0 ≤ (x6_1 : Int) := of_decide_eq_true pD
   have q104 : x6_1 < (l0.length : Int) := of_decide_eq_true pD
   obtain ⟨ad104, A104_0, c104_0, A104_1, c104_1, e104, hx104_0, hx104_1, hl104_0, hi104_0, hl104_1, hi104_1⟩ := at_T25 HR0.out x6_1 p104 q104
   cases e104
   replace hx104_0 := (HB.out.cell (World.block_lt_of_cell? w _ hx104_0)).trans hx104_0
   replace hx104_1 := (HB.out.cell (World.block_lt_of_cell? w _ hx104_1)).trans hx104_1
   have za := aM hi104_0
   have zb := aM hl104_0
   clear hi104_0 hl104_0
   have zc := aM hi104_1
   have zd := aM hl104_1
   clear hi104_1 hl104_1
   replace p104 := eq_true p104
   replace q104 := eq_true q104
   have p105 : 0 ≤ (x6_1 : Int) := of_decide_eq_true pD
   have q105 : x6_1 < (l0.length : Int) := of_decide_eq_true pD
   obtain ⟨ad105, A105_0, c105_0, A105_1, c105_1, e105, hx105_0, hx105_1, hl105_0, hi105_0, hl105_1, hi105_1⟩ := at_T25 HR0.out x6_1 p105 q105
   obtain rfl : ad104 = ad105 := (by injection e105)
   replace hx105_0 := (HB.out.cell (World.block_lt_of_cell? w _ hx105_0)).trans hx105_0
   replace hx105_1 := (HB.out.cell (World.block_lt_of_cell? w _ hx105_1)).trans hx105_1
   have zg := aM hi105_0
   have zh := aM hl105_0
   clear hi105_0 hl105_0
   have zi := aM hi105_1
   have zj := aM hl105_1
   clear hi105_1 hl105_1
   replace p105 := eq_true p105
   replace q105 := eq_true q105
   have ea_ := Option.some.inj (hx104_0.symm.trans hx105_0)
   injection ea_ with ea_ en_ ec_
   subst ea_
   subst ec_
   clear en_
   have ea_ := Option.some.inj (hx104_1.symm.trans hx105_1)
   injection ea_ with ea_ en_ ec_
   subst ea_
   subst ec_
   clear en_
   have p106 : 0 ≤ (x6_1 : Int) := of_decide_eq_true pD
   have q106 : x6_1 < (l0.length : Int) := of_decide_eq_true pD
   obtain ⟨ad106, A106_0, c106_0, A106_1, c106_1, e106, hx106_0, hx106_1, hl106_0, hi106_0, hl106_1, hi106_1⟩ := at_T25 HR0.out x6_1 p106 q106
   obtain rfl : ad104 = ad106 := (by injection e106)
   replace hx106_0 := (HB.out.cell (World.block_lt_of_cell? w _ hx106_0)).trans hx106_0
   replace hx106_1 := (HB.out.cell (World.block_lt_of_cell? w _ hx106_1)).trans hx106_1
   have HR106_0 := aM hi106_0
   have HC106_0 := aM hl106_0
   clear hi106_0 hl106_0
   have ze := aM hi106_1
   have zf := aM hl106_1
   clear hi106_1 hl106_1
   replace p106 := eq_true p106
   replace q106 := eq_true q106
   have ea_ := Option.some.inj (hx104_0.symm.trans hx106_0)
   injection ea_ with ea_ en_ ec_
   subst ea_
   subst ec_
   clear en_
   have ea_ := Option.some.inj (hx104_1.symm.trans hx106_1)
   injection ea_ with ea_ en_ ec_
   subst ea_
   subst ec_
   clear en_
   go_wp2_with (first | (go_at_call 24; (with_reducible refine (gradineplain_Wide.calls k1 _ _ ((rd_T25 l0 x6_1).f1) 9 false _ ?s1 ?s2 A7.out).mono ?_); (case s1 => exact sC ze HB); (case s2 => exact zf.out); rintro e w10 ⟨rfl, hb⟩; replace HB := bS (qB HB) hb; (try clear hb); (try clear hk); (try clear hi)))
   go_roundg k1
   case measure => have := HK1.out; omega
   case rel => exact ⟨(wrap64 (x6_1 + 1)), (pF), H', ⟨by have := HK1.out; omega⟩, ⟨qB HB⟩⟩
def gradineplain_Ints.l0 : Nat → List Int → List Int → Int → Int → Option (Bool)
 | 0, _, _, _, _ => none
 | k + 1, x0, x1, x12, x13 => if x13 < x12 then (if 0 ≤ x13 then (if x13 < (x0.length : Int) then (if x13 < (x1.length : Int) then (if (rd x0 x13) = (rd x1 x13) then (gradineplain_Ints.l0 k x0 x1 x12 (wrap64 (x13 + 1))) else (some false)) else (none)) else (none)) else (none)) else (some true)
def gradineplain_Ints.f (k : Nat) (l0 : List Int) (l1 : List Int) : Option (Bool) := if (l0.length : Int) = (l1.length : Int) then (gradineplain_Ints.l0 k l0 l1 (l0.length : Int) 0) else (some false)
set_option maxHeartbeats 8000000 in
set_option maxRecDepth 100000 in
theorem gradineplain_Ints.calls (k : Nat) (A0 : Option Addr) (c0 : Nat) (l0 : List Int) (A1 : Option Addr) (c1 : Nat) (l1 : List Int) (r : Bool) (w : World) (hr0 : Kd.C (Kd.int .i64) w A0 l0.length l0) (hc0 : l0.length ≤ c0) (hr1 : Kd.C (Kd.int .i64) w A1 l1.length l1) (hc1 : l1.length ≤ c1) (h : gradineplain_Ints.f k l0 l1 = some r) :
  Calls Try.prog 20 #[.slice A0 l0.length c0, .slice A1 l1.length c1] w fun e w' => e = .returned (.bool r) ∧ Drawn0 w w' := by
 have HR0 := aM hr0
 have HC0 := aM hc0
 clear hr0 hc0
 have HR1 := aM hr1
 have HC1 := aM hc1
 clear hr1 hc1
 have H : (if (l0.length : Int) = (l1.length : Int) then (gradineplain_Ints.l0 k l0 l1 (l0.length : Int) 0) else (some false)) = some r := h
 clear h
 by_cases c3 : (l0.length : Int) = (l1.length : Int)
 rotate_left
 ·rw [if_neg c3] at H
  have za : ((l0.length : Int) == (l1.length : Int)) = false := beq_eq_false_iff_ne.mpr c3
  have zb : ((l0.length : Int) != (l1.length : Int)) = true := bne_iff_ne.mpr c3
  have zc : (l0.length == l1.length) = false := by first | simpa using c3 | (simp at c3 ⊢; omega)
  obtain rfl := Option.some.inj H
  go_enter Try.func20, Try.ntmps20
  go_wp2
  repeat (go_quiet (fail); try go_wp2)
  go_ret
  exact ⟨pF, by repeat (first | exact Drawn0.refl _ | apply Drawn0.step)⟩
 rw [if_pos c3] at H
 have za : ((l0.length : Int) == (l1.length : Int)) = true := beq_iff_eq.mpr c3
 have zb : ((l0.length : Int) != (l1.length : Int)) = false := bne_eq_false_iff_eq.mpr c3
 have zc : (l0.length == l1.length) = true := by first | simpa using c3 | (simp at c3 ⊢; omega)
 clear c3
 have H' := aM H
 clear H
 go_enter Try.func20, Try.ntmps20
 go_wp2
 repeat (go_quiet (fail); try go_wp2)
 go_loopg [13] k (fun kq v13 w' => ∃ (x13_1 : Int), v13 = .int .i64 x13_1 ∧ Aside0 (gradineplain_Ints.l0 kq l0 l1 (l0.length : Int) x13_1 = some r) ∧ Aside0 (kq ≤ k) ∧ Drawn0 w w')
 case atStart => exact ⟨(0), (pF), H', ⟨Nat.le_refl _⟩, by repeat (first | exact Drawn0.refl _ | apply Drawn0.step)⟩
 case round =>
  clear H'
  try clear c1
  try clear za
  try clear zb
  try clear zc
  obtain ⟨x13_1, rfl, HA, HK1, ⟨m1, rfl⟩⟩ := hrel
  cases gk with
  | zero => exact absurd HA.out (by simp [gradineplain_Ints.l0])
  | succ k1 =>
   have H := HA.out
   clear HA
   simp only [gradineplain_Ints.l0] at H
   by_cases c4 : x13_1 < (l0.length : Int)
   rotate_left
   ·rw [if_neg c4] at H
    have c4b0 : decide (x13_1 < (l0.length : Int)) = false := decide_eq_false c4
    clear c4
    obtain rfl := Option.some.inj H
    go_wp2
    repeat (go_quiet (fail); try go_wp2)
    go_ret
    exact ⟨pF, by repeat (first | exact Drawn0.refl _ | apply Drawn0.step)⟩
   rw [if_pos c4] at H
   have c4b0 : decide (x13_1 < (l0.length : Int)) = true := decide_eq_true c4
   clear c4
   by_cases c5 : 0 ≤ x13_1
   rotate_left
   ·rw [if_neg c5] at H
    exact absurd H (by simp)
   rw [if_pos c5] at H
   have c5b0 : decide (0 ≤ x13_1) = true := decide_eq_true c5
   clear c5
   by_cases c6 : x13_1 < (l0.length : Int)
   rotate_left
   ·rw [if_neg c6] at H
    exact absurd H (by simp)
   rw [if_pos c6] at H
   have c6b0 : decide (x13_1 < (l0.length : Int)) = true := decide_eq_true c6
   clear c6
   by_cases c7 : x13_1 < (l1.length : Int)
   rotate_left
   ·rw [if_neg c7] at H
    exact absurd H (by simp)
   rw [if_pos c7] at H
   have c7b0 : decide (x13_1 < (l1.length : Int)) = true := decide_eq_true c7
   clear c7
   by_cases c8 : (rd l0 x13_1) = (rd l1 x13_1)
   rotate_left
   ·rw [if_neg c8] at H
    have c8b0 : ((rd l0 x13_1) == (rd l1 x13_1)) = false := beq_eq_false_iff_ne.mpr c8
    have c8b1 : ((rd l0 x13_1) != (rd l1 x13_1)) = true := bne_iff_ne.mpr c8
    obtain rfl := Option.some.inj H
    have p275 : 0 ≤ (x13_1 : Int) := of_decide_eq_true pD
    have q275 : x13_1 < (l0.length : Int) := of_decide_eq_true pD
    obtain ⟨ad275, e275, hx275_0⟩ := Kd.at_int HR0.out x13_1 p275 q275
    cases e275
    replace p275 := eq_true p275
    replace q275 := eq_true q275
    have p276 : 0 ≤ (x13_1 : Int) := of_decide_eq_true pD
    have q276 : x13_1 < (l1.length : Int) := of_decide_eq_true pD
    obtain ⟨ad276, e276, hx276_0⟩ := Kd.at_int HR1.out x13_1 p276 q276
    cases e276
    replace p276 := eq_true p276
    replace q276 := eq_true q276
    go_wp2
    repeat (go_quiet (fail); try go_wp2)
    go_ret
    exact ⟨pF, by repeat (first | exact Drawn0.refl _ | apply Drawn0.step)⟩
   rw [if_pos c8] at H
   have c8b0 : ((rd l0 x13_1) == (rd l1 x13_1)) = true := beq_iff_eq.mpr c8
   have c8b1 : ((rd l0 x13_1) != (rd l1 x13_1)) = false := bne_eq_false_iff_eq.mpr c8
   clear c8
   have H' := aM H
   clear H
   have p275 : 0 ≤ (x13_1 : Int) := of_decide_eq_true pD
   have q275 : x13_1 < (l0.length : Int) := of_decide_eq_true pD
   obtain ⟨ad275, e275, hx275_0⟩ := Kd.at_int HR0.out x13_1 p275 q275
   cases e275
   replace p275 := eq_true p275
   replace q275 := eq_true q275
   have p276 : 0 ≤ (x13_1 : Int) := of_decide_eq_true pD
   have q276 : x13_1 < (l1.length : Int) := of_decide_eq_true pD
   obtain ⟨ad276, e276, hx276_0⟩ := Kd.at_int HR1.out x13_1 p276 q276
   cases e276
   replace p276 := eq_true p276
   replace q276 := eq_true q276
   go_wp2
   repeat (go_quiet (fail); try go_wp2)
   go_roundg k1
   case measure => have := HK1.out; omega
   case rel => exact ⟨(wrap64 (x13_1 + 1)), (pF), H', ⟨by have := HK1.out; omega⟩, by repeat (first | exact Drawn0.refl _ | apply Drawn0.step)⟩
def gradineref07_Words.l0 : Nat → List Int → List Int → Int → Int → Option (Bool)
 | 0, _, _, _, _ => none
 | k + 1, x0, x1, x12, x13 => if x13 < x12 then (if 0 ≤ x13 then (if x13 < (x0.length : Int) then (if x13 < (x1.length : Int) then (if (rd x0 x13) = (rd x1 x13) then (gradineref07_Words.l0 k x0 x1 x12 (wrap64 (x13 + 1))) else (some false)) else (none)) else (none)) else (none)) else (some true)
def gradineref07_Words.f (k : Nat) (l0 : List Int) (l1 : List Int) : Option (Bool) := if (l0.length : Int) = (l1.length : Int) then (gradineref07_Words.l0 k l0 l1 (l0.length : Int) 0) else (some false)
set_option maxHeartbeats 8000000 in
set_option maxRecDepth 100000 in
theorem gradineref07_Words.calls (k : Nat) (A0 : Option Addr) (c0 : Nat) (l0 : List Int) (A1 : Option Addr) (c1 : Nat) (l1 : List Int) (r : Bool) (w : World) (hr0 : Kd.C (Kd.int .u64) w A0 l0.length l0) (hc0 : l0.length ≤ c0) (hr1 : Kd.C (Kd.int .u64) w A1 l1.length l1) (hc1 : l1.length ≤ c1) (h : gradineref07_Words.f k l0 l1 = some r) :
  Calls Try.prog 54 #[.slice A0 l0.length c0, .slice A1 l1.length c1] w fun e w' => e = .returned (.bool r) ∧ Drawn0 w w' := by
 have HR0 := aM hr0
 have HC0 := aM hc0
 clear hr0 hc0
 have HR1 := aM hr1
 have HC1 := aM hc1
 clear hr1 hc1
 have H : (if (l0.length : Int) = (l1.length : Int) then (gradineref07_Words.l0 k l0 l1 (l0.length : Int) 0) else (some false)) = some r := h
 clear h
 by_cases c3 : (l0.length : Int) = (l1.length : Int)
 rotate_left
 ·rw [if_neg c3] at H
  have za : ((l0.length : Int) == (l1.length : Int)) = false := beq_eq_false_iff_ne.mpr c3
  have zb : ((l0.length : Int) != (l1.length : Int)) = true := bne_iff_ne.mpr c3
  have zc : (l0.length == l1.length) = false := by first | simpa using c3 | (simp at c3 ⊢; omega)
  obtain rfl := Option.some.inj H
  go_enter Try.func54, Try.ntmps54
  go_wp2
  repeat (go_quiet (fail); try go_wp2)
  go_ret
  exact ⟨pF, by repeat (first | exact Drawn0.refl _ | apply Drawn0.step)⟩
 rw [if_pos c3] at H
 have za : ((l0.length : Int) == (l1.length : Int)) = true := beq_iff_eq.mpr c3
 have zb : ((l0.length : Int) != (l1.length : Int)) = false := bne_eq_false_iff_eq.mpr c3
 have zc : (l0.length == l1.length) = true := by first | simpa using c3 | (simp at c3 ⊢; omega)
 clear c3
 have H' := aM H
 clear H
 go_enter Try.func54, Try.ntmps54
 go_wp2
 repeat (go_quiet (fail); try go_wp2)
 go_loopg [13] k (fun kq v13 w' => ∃ (x13_1 : Int), v13 = .int .i64 x13_1 ∧ Aside0 (gradineref07_Words.l0 kq l0 l1 (l0.length : Int) x13_1 = some r) ∧ Aside0 (kq ≤ k) ∧ Drawn0 w w')
 case atStart => exact ⟨(0), (pF), H', ⟨Nat.le_refl _⟩, by repeat (first | exact Drawn0.refl _ | apply Drawn0.step)⟩
 case round =>
  clear H'
  try clear c1
  try clear za
  try clear zb
  try clear zc
  obtain ⟨x13_1, rfl, HA, HK1, ⟨m1, rfl⟩⟩ := hrel
  cases gk with
  | zero => exact absurd HA.out (by simp [gradineref07_Words.l0])
  | succ k1 =>
   have H := HA.out
   clear HA
   simp only [gradineref07_Words.l0] at H
   by_cases c4 : x13_1 < (l0.length : Int)
   rotate_left
   ·rw [if_neg c4] at H
    have c4b0 : decide (x13_1 < (l0.length : Int)) = false := decide_eq_false c4
    clear c4
    obtain rfl := Option.some.inj H
    go_wp2
    repeat (go_quiet (fail); try go_wp2)
    go_ret
    exact ⟨pF, by repeat (first | exact Drawn0.refl _ | apply Drawn0.step)⟩
   rw [if_pos c4] at H
   have c4b0 : decide (x13_1 < (l0.length : Int)) = true := decide_eq_true c4
   clear c4
   by_cases c5 : 0 ≤ x13_1
   rotate_left
   ·rw [if_neg c5] at H
    exact absurd H (by simp)
   rw [if_pos c5] at H
   have c5b0 : decide (0 ≤ x13_1) = true := decide_eq_true c5
   clear c5
   by_cases c6 : x13_1 < (l0.length : Int)
   rotate_left
   ·rw [if_neg c6] at H
    exact absurd H (by simp)
   rw [if_pos c6] at H
   have c6b0 : decide (x13_1 < (l0.length : Int)) = true := decide_eq_true c6
   clear c6
   by_cases c7 : x13_1 < (l1.length : Int)
   rotate_left
   ·rw [if_neg c7] at H
    exact absurd H (by simp)
   rw [if_pos c7] at H
   have c7b0 : decide (x13_1 < (l1.length : Int)) = true := decide_eq_true c7
   clear c7
   by_cases c8 : (rd l0 x13_1) = (rd l1 x13_1)
   rotate_left
   ·rw [if_neg c8] at H
    have c8b0 : ((rd l0 x13_1) == (rd l1 x13_1)) = false := beq_eq_false_iff_ne.mpr c8
    have c8b1 : ((rd l0 x13_1) != (rd l1 x13_1)) = true := bne_iff_ne.mpr c8
    obtain rfl := Option.some.inj H
    have p201 : 0 ≤ (x13_1 : Int) := of_decide_eq_true pD
    have q201 : x13_1 < (l0.length : Int) := of_decide_eq_true pD
    obtain ⟨ad201, e201, hx201_0⟩ := Kd.at_int HR0.out x13_1 p201 q201
    cases e201
    replace p201 := eq_true p201
    replace q201 := eq_true q201
    have p202 : 0 ≤ (x13_1 : Int) := of_decide_eq_true pD
    have q202 : x13_1 < (l1.length : Int) := of_decide_eq_true pD
    obtain ⟨ad202, e202, hx202_0⟩ := Kd.at_int HR1.out x13_1 p202 q202
    cases e202
    replace p202 := eq_true p202
    replace q202 := eq_true q202
    go_wp2
    repeat (go_quiet (fail); try go_wp2)
    go_ret
    exact ⟨pF, by repeat (first | exact Drawn0.refl _ | apply Drawn0.step)⟩
   rw [if_pos c8] at H
   have c8b0 : ((rd l0 x13_1) == (rd l1 x13_1)) = true := beq_iff_eq.mpr c8
   have c8b1 : ((rd l0 x13_1) != (rd l1 x13_1)) = false := bne_eq_false_iff_eq.mpr c8
   clear c8
   have H' := aM H
   clear H
   have p201 : 0 ≤ (x13_1 : Int) := of_decide_eq_true pD
   have q201 : x13_1 < (l0.length : Int) := of_decide_eq_true pD
   obtain ⟨ad201, e201, hx201_0⟩ := Kd.at_int HR0.out x13_1 p201 q201
   cases e201
   replace p201 := eq_true p201
   replace q201 := eq_true q201
   have p202 : 0 ≤ (x13_1 : Int) := of_decide_eq_true pD
   have q202 : x13_1 < (l1.length : Int) := of_decide_eq_true pD
   obtain ⟨ad202, e202, hx202_0⟩ := Kd.at_int HR1.out x13_1 p202 q202
   cases e202
   replace p202 := eq_true p202
   replace q202 := eq_true q202
   go_wp2
   repeat (go_quiet (fail); try go_wp2)
   go_roundg k1
   case measure => have := HK1.out; omega
   case rel => exact ⟨(wrap64 (x13_1 + 1)), (pF), H', ⟨by have := HK1.out; omega⟩, by repeat (first | exact Drawn0.refl _ | apply Drawn0.step)⟩
def gradineref07_Same.f (k : Nat) (a0_0 : Bool) (l0_1 : List Int) (l0_2 : List Int) (a1_0 : Bool) (l1_1 : List Int) (l1_2 : List Int) : Option (Bool) := if (a0_0 == a1_0) = true then ((gradineref07_Words.f k l0_1 l1_1).bind fun zi => (if zi = true then ((gradineref07_Words.f k l0_2 l1_2).bind fun zj => (some zj)) else (some false))) else (some false)
set_option maxHeartbeats 8000000 in
set_option maxRecDepth 100000 in
theorem gradineref07_Same.calls (k : Nat) (a0_0 : Bool) (A0_1 : Option Addr) (c0_1 : Nat) (l0_1 : List Int) (A0_2 : Option Addr) (c0_2 : Nat) (l0_2 : List Int) (a1_0 : Bool) (A1_1 : Option Addr) (c1_1 : Nat) (l1_1 : List Int) (A1_2 : Option Addr) (c1_2 : Nat) (l1_2 : List Int) (r : Bool) (w : World) (hr0_1 : Kd.C (Kd.int .u64) w A0_1 l0_1.length l0_1) (hc0_1 : l0_1.length ≤ c0_1) (hr0_2 : Kd.C (Kd.int .u64) w A0_2 l0_2.length l0_2) (hc0_2 : l0_2.length ≤ c0_2) (hr1_1 : Kd.C (Kd.int .u64) w A1_1 l1_1.length l1_1) (hc1_1 : l1_1.length ≤ c1_1) (hr1_2 : Kd.C (Kd.int .u64) w A1_2 l1_2.length l1_2) (hc1_2 : l1_2.length ≤ c1_2) (h : gradineref07_Same.f k a0_0 l0_1 l0_2 a1_0 l1_1 l1_2 = some r) :
  Calls Try.prog 50 #[.agg #[.bool a0_0, .slice A0_1 l0_1.length c0_1, .slice A0_2 l0_2.length c0_2], .agg #[.bool a1_0, .slice A1_1 l1_1.length c1_1, .slice A1_2 l1_2.length c1_2]] w fun e w' => e = .returned (.bool r) ∧ Below w.heap.size w w' := by
 have hu78 := Try.underlying78
 have zk := aM hr0_1
 have zl := aM hc0_1
 clear hr0_1 hc0_1
 have HR0_2 := aM hr0_2
 have HC0_2 := aM hc0_2
 clear hr0_2 hc0_2
 have zm := aM hr1_1
 have zn := aM hc1_1
 clear hr1_1 hc1_1
 have HR1_2 := aM hr1_2
 have HC1_2 := aM hc1_2
 clear hr1_2 hc1_2
 have HB := aM (Below.refl w.heap.size w)
 have H : (if (a0_0 == a1_0) = true then ((gradineref07_Words.f k l0_1 l1_1).bind fun zi => (if zi = true then ((gradineref07_Words.f k l0_2 l1_2).bind fun zj => (some zj)) else (some false))) else (some false)) = some r := h
 clear h
 by_cases c3 : (a0_0 == a1_0) = true
 rotate_left
 ·rw [if_neg c3] at H
  have c3b0 : (a0_0 == a1_0) = false := by simpa using c3
  (try (have c3b1 : decide (a0_0 = a1_0) = false := by simpa using c3))
  (try (have c3b2 : (a0_0 == a1_0) = false := by simpa using c3))
  (try (have c3b3 : ¬ (a0_0 = a1_0) := by simpa using c3))
  clear c3
  obtain rfl := Option.some.inj H
  go_enter Try.func50, Try.ntmps50
  go_wp2_with (first | ((with_reducible refine gate_dst (N := 2) rfl ?_); refine box_event ?hg (N := 2) ?hd (cs := #[.bool a0_0, .slice A0_1 l0_1.length c0_1, .slice A0_2 l0_2.length c0_2]) (t := 78) ?hr ?_; (case hd => rfl); (case hg => rfl); (case hr => first | (go_simp; done) | (go_simp; rfl)); intro zo hg w17 hbox hb; have za := aM (hbox); have zf := gE (w := w) hg (qB HB); have zb := zf; replace HB := bS (qB HB) hb; clear hb hbox hg) | ((with_reducible refine gate_dst (N := 3) rfl ?_); refine box_event ?hg (N := 3) ?hd (cs := #[.bool a1_0, .slice A1_1 l1_1.length c1_1, .slice A1_2 l1_2.length c1_2]) (t := 78) ?hr ?_; (case hd => rfl); (case hg => rfl); (case hr => first | (go_simp; done) | (go_simp; rfl)); intro zp hg w18 hbox hb; have zg := aM (hbox); have zh := gE (w := w) hg (qB1 HB zb); have ze := zh; replace HB := bS (qB1 HB zb) hb; have zc := nL hg za; have zd := nG hg za; replace za := bK za hb; clear hb hbox hg; have hnb19 := zc.out; have hnc19 := zd.out; obtain ⟨hcz20_0, hcz20_1, hcz20_2, hfz20_0, hfz20_1, hfz20_2⟩ := blk3 za.out; obtain ⟨hcz21_0, hcz21_1, hcz21_2, hfz21_0, hfz21_1, hfz21_2⟩ := blk3 zg.out))
  go_ret
  exact ⟨pE, qB2 HB zb ze⟩
 rw [if_pos c3] at H
 have c3b0 : (a0_0 == a1_0) = true := c3
 (try (have c3b1 : decide (a0_0 = a1_0) = true := by simpa using c3))
 (try (have c3b2 : (a0_0 == a1_0) = true := by simpa using c3))
 clear c3
 replace H := Option.bind_eq_some_iff.mp H
 obtain ⟨zi, A40, H⟩ := H
 try dsimp only at H
 have A4 := aM A40
 clear A40
 by_cases c5 : zi = true
 rotate_left
 ·replace c5 := Bool.eq_false_iff.mpr c5
  subst c5
  rw [if_neg (show ¬ (false = true) by decide)] at H
  obtain rfl := Option.some.inj H
  go_enter Try.func50, Try.ntmps50
  go_wp2_with (first | ((with_reducible refine gate_dst (N := 2) rfl ?_); refine box_event ?hg (N := 2) ?hd (cs := #[.bool a0_0, .slice A0_1 l0_1.length c0_1, .slice A0_2 l0_2.length c0_2]) (t := 78) ?hr ?_; (case hd => rfl); (case hg => rfl); (case hr => first | (go_simp; done) | (go_simp; rfl)); intro zo hg w12 hbox hb; have za := aM (hbox); have zf := gE (w := w) hg (qB HB); have zb := zf; replace HB := bS (qB HB) hb; clear hb hbox hg) | ((with_reducible refine gate_dst (N := 3) rfl ?_); refine box_event ?hg (N := 3) ?hd (cs := #[.bool a1_0, .slice A1_1 l1_1.length c1_1, .slice A1_2 l1_2.length c1_2]) (t := 78) ?hr ?_; (case hd => rfl); (case hg => rfl); (case hr => first | (go_simp; done) | (go_simp; rfl)); intro zp hg w13 hbox hb; have zg := aM (hbox); have zh := gE (w := w) hg (qB1 HB zb); have ze := zh; replace HB := bS (qB1 HB zb) hb; have zc := nL hg za; have zd := nG hg za; replace za := bK za hb; clear hb hbox hg; have hnb14 := zc.out; have hnc14 := zd.out; obtain ⟨hcz15_0, hcz15_1, hcz15_2, hfz15_0, hfz15_1, hfz15_2⟩ := blk3 za.out; obtain ⟨hcz16_0, hcz16_1, hcz16_2, hfz16_0, hfz16_1, hfz16_2⟩ := blk3 zg.out) | (go_at_call 54; (with_reducible refine (gradineref07_Words.calls k _ _ l0_1 _ _ l1_1 false _ ?s1 ?s2 ?s3 ?s4 A4.out).mono ?_); (case s1 => exact sC zk HB); (case s2 => exact zl.out); (case s3 => exact sC zm HB); (case s4 => exact zn.out); rintro e w' ⟨rfl, ⟨nd, rfl⟩⟩))
  go_ret
  exact ⟨pE, qB2 HB zb ze⟩
 subst c5
 rw [if_pos rfl] at H
 replace H := Option.bind_eq_some_iff.mp H
 obtain ⟨zj, A60, H⟩ := H
 try dsimp only at H
 have A6 := aM A60
 clear A60
 obtain rfl := Option.some.inj H
 go_enter Try.func50, Try.ntmps50
 go_wp2_with (first | ((with_reducible refine gate_dst (N := 2) rfl ?_); refine box_event ?hg (N := 2) ?hd (cs := #[.bool a0_0, .slice A0_1 l0_1.length c0_1, .slice A0_2 l0_2.length c0_2]) (t := 78) ?hr ?_; (case hd => rfl); (case hg => rfl); (case hr => first | (go_simp; done) | (go_simp; rfl)); intro zo hg w7 hbox hb; have za := aM (hbox); have zf := gE (w := w) hg (qB HB); have zb := zf; replace HB := bS (qB HB) hb; clear hb hbox hg) | ((with_reducible refine gate_dst (N := 3) rfl ?_); refine box_event ?hg (N := 3) ?hd (cs := #[.bool a1_0, .slice A1_1 l1_1.length c1_1, .slice A1_2 l1_2.length c1_2]) (t := 78) ?hr ?_; (case hd => rfl); (case hg => rfl); (case hr => first | (go_simp; done) | (go_simp; rfl)); intro zp hg w8 hbox hb; have zg := aM (hbox); have zh := gE (w := w) hg (qB1 HB zb); have ze := zh; replace HB := bS (qB1 HB zb) hb; have zc := nL hg za; have zd := nG hg za; replace za := bK za hb; clear hb hbox hg; have hnb9 := zc.out; have hnc9 := zd.out; obtain ⟨hcz10_0, hcz10_1, hcz10_2, hfz10_0, hfz10_1, hfz10_2⟩ := blk3 za.out; obtain ⟨hcz11_0, hcz11_1, hcz11_2, hfz11_0, hfz11_1, hfz11_2⟩ := blk3 zg.out) | (go_at_call 54; (with_reducible refine (gradineref07_Words.calls k _ _ l0_1 _ _ l1_1 true _ ?s1 ?s2 ?s3 ?s4 A4.out).mono ?_); (case s1 => exact sC zk HB); (case s2 => exact zl.out); (case s3 => exact sC zm HB); (case s4 => exact zn.out); rintro e w' ⟨rfl, ⟨nd, rfl⟩⟩) | (go_at_call 54; (with_reducible refine (gradineref07_Words.calls k _ _ l0_2 _ _ l1_2 zj _ ?s1 ?s2 ?s3 ?s4 A6.out).mono ?_); (case s1 => exact pC (Kd.C_below HR0_2.out (qB2 HB zb ze))); (case s2 => exact HC0_2.out); (case s3 => exact pC (Kd.C_below HR1_2.out (qB2 HB zb ze))); (case s4 => exact HC1_2.out); rintro e w' ⟨rfl, ⟨nd, rfl⟩⟩))
 go_ret
 exact ⟨pE, qB2 HB zb ze⟩
def gradineref18_Same.f (k : Nat) (a0_0 : Bool) (l0_1 : List Int) (l0_2 : List Int) (a0_3 : Int) (a0_4 : Int) (a1_0 : Bool) (l1_1 : List Int) (l1_2 : List Int) (a1_3 : Int) (a1_4 : Int) : Option (Bool) := if a0_3 = a1_3 then (if a0_4 = a1_4 then ((gradineref07_Same.f k a0_0 l0_1 l0_2 a1_0 l1_1 l1_2).bind fun zi => (some zi)) else (some false)) else (some false)
set_option maxHeartbeats 8000000 in
set_option maxRecDepth 100000 in
theorem gradineref18_Same.calls (k : Nat) (a0_0 : Bool) (A0_1 : Option Addr) (c0_1 : Nat) (l0_1 : List Int) (A0_2 : Option Addr) (c0_2 : Nat) (l0_2 : List Int) (a0_3 : Int) (a0_4 : Int) (a1_0 : Bool) (A1_1 : Option Addr) (c1_1 : Nat) (l1_1 : List Int) (A1_2 : Option Addr) (c1_2 : Nat) (l1_2 : List Int) (a1_3 : Int) (a1_4 : Int) (r : Bool) (w : World) (hr0_1 : Kd.C (Kd.int .u64) w A0_1 l0_1.length l0_1) (hc0_1 : l0_1.length ≤ c0_1) (hr0_2 : Kd.C (Kd.int .u64) w A0_2 l0_2.length l0_2) (hc0_2 : l0_2.length ≤ c0_2) (hr1_1 : Kd.C (Kd.int .u64) w A1_1 l1_1.length l1_1) (hc1_1 : l1_1.length ≤ c1_1) (hr1_2 : Kd.C (Kd.int .u64) w A1_2 l1_2.length l1_2) (hc1_2 : l1_2.length ≤ c1_2) (h : gradineref18_Same.f k a0_0 l0_1 l0_2 a0_3 a0_4 a1_0 l1_1 l1_2 a1_3 a1_4 = some r) :
  Calls Try.prog 43 #[.agg #[.bool a0_0, .slice A0_1 l0_1.length c0_1, .slice A0_2 l0_2.length c0_2, .int .u64 a0_3, .int .i64 a0_4], .agg #[.bool a1_0, .slice A1_1 l1_1.length c1_1, .slice A1_2 l1_2.length c1_2, .int .u64 a1_3, .int .i64 a1_4]] w fun e w' => e = .returned (.bool r) ∧ Below w.heap.size w w' := by
 have hu80 := Try.underlying80
 have hu78 := Try.underlying78
 have HR0_1 := aM hr0_1
 have HC0_1 := aM hc0_1
 clear hr0_1 hc0_1
 have HR0_2 := aM hr0_2
 have HC0_2 := aM hc0_2
 clear hr0_2 hc0_2
 have HR1_1 := aM hr1_1
 have HC1_1 := aM hc1_1
 clear hr1_1 hc1_1
 have HR1_2 := aM hr1_2
 have HC1_2 := aM hc1_2
 clear hr1_2 hc1_2
 have HB := aM (Below.refl w.heap.size w)
 have H : (if a0_3 = a1_3 then (if a0_4 = a1_4 then ((gradineref07_Same.f k a0_0 l0_1 l0_2 a1_0 l1_1 l1_2).bind fun zi => (some zi)) else (some false)) else (some false)) = some r := h
 clear h
 by_cases c3 : a0_3 = a1_3
 rotate_left
 ·rw [if_neg c3] at H
  have c3b0 : (a0_3 == a1_3) = false := beq_eq_false_iff_ne.mpr c3
  have c3b1 : (a0_3 != a1_3) = true := bne_iff_ne.mpr c3
  obtain rfl := Option.some.inj H
  go_enter Try.func43, Try.ntmps43
  go_wp2_with (first | ((with_reducible refine gate_dst (N := 2) rfl ?_); refine box_event ?hg (N := 2) ?hd (cs := #[.bool a0_0, .slice A0_1 l0_1.length c0_1, .slice A0_2 l0_2.length c0_2, .int .u64 a0_3, .int .i64 a0_4]) (t := 80) ?hr ?_; (case hd => rfl); (case hg => rfl); (case hr => first | (go_simp; done) | (go_simp; rfl)); intro zj hg w17 hbox hb; have za := aM (hbox); have zg := gE (w := w) hg (qB HB); have zd := zg; replace HB := bS (qB HB) hb; clear hb hbox hg) | ((with_reducible refine gate_dst (N := 3) rfl ?_); refine box_event ?hg (N := 3) ?hd (cs := #[.bool a1_0, .slice A1_1 l1_1.length c1_1, .slice A1_2 l1_2.length c1_2, .int .u64 a1_3, .int .i64 a1_4]) (t := 80) ?hr ?_; (case hd => rfl); (case hg => rfl); (case hr => first | (go_simp; done) | (go_simp; rfl)); intro zk hg w18 hbox hb; have ze := aM (hbox); have zh := gE (w := w) hg (qB1 HB zd); have zf := zh; replace HB := bS (qB1 HB zd) hb; have zb := nL hg za; have zc := nG hg za; replace za := bK za hb; clear hb hbox hg; have hnb19 := zb.out; have hnc19 := zc.out; obtain ⟨hcz20_0, hcz20_1, hcz20_2, hcz20_3, hcz20_4, hfz20_0, hfz20_1, hfz20_2, hfz20_3, hfz20_4⟩ := blk5 za.out; obtain ⟨hcz21_0, hcz21_1, hcz21_2, hcz21_3, hcz21_4, hfz21_0, hfz21_1, hfz21_2, hfz21_3, hfz21_4⟩ := blk5 ze.out))
  go_ret
  exact ⟨pE, qB2 HB zd zf⟩
 rw [if_pos c3] at H
 have c3b0 : (a0_3 == a1_3) = true := beq_iff_eq.mpr c3
 have c3b1 : (a0_3 != a1_3) = false := bne_eq_false_iff_eq.mpr c3
 clear c3
 by_cases c4 : a0_4 = a1_4
 rotate_left
 ·rw [if_neg c4] at H
  have c4b0 : (a0_4 == a1_4) = false := beq_eq_false_iff_ne.mpr c4
  have c4b1 : (a0_4 != a1_4) = true := bne_iff_ne.mpr c4
  obtain rfl := Option.some.inj H
  go_enter Try.func43, Try.ntmps43
  go_wp2_with (first | ((with_reducible refine gate_dst (N := 2) rfl ?_); refine box_event ?hg (N := 2) ?hd (cs := #[.bool a0_0, .slice A0_1 l0_1.length c0_1, .slice A0_2 l0_2.length c0_2, .int .u64 a0_3, .int .i64 a0_4]) (t := 80) ?hr ?_; (case hd => rfl); (case hg => rfl); (case hr => first | (go_simp; done) | (go_simp; rfl)); intro zj hg w12 hbox hb; have za := aM (hbox); have zg := gE (w := w) hg (qB HB); have zd := zg; replace HB := bS (qB HB) hb; clear hb hbox hg) | ((with_reducible refine gate_dst (N := 3) rfl ?_); refine box_event ?hg (N := 3) ?hd (cs := #[.bool a1_0, .slice A1_1 l1_1.length c1_1, .slice A1_2 l1_2.length c1_2, .int .u64 a1_3, .int .i64 a1_4]) (t := 80) ?hr ?_; (case hd => rfl); (case hg => rfl); (case hr => first | (go_simp; done) | (go_simp; rfl)); intro zk hg w13 hbox hb; have ze := aM (hbox); have zh := gE (w := w) hg (qB1 HB zd); have zf := zh; replace HB := bS (qB1 HB zd) hb; have zb := nL hg za; have zc := nG hg za; replace za := bK za hb; clear hb hbox hg; have hnb14 := zb.out; have hnc14 := zc.out; obtain ⟨hcz15_0, hcz15_1, hcz15_2, hcz15_3, hcz15_4, hfz15_0, hfz15_1, hfz15_2, hfz15_3, hfz15_4⟩ := blk5 za.out; obtain ⟨hcz16_0, hcz16_1, hcz16_2, hcz16_3, hcz16_4, hfz16_0, hfz16_1, hfz16_2, hfz16_3, hfz16_4⟩ := blk5 ze.out))
  go_ret
  exact ⟨pE, qB2 HB zd zf⟩
 rw [if_pos c4] at H
 have c4b0 : (a0_4 == a1_4) = true := beq_iff_eq.mpr c4
 have c4b1 : (a0_4 != a1_4) = false := bne_eq_false_iff_eq.mpr c4
 clear c4
 replace H := Option.bind_eq_some_iff.mp H
 obtain ⟨zi, A50, H⟩ := H
 try dsimp only at H
 have A5 := aM A50
 clear A50
 obtain rfl := Option.some.inj H
 go_enter Try.func43, Try.ntmps43
 go_wp2_with (first | ((with_reducible refine gate_dst (N := 2) rfl ?_); refine box_event ?hg (N := 2) ?hd (cs := #[.bool a0_0, .slice A0_1 l0_1.length c0_1, .slice A0_2 l0_2.length c0_2, .int .u64 a0_3, .int .i64 a0_4]) (t := 80) ?hr ?_; (case hd => rfl); (case hg => rfl); (case hr => first | (go_simp; done) | (go_simp; rfl)); intro zj hg w6 hbox hb; have za := aM (hbox); have zg := gE (w := w) hg (qB HB); have zd := zg; replace HB := bS (qB HB) hb; clear hb hbox hg) | ((with_reducible refine gate_dst (N := 3) rfl ?_); refine box_event ?hg (N := 3) ?hd (cs := #[.bool a1_0, .slice A1_1 l1_1.length c1_1, .slice A1_2 l1_2.length c1_2, .int .u64 a1_3, .int .i64 a1_4]) (t := 80) ?hr ?_; (case hd => rfl); (case hg => rfl); (case hr => first | (go_simp; done) | (go_simp; rfl)); intro zk hg w7 hbox hb; have ze := aM (hbox); have zh := gE (w := w) hg (qB1 HB zd); have zf := zh; replace HB := bS (qB1 HB zd) hb; have zb := nL hg za; have zc := nG hg za; replace za := bK za hb; clear hb hbox hg; have hnb8 := zb.out; have hnc8 := zc.out; obtain ⟨hcz9_0, hcz9_1, hcz9_2, hcz9_3, hcz9_4, hfz9_0, hfz9_1, hfz9_2, hfz9_3, hfz9_4⟩ := blk5 za.out; obtain ⟨hcz10_0, hcz10_1, hcz10_2, hcz10_3, hcz10_4, hfz10_0, hfz10_1, hfz10_2, hfz10_3, hfz10_4⟩ := blk5 ze.out) | (go_at_call 50; (with_reducible refine (gradineref07_Same.calls k a0_0 _ _ l0_1 _ _ l0_2 a1_0 _ _ l1_1 _ _ l1_2 zi _ ?s1 ?s2 ?s3 ?s4 ?s5 ?s6 ?s7 ?s8 A5.out).mono ?_); (case s1 => exact sC HR0_1 HB); (case s2 => exact HC0_1.out); (case s3 => exact sC HR0_2 HB); (case s4 => exact HC0_2.out); (case s5 => exact sC HR1_1 HB); (case s6 => exact HC1_1.out); (case s7 => exact sC HR1_2 HB); (case s8 => exact HC1_2.out); rintro e w11 ⟨rfl, hb⟩; replace za := bK za hb; replace ze := bK ze hb; replace HB := bS (qB2 HB zd zf) hb; (try clear hb); (try clear hk); (try clear hi)))
 go_ret
 exact ⟨pE, qB2 HB zd zf⟩
def gradineref18_All.l0 : Nat → List (S80) → List (S80) → Int → Int → Option (Bool)
 | 0, _, _, _, _ => none
 | k + 1, x0, x1, x12, x13 => if x13 < x12 then (if 0 ≤ x13 then (if x13 < (x0.length : Int) then (if x13 < (x1.length : Int) then ((gradineref18_Same.f k ((rd_T80 x0 x13).f0.f0) ((rd_T80 x0 x13).f0.f1) ((rd_T80 x0 x13).f0.f2) ((rd_T80 x0 x13).f1) ((rd_T80 x0 x13).f2) ((rd_T80 x1 x13).f0.f0) ((rd_T80 x1 x13).f0.f1) ((rd_T80 x1 x13).f0.f2) ((rd_T80 x1 x13).f1) ((rd_T80 x1 x13).f2)).bind fun zi => (if zi = true then (gradineref18_All.l0 k x0 x1 x12 (wrap64 (x13 + 1))) else (some false))) else (none)) else (none)) else (none)) else (some true)
def gradineref18_All.f (k : Nat) (l0 : List (S80)) (l1 : List (S80)) : Option (Bool) := if (l0.length : Int) = (l1.length : Int) then (gradineref18_All.l0 k l0 l1 (l0.length : Int) 0) else (some false)
def gradineref18_All.T6 : Bool × List (List Nat × List Nat) := (true, [([], []), ([], []), ([0, 1], [0, 1]), ([2], [2]), ([], []), ([], []), ([4, 5], [4, 5]), ([6], [6]), ([3, 7], [3, 7]), ([8], [8])])
def gradineref18_All.B6 : List Nat := [0, 0, 3, 7, 0, 0, 48, 112, 255, 511]
theorem gradineref18_All.tab6 : rtab .any (opsOf Try.f26 6) = gradineref18_All.T6 := by kernel_rfl
theorem gradineref18_All.bits6 : waitsOk gradineref18_All.T6.2 gradineref18_All.B6 = true := by kernel_rfl
set_option maxHeartbeats 8000000 in
set_option maxRecDepth 100000 in
theorem gradineref18_All.calls (k : Nat) (A0 : Option Addr) (c0 : Nat) (l0 : List (S80)) (A1 : Option Addr) (c1 : Nat) (l1 : List (S80)) (r : Bool) (w : World) (hr0 : Kd.C k80 w A0 l0.length l0) (hc0 : l0.length ≤ c0) (hr1 : Kd.C k80 w A1 l1.length l1) (hc1 : l1.length ≤ c1) (h : gradineref18_All.f k l0 l1 = some r) :
  Calls Try.prog 26 #[.slice A0 l0.length c0, .slice A1 l1.length c1] w fun e w' => e = .returned (.bool r) ∧ Below w.heap.size w w' := by
 have hu80 := Try.underlying80
 have HR0 := aM hr0
 have HC0 := aM hc0
 clear hr0 hc0
 have HR1 := aM hr1
 have HC1 := aM hc1
 clear hr1 hc1
 have HB := aM (Below.refl w.heap.size w)
 have H : (if (l0.length : Int) = (l1.length : Int) then (gradineref18_All.l0 k l0 l1 (l0.length : Int) 0) else (some false)) = some r := h
 clear h
 by_cases c3 : (l0.length : Int) = (l1.length : Int)
 rotate_left
 ·rw [if_neg c3] at H
  have zj : ((l0.length : Int) == (l1.length : Int)) = false := beq_eq_false_iff_ne.mpr c3
  have zk : ((l0.length : Int) != (l1.length : Int)) = true := bne_iff_ne.mpr c3
  have zl : (l0.length == l1.length) = false := by first | simpa using c3 | (simp at c3 ⊢; omega)
  obtain rfl := Option.some.inj H
  go_enter Try.func26, Try.ntmps26
  go_wp2
  go_ret
  exact ⟨pE, qB HB⟩
 rw [if_pos c3] at H
 have zj : ((l0.length : Int) == (l1.length : Int)) = true := beq_iff_eq.mpr c3
 have zk : ((l0.length : Int) != (l1.length : Int)) = false := bne_eq_false_iff_eq.mpr c3
 have zl : (l0.length == l1.length) = true := by first | simpa using c3 | (simp at c3 ⊢; omega)
 clear c3
 have H' := aM H
 clear H
 go_enter Try.func26, Try.ntmps26
 go_wp2
 go_loopg [13] k (fun kq v13 w' => ∃ (x13_1 : Int), v13 = .int .i64 x13_1 ∧ Aside0 (gradineref18_All.l0 kq l0 l1 (l0.length : Int) x13_1 = some r) ∧ Aside0 (kq ≤ k) ∧ Aside0 (Below w.heap.size w w'))
 case atStart => exact ⟨(0), (pF), H', ⟨Nat.le_refl _⟩, ⟨qB HB⟩⟩
 case round =>
  clear H'
  try clear c1
  try clear zj
  try clear zk
  try clear zl
  obtain ⟨x13_1, rfl, HA, HK1, HB⟩ := hrel
  cases gk with
  | zero => exact absurd HA.out (by simp [gradineref18_All.l0])
  | succ k1 =>
   have H := HA.out
   clear HA
   simp only [gradineref18_All.l0] at H
   by_cases c4 : x13_1 < (l0.length : Int)
   rotate_left
   ·rw [if_neg c4] at H
    have c4b0 : decide (x13_1 < (l0.length : Int)) = false := decide_eq_false c4
    clear c4
    obtain rfl := Option.some.inj H
    go_wp2
    go_ret
    exact ⟨pE, qB HB⟩
   rw [if_pos c4] at H
   have c4b0 : decide (x13_1 < (l0.length : Int)) = true := decide_eq_true c4
   clear c4
   by_cases c5 : 0 ≤ x13_1
   rotate_left
   ·rw [if_neg c5] at H
    exact absurd H (by simp)
   rw [if_pos c5] at H
   have c5b0 : decide (0 ≤ x13_1) = true := decide_eq_true c5
   clear c5
   by_cases c6 : x13_1 < (l0.length : Int)
   rotate_left
   ·rw [if_neg c6] at H
    exact absurd H (by simp)
   rw [if_pos c6] at H
   have c6b0 : decide (x13_1 < (l0.length : Int)) = true := decide_eq_true c6
   clear c6
   by_cases c7 : x13_1 < (l1.length : Int)
   rotate_left
   ·rw [if_neg c7] at H
    exact absurd H (by simp)
   rw [if_pos c7] at H
   have c7b0 : decide (x13_1 < (l1.length : Int)) = true := decide_eq_true c7
   clear c7
   replace H := Option.bind_eq_some_iff.mp H
   obtain ⟨zi, A80, H⟩ := H
   try dsimp only at H
   have A8 := aM A80
   clear A80
   by_cases c9 : zi = true
   rotate_left
   ·replace c9 := Bool.eq_false_iff.mpr c9
    subst c9
    rw [if_neg (show ¬ (false = true) by decide)] at H
    obtain rfl := Option.some.inj H
    try go_wp2
    replace HB := aM (below_drew1 HB.out)
    have p210 : 0 ≤ (x13_1 : Int) := of_decide_eq_true pD
    have q210 : x13_1 < (l0.length : Int) := of_decide_eq_true pD
    obtain ⟨ad210, A210_1, c210_1, A210_2, c210_2, e210, hx210_0, hx210_1, hx210_2, hx210_3, hx210_4, hl210_1, hi210_1, hl210_2, hi210_2⟩ := at_T80 HR0.out x13_1 p210 q210
    have hw210_4 := hx210_4
    have hw210_3 := hx210_3
    have hw210_2 := hx210_2
    have hw210_1 := hx210_1
    have hw210_0 := hx210_0
    cases e210
    replace hx210_0 := (HB.out.cell (World.block_lt_of_cell? w _ hx210_0)).trans hx210_0
    replace hx210_1 := (HB.out.cell (World.block_lt_of_cell? w _ hx210_1)).trans hx210_1
    replace hx210_2 := (HB.out.cell (World.block_lt_of_cell? w _ hx210_2)).trans hx210_2
    replace hx210_3 := (HB.out.cell (World.block_lt_of_cell? w _ hx210_3)).trans hx210_3
    replace hx210_4 := (HB.out.cell (World.block_lt_of_cell? w _ hx210_4)).trans hx210_4
    have za := aM hi210_1
    have ze := aM hl210_1
    clear hi210_1 hl210_1
    have zb := aM hi210_2
    have zf := aM hl210_2
    clear hi210_2 hl210_2
    replace p210 := eq_true p210
    replace q210 := eq_true q210
    have p211 : 0 ≤ (x13_1 : Int) := of_decide_eq_true pD
    have q211 : x13_1 < (l1.length : Int) := of_decide_eq_true pD
    obtain ⟨ad211, A211_1, c211_1, A211_2, c211_2, e211, hx211_0, hx211_1, hx211_2, hx211_3, hx211_4, hl211_1, hi211_1, hl211_2, hi211_2⟩ := at_T80 HR1.out x13_1 p211 q211
    have hw211_4 := hx211_4
    have hw211_3 := hx211_3
    have hw211_2 := hx211_2
    have hw211_1 := hx211_1
    have hw211_0 := hx211_0
    cases e211
    replace hx211_0 := (HB.out.cell (World.block_lt_of_cell? w _ hx211_0)).trans hx211_0
    replace hx211_1 := (HB.out.cell (World.block_lt_of_cell? w _ hx211_1)).trans hx211_1
    replace hx211_2 := (HB.out.cell (World.block_lt_of_cell? w _ hx211_2)).trans hx211_2
    replace hx211_3 := (HB.out.cell (World.block_lt_of_cell? w _ hx211_3)).trans hx211_3
    replace hx211_4 := (HB.out.cell (World.block_lt_of_cell? w _ hx211_4)).trans hx211_4
    have zc := aM hi211_1
    have zg := aM hl211_1
    clear hi211_1 hl211_1
    have zd := aM hi211_2
    have zh := aM hl211_2
    clear hi211_2 hl211_2
    replace p211 := eq_true p211
    replace q211 := eq_true q211
    refine start_ (n := 10) (S := fun w' => w'.cell? (ad210.add ((x13_1).toNat * 5)) = some (.bool ((rd_T80 l0 x13_1).f0.f0)) ∧ w'.cell? ⟨(ad210.add ((x13_1).toNat * 5)).block, (ad210.add ((x13_1).toNat * 5)).off + 1, none⟩ = some (.slice A210_1 ((rd_T80 l0 x13_1).f0.f1).length c210_1) ∧ w'.cell? ⟨(ad210.add ((x13_1).toNat * 5)).block, (ad210.add ((x13_1).toNat * 5)).off + 2, none⟩ = some (.slice A210_2 ((rd_T80 l0 x13_1).f0.f2).length c210_2) ∧ w'.cell? ⟨(ad210.add ((x13_1).toNat * 5)).block, (ad210.add ((x13_1).toNat * 5)).off + 3, none⟩ = some (.int .u64 ((rd_T80 l0 x13_1).f1)) ∧ w'.cell? ⟨(ad210.add ((x13_1).toNat * 5)).block, (ad210.add ((x13_1).toNat * 5)).off + 4, none⟩ = some (.int .i64 ((rd_T80 l0 x13_1).f2)) ∧ w'.cell? (ad211.add ((x13_1).toNat * 5)) = some (.bool ((rd_T80 l1 x13_1).f0.f0)) ∧ w'.cell? ⟨(ad211.add ((x13_1).toNat * 5)).block, (ad211.add ((x13_1).toNat * 5)).off + 1, none⟩ = some (.slice A211_1 ((rd_T80 l1 x13_1).f0.f1).length c211_1) ∧ w'.cell? ⟨(ad211.add ((x13_1).toNat * 5)).block, (ad211.add ((x13_1).toNat * 5)).off + 2, none⟩ = some (.slice A211_2 ((rd_T80 l1 x13_1).f0.f2).length c211_2) ∧ w'.cell? ⟨(ad211.add ((x13_1).toNat * 5)).block, (ad211.add ((x13_1).toNat * 5)).off + 3, none⟩ = some (.int .u64 ((rd_T80 l1 x13_1).f1)) ∧ w'.cell? ⟨(ad211.add ((x13_1).toNat * 5)).block, (ad211.add ((x13_1).toNat * 5)).off + 4, none⟩ = some (.int .i64 ((rd_T80 l1 x13_1).f2))) (ds := []) (bm 10 0) (by kernel_rfl) rfl rfl ⟨((HB.out.cell (World.block_lt_of_cell? w _ hw210_0)).trans hw210_0), ((HB.out.cell (World.block_lt_of_cell? w _ hw210_1)).trans hw210_1), ((HB.out.cell (World.block_lt_of_cell? w _ hw210_2)).trans hw210_2), ((HB.out.cell (World.block_lt_of_cell? w _ hw210_3)).trans hw210_3), ((HB.out.cell (World.block_lt_of_cell? w _ hw210_4)).trans hw210_4), ((HB.out.cell (World.block_lt_of_cell? w _ hw211_0)).trans hw211_0), ((HB.out.cell (World.block_lt_of_cell? w _ hw211_1)).trans hw211_1), ((HB.out.cell (World.block_lt_of_cell? w _ hw211_2)).trans hw211_2), ((HB.out.cell (World.block_lt_of_cell? w _ hw211_3)).trans hw211_3), ((HB.out.cell (World.block_lt_of_cell? w _ hw211_4)).trans hw211_4)⟩ (fun hHeld => ?_); refine with_tabW gradineref18_All.tab6 gradineref18_All.bits6 (fun HT_ HW_ => ?_)
    generalize wr.drew = w12 at HB za zb zc zd hx210_0 hx210_1 hx210_2 hx210_3 hx210_4 hx211_0 hx211_1 hx211_2 hx211_3 hx211_4 hHeld ⊢
    refine pP (i := 0) (N := some 16) (bm 10 1) rfl rfl HT_.out ?_
    refine pP (i := 1) (N := some 17) (bm 10 3) rfl rfl HT_.out ?_
    refine pP (i := 2) (N := some 18) (bm 10 7) rfl rfl HT_.out ?_
    refine pP (i := 4) (N := some 20) (bm 10 23) rfl rfl HT_.out ?_
    refine pP (i := 5) (N := some 21) (bm 10 55) rfl rfl HT_.out ?_
    refine pP (i := 6) (N := some 22) (bm 10 119) rfl rfl HT_.out ?_
    refine pT (i := 3) (N := some 19) (bm 10 127) rfl rfl HT_.out HW_.out hHeld (by rintro w' ⟨s0, s1, s2, s3, s4, s5, s6, s7, s8, s9⟩; go_simp; with_reducible rfl) ?_
    refine pT (i := 7) (N := some 23) (bm 10 255) rfl rfl HT_.out HW_.out hHeld (by rintro w' ⟨s0, s1, s2, s3, s4, s5, s6, s7, s8, s9⟩; go_simp; with_reducible rfl) ?_
    refine one_ (i := 8) (N := some 24) (bm 10 511) rfl rfl (one_of HT_.out (by kernel_rfl)) (by decide) (fun K hK => ?_)
    refine goes_ Try.func43 (by kernel_rfl) rfl #[.agg #[.bool ((rd_T80 l0 x13_1).f0.f0), .slice A210_1 ((rd_T80 l0 x13_1).f0.f1).length c210_1, .slice A210_2 ((rd_T80 l0 x13_1).f0.f2).length c210_2, .int .u64 ((rd_T80 l0 x13_1).f1), .int .i64 ((rd_T80 l0 x13_1).f2)], .agg #[.bool ((rd_T80 l1 x13_1).f0.f0), .slice A211_1 ((rd_T80 l1 x13_1).f0.f1).length c211_1, .slice A211_2 ((rd_T80 l1 x13_1).f0.f2).length c211_2, .int .u64 ((rd_T80 l1 x13_1).f1), .int .i64 ((rd_T80 l1 x13_1).f2)]] (by rfl) rfl rfl pA ?_
    with_reducible refine (gradineref18_Same.calls k1 ((rd_T80 l0 x13_1).f0.f0) _ _ ((rd_T80 l0 x13_1).f0.f1) _ _ ((rd_T80 l0 x13_1).f0.f2) ((rd_T80 l0 x13_1).f1) ((rd_T80 l0 x13_1).f2) ((rd_T80 l1 x13_1).f0.f0) _ _ ((rd_T80 l1 x13_1).f0.f1) _ _ ((rd_T80 l1 x13_1).f0.f2) ((rd_T80 l1 x13_1).f1) ((rd_T80 l1 x13_1).f2) false _ ?s1 ?s2 ?s3 ?s4 ?s5 ?s6 ?s7 ?s8 A8.out).mono ?_
    (case s1 => exact sC za HB)
    (case s2 => exact ze.out)
    (case s3 => exact sC zb HB)
    (case s4 => exact zf.out)
    (case s5 => exact sC zc HB)
    (case s6 => exact zg.out)
    (case s7 => exact sC zd HB)
    (case s8 => exact zh.out)
    rintro e w13 ⟨rfl, hb⟩
    refine ⟨_, rfl, ?_⟩
    replace HB := bS (qB HB) hb
    (try clear hb)
    refine hK.out _ _ ⟨((HB.out.cell (World.block_lt_of_cell? w _ hw210_0)).trans hw210_0), ((HB.out.cell (World.block_lt_of_cell? w _ hw210_1)).trans hw210_1), ((HB.out.cell (World.block_lt_of_cell? w _ hw210_2)).trans hw210_2), ((HB.out.cell (World.block_lt_of_cell? w _ hw210_3)).trans hw210_3), ((HB.out.cell (World.block_lt_of_cell? w _ hw210_4)).trans hw210_4), ((HB.out.cell (World.block_lt_of_cell? w _ hw211_0)).trans hw211_0), ((HB.out.cell (World.block_lt_of_cell? w _ hw211_1)).trans hw211_1), ((HB.out.cell (World.block_lt_of_cell? w _ hw211_2)).trans hw211_2), ((HB.out.cell (World.block_lt_of_cell? w _ hw211_3)).trans hw211_3), ((HB.out.cell (World.block_lt_of_cell? w _ hw211_4)).trans hw211_4)⟩ (fun hHeld => ?_)
    clear hK K
    refine norm_ (a' := ?_) ?_ ?_
    rotate_left
    ·show Act.put _ (some 24) _ = _
     simp only [Act.put, sP, i64_w, i32_w]
     rfl
    refine pP (i := 9) (N := some 25) (bm 10 1023) rfl rfl HT_.out ?_
    refine done_ (done_of HT_.out (by kernel_rfl)) ?_
    try go_wp2
    go_ret
    exact ⟨pE, qB HB⟩
   subst c9
   rw [if_pos rfl] at H
   have H' := aM H
   clear H
   try go_wp2
   replace HB := aM (below_drew1 HB.out)
   have p210 : 0 ≤ (x13_1 : Int) := of_decide_eq_true pD
   have q210 : x13_1 < (l0.length : Int) := of_decide_eq_true pD
   obtain ⟨ad210, A210_1, c210_1, A210_2, c210_2, e210, hx210_0, hx210_1, hx210_2, hx210_3, hx210_4, hl210_1, hi210_1, hl210_2, hi210_2⟩ := at_T80 HR0.out x13_1 p210 q210
   have hw210_4 := hx210_4
   have hw210_3 := hx210_3
   have hw210_2 := hx210_2
   have hw210_1 := hx210_1
   have hw210_0 := hx210_0
   cases e210
   replace hx210_0 := (HB.out.cell (World.block_lt_of_cell? w _ hx210_0)).trans hx210_0
   replace hx210_1 := (HB.out.cell (World.block_lt_of_cell? w _ hx210_1)).trans hx210_1
   replace hx210_2 := (HB.out.cell (World.block_lt_of_cell? w _ hx210_2)).trans hx210_2
   replace hx210_3 := (HB.out.cell (World.block_lt_of_cell? w _ hx210_3)).trans hx210_3
   replace hx210_4 := (HB.out.cell (World.block_lt_of_cell? w _ hx210_4)).trans hx210_4
   have za := aM hi210_1
   have ze := aM hl210_1
   clear hi210_1 hl210_1
   have zb := aM hi210_2
   have zf := aM hl210_2
   clear hi210_2 hl210_2
   replace p210 := eq_true p210
   replace q210 := eq_true q210
   have p211 : 0 ≤ (x13_1 : Int) := of_decide_eq_true pD
   have q211 : x13_1 < (l1.length : Int) := of_decide_eq_true pD
   obtain ⟨ad211, A211_1, c211_1, A211_2, c211_2, e211, hx211_0, hx211_1, hx211_2, hx211_3, hx211_4, hl211_1, hi211_1, hl211_2, hi211_2⟩ := at_T80 HR1.out x13_1 p211 q211
   have hw211_4 := hx211_4
   have hw211_3 := hx211_3
   have hw211_2 := hx211_2
   have hw211_1 := hx211_1
   have hw211_0 := hx211_0
   cases e211
   replace hx211_0 := (HB.out.cell (World.block_lt_of_cell? w _ hx211_0)).trans hx211_0
   replace hx211_1 := (HB.out.cell (World.block_lt_of_cell? w _ hx211_1)).trans hx211_1
   replace hx211_2 := (HB.out.cell (World.block_lt_of_cell? w _ hx211_2)).trans hx211_2
   replace hx211_3 := (HB.out.cell (World.block_lt_of_cell? w _ hx211_3)).trans hx211_3
   replace hx211_4 := (HB.out.cell (World.block_lt_of_cell? w _ hx211_4)).trans hx211_4
   have zc := aM hi211_1
   have zg := aM hl211_1
   clear hi211_1 hl211_1
   have zd := aM hi211_2
   have zh := aM hl211_2
   clear hi211_2 hl211_2
   replace p211 := eq_true p211
   replace q211 := eq_true q211
   refine start_ (n := 10) (S := fun w' => w'.cell? (ad210.add ((x13_1).toNat * 5)) = some (.bool ((rd_T80 l0 x13_1).f0.f0)) ∧ w'.cell? ⟨(ad210.add ((x13_1).toNat * 5)).block, (ad210.add ((x13_1).toNat * 5)).off + 1, none⟩ = some (.slice A210_1 ((rd_T80 l0 x13_1).f0.f1).length c210_1) ∧ w'.cell? ⟨(ad210.add ((x13_1).toNat * 5)).block, (ad210.add ((x13_1).toNat * 5)).off + 2, none⟩ = some (.slice A210_2 ((rd_T80 l0 x13_1).f0.f2).length c210_2) ∧ w'.cell? ⟨(ad210.add ((x13_1).toNat * 5)).block, (ad210.add ((x13_1).toNat * 5)).off + 3, none⟩ = some (.int .u64 ((rd_T80 l0 x13_1).f1)) ∧ w'.cell? ⟨(ad210.add ((x13_1).toNat * 5)).block, (ad210.add ((x13_1).toNat * 5)).off + 4, none⟩ = some (.int .i64 ((rd_T80 l0 x13_1).f2)) ∧ w'.cell? (ad211.add ((x13_1).toNat * 5)) = some (.bool ((rd_T80 l1 x13_1).f0.f0)) ∧ w'.cell? ⟨(ad211.add ((x13_1).toNat * 5)).block, (ad211.add ((x13_1).toNat * 5)).off + 1, none⟩ = some (.slice A211_1 ((rd_T80 l1 x13_1).f0.f1).length c211_1) ∧ w'.cell? ⟨(ad211.add ((x13_1).toNat * 5)).block, (ad211.add ((x13_1).toNat * 5)).off + 2, none⟩ = some (.slice A211_2 ((rd_T80 l1 x13_1).f0.f2).length c211_2) ∧ w'.cell? ⟨(ad211.add ((x13_1).toNat * 5)).block, (ad211.add ((x13_1).toNat * 5)).off + 3, none⟩ = some (.int .u64 ((rd_T80 l1 x13_1).f1)) ∧ w'.cell? ⟨(ad211.add ((x13_1).toNat * 5)).block, (ad211.add ((x13_1).toNat * 5)).off + 4, none⟩ = some (.int .i64 ((rd_T80 l1 x13_1).f2))) (ds := []) (bm 10 0) (by kernel_rfl) rfl rfl ⟨((HB.out.cell (World.block_lt_of_cell? w _ hw210_0)).trans hw210_0), ((HB.out.cell (World.block_lt_of_cell? w _ hw210_1)).trans hw210_1), ((HB.out.cell (World.block_lt_of_cell? w _ hw210_2)).trans hw210_2), ((HB.out.cell (World.block_lt_of_cell? w _ hw210_3)).trans hw210_3), ((HB.out.cell (World.block_lt_of_cell? w _ hw210_4)).trans hw210_4), ((HB.out.cell (World.block_lt_of_cell? w _ hw211_0)).trans hw211_0), ((HB.out.cell (World.block_lt_of_cell? w _ hw211_1)).trans hw211_1), ((HB.out.cell (World.block_lt_of_cell? w _ hw211_2)).trans hw211_2), ((HB.out.cell (World.block_lt_of_cell? w _ hw211_3)).trans hw211_3), ((HB.out.cell (World.block_lt_of_cell? w _ hw211_4)).trans hw211_4)⟩ (fun hHeld => ?_); refine with_tabW gradineref18_All.tab6 gradineref18_All.bits6 (fun HT_ HW_ => ?_)
   generalize wr.drew = w10 at HB za zb zc zd hx210_0 hx210_1 hx210_2 hx210_3 hx210_4 hx211_0 hx211_1 hx211_2 hx211_3 hx211_4 hHeld ⊢
   refine pP (i := 0) (N := some 16) (bm 10 1) rfl rfl HT_.out ?_
   refine pP (i := 1) (N := some 17) (bm 10 3) rfl rfl HT_.out ?_
   refine pP (i := 2) (N := some 18) (bm 10 7) rfl rfl HT_.out ?_
   refine pP (i := 4) (N := some 20) (bm 10 23) rfl rfl HT_.out ?_
   refine pP (i := 5) (N := some 21) (bm 10 55) rfl rfl HT_.out ?_
   refine pP (i := 6) (N := some 22) (bm 10 119) rfl rfl HT_.out ?_
   refine pT (i := 3) (N := some 19) (bm 10 127) rfl rfl HT_.out HW_.out hHeld (by rintro w' ⟨s0, s1, s2, s3, s4, s5, s6, s7, s8, s9⟩; go_simp; with_reducible rfl) ?_
   refine pT (i := 7) (N := some 23) (bm 10 255) rfl rfl HT_.out HW_.out hHeld (by rintro w' ⟨s0, s1, s2, s3, s4, s5, s6, s7, s8, s9⟩; go_simp; with_reducible rfl) ?_
   refine one_ (i := 8) (N := some 24) (bm 10 511) rfl rfl (one_of HT_.out (by kernel_rfl)) (by decide) (fun K hK => ?_)
   refine goes_ Try.func43 (by kernel_rfl) rfl #[.agg #[.bool ((rd_T80 l0 x13_1).f0.f0), .slice A210_1 ((rd_T80 l0 x13_1).f0.f1).length c210_1, .slice A210_2 ((rd_T80 l0 x13_1).f0.f2).length c210_2, .int .u64 ((rd_T80 l0 x13_1).f1), .int .i64 ((rd_T80 l0 x13_1).f2)], .agg #[.bool ((rd_T80 l1 x13_1).f0.f0), .slice A211_1 ((rd_T80 l1 x13_1).f0.f1).length c211_1, .slice A211_2 ((rd_T80 l1 x13_1).f0.f2).length c211_2, .int .u64 ((rd_T80 l1 x13_1).f1), .int .i64 ((rd_T80 l1 x13_1).f2)]] (by rfl) rfl rfl pA ?_
   with_reducible refine (gradineref18_Same.calls k1 ((rd_T80 l0 x13_1).f0.f0) _ _ ((rd_T80 l0 x13_1).f0.f1) _ _ ((rd_T80 l0 x13_1).f0.f2) ((rd_T80 l0 x13_1).f1) ((rd_T80 l0 x13_1).f2) ((rd_T80 l1 x13_1).f0.f0) _ _ ((rd_T80 l1 x13_1).f0.f1) _ _ ((rd_T80 l1 x13_1).f0.f2) ((rd_T80 l1 x13_1).f1) ((rd_T80 l1 x13_1).f2) true _ ?s1 ?s2 ?s3 ?s4 ?s5 ?s6 ?s7 ?s8 A8.out).mono ?_
   (case s1 => exact sC za HB)
   (case s2 => exact ze.out)
   (case s3 => exact sC zb HB)
   (case s4 => exact zf.out)
   (case s5 => exact sC zc HB)
   (case s6 => exact zg.out)
   (case s7 => exact sC zd HB)
   (case s8 => exact zh.out)
   rintro e w11 ⟨rfl, hb⟩
   refine ⟨_, rfl, ?_⟩
   replace HB := bS (qB HB) hb
   (try clear hb)
   refine hK.out _ _ ⟨((HB.out.cell (World.block_lt_of_cell? w _ hw210_0)).trans hw210_0), ((HB.out.cell (World.block_lt_of_cell? w _ hw210_1)).trans hw210_1), ((HB.out.cell (World.block_lt_of_cell? w _ hw210_2)).trans hw210_2), ((HB.out.cell (World.block_lt_of_cell? w _ hw210_3)).trans hw210_3), ((HB.out.cell (World.block_lt_of_cell? w _ hw210_4)).trans hw210_4), ((HB.out.cell (World.block_lt_of_cell? w _ hw211_0)).trans hw211_0), ((HB.out.cell (World.block_lt_of_cell? w _ hw211_1)).trans hw211_1), ((HB.out.cell (World.block_lt_of_cell? w _ hw211_2)).trans hw211_2), ((HB.out.cell (World.block_lt_of_cell? w _ hw211_3)).trans hw211_3), ((HB.out.cell (World.block_lt_of_cell? w _ hw211_4)).trans hw211_4)⟩ (fun hHeld => ?_)
   clear hK K
   refine norm_ (a' := ?_) ?_ ?_
   rotate_left
   ·show Act.put _ (some 24) _ = _
    simp only [Act.put, sP, i64_w, i32_w]
    rfl
   refine pP (i := 9) (N := some 25) (bm 10 1023) rfl rfl HT_.out ?_
   refine done_ (done_of HT_.out (by kernel_rfl)) ?_
   try go_wp2
   go_roundg k1
   case measure => have := HK1.out; omega
   case rel => exact ⟨(wrap64 (x13_1 + 1)), (pF), H', ⟨by have := HK1.out; omega⟩, ⟨qB HB⟩⟩
mutual
def gradineref19_Check.l0 : Nat → List Int → Int → Int → Option (Int)
 | 0, _, _, _ => none
 | k + 1, x0, x10, x11 => if x11 < x10 then (if 0 ≤ x11 then (if x11 < (x0.length : Int) then (if (rd x0 x11) < 1 then (some 8) else (gradineref19_Check.l0 k x0 x10 (wrap64 (x11 + 1)))) else (none)) else (none)) else (gradineref19_Check.l1 k x0 1 (x0.length : Int) 0)
def gradineref19_Check.l1 : Nat → List Int → Int → Int → Int → Option (Int)
 | 0, _, _, _, _ => none
 | k + 1, x0, x4, x21, x22 => if x22 < x21 then (if 0 ≤ x22 then (if x22 < (x0.length : Int) then (if (rd x0 x22) > 64 then (some 12) else (if (wrap64 (x4 * (rd x0 x22))) > 64 then (some 12) else (gradineref19_Check.l1 k x0 (wrap64 (x4 * (rd x0 x22))) x21 (wrap64 (x22 + 1))))) else (none)) else (none)) else (some 0)
end
def gradineref19_Check.f (k : Nat) (l0 : List Int) : Option (Int) := if (l0.length : Int) > 6 then (some 9) else (gradineref19_Check.l0 k l0 (l0.length : Int) 0)
set_option maxHeartbeats 8000000 in
set_option maxRecDepth 100000 in
theorem gradineref19_Check.calls (k : Nat) (A0 : Option Addr) (c0 : Nat) (l0 : List Int) (r : Int) (w : World) (hr0 : Kd.C (Kd.int .i64) w A0 l0.length l0) (hc0 : l0.length ≤ c0) (h : gradineref19_Check.f k l0 = some r) :
  Calls Try.prog 9 #[.slice A0 l0.length c0] w fun e w' => e = .returned (.int .i64 r) ∧ Drawn0 w w' := by
 have HR0 := aM hr0
 have HC0 := aM hc0
 clear hr0 hc0
 have H : (if (l0.length : Int) > 6 then (some 9) else (gradineref19_Check.l0 k l0 (l0.length : Int) 0)) = some r := h
 clear h
 by_cases c2 : (l0.length : Int) > 6
 ·rw [if_pos c2] at H
  have za : decide (6 < (l0.length : Int)) = true := decide_eq_true c2
  have zb : decide (6 < l0.length) = true := decide_eq_true (by omega)
  clear c2
  obtain rfl := Option.some.inj H
  go_enter Try.func9, Try.ntmps9
  go_wp2
  go_ret
  exact ⟨pF, by repeat (first | exact Drawn0.refl _ | apply Drawn0.step)⟩
 rw [if_neg c2] at H
 have za : decide (6 < (l0.length : Int)) = false := decide_eq_false c2
 have zb : decide (6 < l0.length) = false := decide_eq_false (by omega)
 clear c2
 have H' := aM H
 clear H
 go_enter Try.func9, Try.ntmps9
 go_wp2
 go_loopg [11] k (fun kq v11 w' => ∃ (x11_1 : Int), v11 = .int .i64 x11_1 ∧ Aside0 (gradineref19_Check.l0 kq l0 (l0.length : Int) x11_1 = some r) ∧ Aside0 (kq ≤ k) ∧ Drawn0 w w')
 case atStart => exact ⟨(0), (pF), H', ⟨Nat.le_refl _⟩, by repeat (first | exact Drawn0.refl _ | apply Drawn0.step)⟩
 case round =>
  clear H'
  try clear za
  try clear zb
  obtain ⟨x11_1, rfl, HA, HK1, ⟨m1, rfl⟩⟩ := hrel
  cases gk with
  | zero => exact absurd HA.out (by simp [gradineref19_Check.l0])
  | succ k1 =>
   have H := HA.out
   clear HA
   simp only [gradineref19_Check.l0] at H
   by_cases c3 : x11_1 < (l0.length : Int)
   ·rw [if_pos c3] at H
    have zc : decide (x11_1 < (l0.length : Int)) = true := decide_eq_true c3
    clear c3
    by_cases c4 : 0 ≤ x11_1
    rotate_left
    ·rw [if_neg c4] at H
     exact absurd H (by simp)
    rw [if_pos c4] at H
    have c4b0 : decide (0 ≤ x11_1) = true := decide_eq_true c4
    clear c4
    by_cases c5 : x11_1 < (l0.length : Int)
    rotate_left
    ·rw [if_neg c5] at H
     exact absurd H (by simp)
    rw [if_pos c5] at H
    have c5b0 : decide (x11_1 < (l0.length : Int)) = true := decide_eq_true c5
    clear c5
    by_cases c6 : (rd l0 x11_1) < 1
    ·rw [if_pos c6] at H
     have c6b0 : decide ((rd l0 x11_1) < 1) = true := decide_eq_true c6
     clear c6
     obtain rfl := Option.some.inj H
     have p219 : 0 ≤ (x11_1 : Int) := of_decide_eq_true pD
     have q219 : x11_1 < (l0.length : Int) := of_decide_eq_true pD
     obtain ⟨ad219, e219, hx219_0⟩ := Kd.at_int HR0.out x11_1 p219 q219
     cases e219
     replace p219 := eq_true p219
     replace q219 := eq_true q219
     go_wp2
     go_ret
     exact ⟨pF, by repeat (first | exact Drawn0.refl _ | apply Drawn0.step)⟩
    rw [if_neg c6] at H
    have c6b0 : decide ((rd l0 x11_1) < 1) = false := decide_eq_false c6
    clear c6
    have H' := aM H
    clear H
    have p219 : 0 ≤ (x11_1 : Int) := of_decide_eq_true pD
    have q219 : x11_1 < (l0.length : Int) := of_decide_eq_true pD
    obtain ⟨ad219, e219, hx219_0⟩ := Kd.at_int HR0.out x11_1 p219 q219
    cases e219
    replace p219 := eq_true p219
    replace q219 := eq_true q219
    go_wp2
    go_roundg k1
    case measure => have := HK1.out; omega
    case rel => exact ⟨(wrap64 (x11_1 + 1)), (pF), H', ⟨by have := HK1.out; omega⟩, by repeat (first | exact Drawn0.refl _ | apply Drawn0.step)⟩
   rw [if_neg c3] at H
   have zc : decide (x11_1 < (l0.length : Int)) = false := decide_eq_false c3
   clear c3
   have H' := aM H
   clear H
   go_wp2
   go_loopg [4, 22] k1 (fun kq v4 v22 w' => ∃ (x4_2 : Int) (x22_2 : Int), v4 = .int .i64 x4_2 ∧ v22 = .int .i64 x22_2 ∧ Aside0 (gradineref19_Check.l1 kq l0 x4_2 (l0.length : Int) x22_2 = some r) ∧ Aside0 (kq ≤ k1) ∧ Drawn0 w w')
   case atStart => exact ⟨(1), (0), (pF), (pF), H', ⟨Nat.le_refl _⟩, by repeat (first | exact Drawn0.refl _ | apply Drawn0.step)⟩
   case round =>
    clear H'
    try clear zc
    obtain ⟨x4_2, x22_2, rfl, rfl, HA, HK2, ⟨m2, rfl⟩⟩ := hrel
    cases gk with
    | zero => exact absurd HA.out (by simp [gradineref19_Check.l1])
    | succ k2 =>
     have H := HA.out
     clear HA
     simp only [gradineref19_Check.l1] at H
     by_cases c7 : x22_2 < (l0.length : Int)
     rotate_left
     ·rw [if_neg c7] at H
      have c7b0 : decide (x22_2 < (l0.length : Int)) = false := decide_eq_false c7
      clear c7
      obtain rfl := Option.some.inj H
      go_wp2
      go_ret
      exact ⟨pF, by repeat (first | exact Drawn0.refl _ | apply Drawn0.step)⟩
     rw [if_pos c7] at H
     have c7b0 : decide (x22_2 < (l0.length : Int)) = true := decide_eq_true c7
     clear c7
     by_cases c8 : 0 ≤ x22_2
     rotate_left
     ·rw [if_neg c8] at H
      exact absurd H (by simp)
     rw [if_pos c8] at H
     have c8b0 : decide (0 ≤ x22_2) = true := decide_eq_true c8
     clear c8
     by_cases c9 : x22_2 < (l0.length : Int)
     rotate_left
     ·rw [if_neg c9] at H
      exact absurd H (by simp)
     rw [if_pos c9] at H
     have c9b0 : decide (x22_2 < (l0.length : Int)) = true := decide_eq_true c9
     clear c9
     by_cases c10 : (rd l0 x22_2) > 64
     ·rw [if_pos c10] at H
      have c10b0 : decide (64 < (rd l0 x22_2)) = true := decide_eq_true c10
      clear c10
      obtain rfl := Option.some.inj H
      have p220 : 0 ≤ (x22_2 : Int) := of_decide_eq_true pD
      have q220 : x22_2 < (l0.length : Int) := of_decide_eq_true pD
      obtain ⟨ad220, e220, hx220_0⟩ := Kd.at_int HR0.out x22_2 p220 q220
      cases e220
      replace p220 := eq_true p220
      replace q220 := eq_true q220
      go_wp2
      go_ret
      exact ⟨pF, by repeat (first | exact Drawn0.refl _ | apply Drawn0.step)⟩
     rw [if_neg c10] at H
     have c10b0 : decide (64 < (rd l0 x22_2)) = false := decide_eq_false c10
     clear c10
     by_cases c11 : (wrap64 (x4_2 * (rd l0 x22_2))) > 64
     ·rw [if_pos c11] at H
      have c11b0 : decide (64 < (wrap64 (x4_2 * (rd l0 x22_2)))) = true := decide_eq_true c11
      clear c11
      obtain rfl := Option.some.inj H
      have p220 : 0 ≤ (x22_2 : Int) := of_decide_eq_true pD
      have q220 : x22_2 < (l0.length : Int) := of_decide_eq_true pD
      obtain ⟨ad220, e220, hx220_0⟩ := Kd.at_int HR0.out x22_2 p220 q220
      cases e220
      replace p220 := eq_true p220
      replace q220 := eq_true q220
      have p221 : 0 ≤ (x22_2 : Int) := of_decide_eq_true pD
      have q221 : x22_2 < (l0.length : Int) := of_decide_eq_true pD
      obtain ⟨ad221, e221, hx221_0⟩ := Kd.at_int HR0.out x22_2 p221 q221
      obtain rfl : ad220 = ad221 := (by injection e221)
      replace p221 := eq_true p221
      replace q221 := eq_true q221
      go_wp2
      go_ret
      exact ⟨pF, by repeat (first | exact Drawn0.refl _ | apply Drawn0.step)⟩
     rw [if_neg c11] at H
     have c11b0 : decide (64 < (wrap64 (x4_2 * (rd l0 x22_2)))) = false := decide_eq_false c11
     clear c11
     have H' := aM H
     clear H
     have p220 : 0 ≤ (x22_2 : Int) := of_decide_eq_true pD
     have q220 : x22_2 < (l0.length : Int) := of_decide_eq_true pD
     obtain ⟨ad220, e220, hx220_0⟩ := Kd.at_int HR0.out x22_2 p220 q220
     cases e220
     replace p220 := eq_true p220
     replace q220 := eq_true q220
     have p221 : 0 ≤ (x22_2 : Int) := of_decide_eq_true pD
     have q221 : x22_2 < (l0.length : Int) := of_decide_eq_true pD
     obtain ⟨ad221, e221, hx221_0⟩ := Kd.at_int HR0.out x22_2 p221 q221
     obtain rfl : ad220 = ad221 := (by injection e221)
     replace p221 := eq_true p221
     replace q221 := eq_true q221
     have p222 : 0 ≤ (x22_2 : Int) := of_decide_eq_true pD
     have q222 : x22_2 < (l0.length : Int) := of_decide_eq_true pD
     obtain ⟨ad222, e222, hx222_0⟩ := Kd.at_int HR0.out x22_2 p222 q222
     obtain rfl : ad220 = ad222 := (by injection e222)
     replace p222 := eq_true p222
     replace q222 := eq_true q222
     go_wp2
     go_roundg k2
     case measure => have := HK1.out; have := HK2.out; omega
     case rel => exact ⟨(wrap64 (x4_2 * (rd l0 x22_2))), (wrap64 (x22_2 + 1)), (pF), (pF), H', ⟨by have := HK1.out; have := HK2.out; omega⟩, by repeat (first | exact Drawn0.refl _ | apply Drawn0.step)⟩
def gradineref19_Count.l0 : Nat → List Int → Int → Int → Int → Option (Int)
 | 0, _, _, _, _ => none
 | k + 1, x0, x3, x9, x10 => if x10 < x9 then (if 0 ≤ x10 then (if x10 < (x0.length : Int) then (gradineref19_Count.l0 k x0 (wrap64 (x3 * (rd x0 x10))) x9 (wrap64 (x10 + 1))) else (none)) else (none)) else (some x3)
def gradineref19_Count.f (k : Nat) (l0 : List Int) : Option (Int) := (gradineref19_Check.f k l0).bind fun za => (if za = 0 then (gradineref19_Count.l0 k l0 1 (l0.length : Int) 0) else (some 0))
set_option maxHeartbeats 8000000 in
set_option maxRecDepth 100000 in
theorem gradineref19_Count.calls (k : Nat) (A0 : Option Addr) (c0 : Nat) (l0 : List Int) (r : Int) (w : World) (hr0 : Kd.C (Kd.int .i64) w A0 l0.length l0) (hc0 : l0.length ≤ c0) (h : gradineref19_Count.f k l0 = some r) :
  Calls Try.prog 10 #[.slice A0 l0.length c0] w fun e w' => e = .returned (.int .i64 r) ∧ Drawn0 w w' := by
 have HR0 := aM hr0
 have HC0 := aM hc0
 clear hr0 hc0
 have H : ((gradineref19_Check.f k l0).bind fun za => (if za = 0 then (gradineref19_Count.l0 k l0 1 (l0.length : Int) 0) else (some 0))) = some r := h
 clear h
 replace H := Option.bind_eq_some_iff.mp H
 obtain ⟨za, A20, H⟩ := H
 try dsimp only at H
 have A2 := aM A20
 clear A20
 by_cases c3 : za = 0
 rotate_left
 ·rw [if_neg c3] at H
  have zb : (za == 0) = false := beq_eq_false_iff_ne.mpr c3
  have zc : (za != 0) = true := bne_iff_ne.mpr c3
  obtain rfl := Option.some.inj H
  go_enter Try.func10, Try.ntmps10
  go_wp2_with (first | ((with_reducible refine gate_callee (f := 9) rfl ?_); refine goesL_ (some 6) rfl rfl Try.func9 (by kernel_rfl) rfl #[.slice A0 l0.length c0] rfl pA ?_; (with_reducible refine (gradineref19_Check.calls k _ _ l0 za _ ?s1 ?s2 A2.out).mono ?_); (case s1 => exact pC HR0.out); (case s2 => exact HC0.out); rintro e w' ⟨rfl, ⟨nd, rfl⟩⟩; refine ⟨_, rfl, ?_⟩))
  go_ret
  exact ⟨pF, by repeat (first | exact Drawn0.refl _ | apply Drawn0.step)⟩
 rw [if_pos c3] at H
 have zb : (za == 0) = true := beq_iff_eq.mpr c3
 have zc : (za != 0) = false := bne_eq_false_iff_eq.mpr c3
 clear c3
 have H' := aM H
 clear H
 go_enter Try.func10, Try.ntmps10
 go_wp2_with (first | ((with_reducible refine gate_callee (f := 9) rfl ?_); refine goesL_ (some 6) rfl rfl Try.func9 (by kernel_rfl) rfl #[.slice A0 l0.length c0] rfl pA ?_; (with_reducible refine (gradineref19_Check.calls k _ _ l0 za _ ?s1 ?s2 A2.out).mono ?_); (case s1 => exact pC HR0.out); (case s2 => exact HC0.out); rintro e w' ⟨rfl, ⟨nd, rfl⟩⟩; refine ⟨_, rfl, ?_⟩))
 go_loopg [3, 10] k (fun kq v3 v10 w' => ∃ (x3_1 : Int) (x10_1 : Int), v3 = .int .i64 x3_1 ∧ v10 = .int .i64 x10_1 ∧ Aside0 (gradineref19_Count.l0 kq l0 x3_1 (l0.length : Int) x10_1 = some r) ∧ Aside0 (kq ≤ k) ∧ Drawn0 w w')
 case atStart => exact ⟨(1), (0), (pF), (pF), H', ⟨Nat.le_refl _⟩, by repeat (first | exact Drawn0.refl _ | apply Drawn0.step)⟩
 case round =>
  clear H'
  try clear zb
  try clear zc
  obtain ⟨x3_1, x10_1, rfl, rfl, HA, HK1, ⟨m1, rfl⟩⟩ := hrel
  cases gk with
  | zero => exact absurd HA.out (by simp [gradineref19_Count.l0])
  | succ k1 =>
   have H := HA.out
   clear HA
   simp only [gradineref19_Count.l0] at H
   by_cases c4 : x10_1 < (l0.length : Int)
   rotate_left
   ·rw [if_neg c4] at H
    have c4b0 : decide (x10_1 < (l0.length : Int)) = false := decide_eq_false c4
    clear c4
    obtain rfl := Option.some.inj H
    go_wp2
    go_ret
    exact ⟨pF, by repeat (first | exact Drawn0.refl _ | apply Drawn0.step)⟩
   rw [if_pos c4] at H
   have c4b0 : decide (x10_1 < (l0.length : Int)) = true := decide_eq_true c4
   clear c4
   by_cases c5 : 0 ≤ x10_1
   rotate_left
   ·rw [if_neg c5] at H
    exact absurd H (by simp)
   rw [if_pos c5] at H
   have c5b0 : decide (0 ≤ x10_1) = true := decide_eq_true c5
   clear c5
   by_cases c6 : x10_1 < (l0.length : Int)
   rotate_left
   ·rw [if_neg c6] at H
    exact absurd H (by simp)
   rw [if_pos c6] at H
   have c6b0 : decide (x10_1 < (l0.length : Int)) = true := decide_eq_true c6
   clear c6
   have H' := aM H
   clear H
   have p224 : 0 ≤ (x10_1 : Int) := of_decide_eq_true pD
   have q224 : x10_1 < (l0.length : Int) := of_decide_eq_true pD
   obtain ⟨ad224, e224, hx224_0⟩ := Kd.at_int HR0.out x10_1 p224 q224
   cases e224
   replace p224 := eq_true p224
   replace q224 := eq_true q224
   go_wp2
   go_roundg k1
   case measure => have := HK1.out; omega
   case rel => exact ⟨(wrap64 (x3_1 * (rd l0 x10_1))), (wrap64 (x10_1 + 1)), (pF), (pF), H', ⟨by have := HK1.out; omega⟩, by repeat (first | exact Drawn0.refl _ | apply Drawn0.step)⟩
def gradineref19_Has.l0 : Nat → List Int → Int → Int → Int → Option (Bool)
 | 0, _, _, _, _ => none
 | k + 1, x0, x1, x7, x8 => if x8 < x7 then (if 0 ≤ x8 then (if x8 < (x0.length : Int) then (if (rd x0 x8) = x1 then (some true) else (gradineref19_Has.l0 k x0 x1 x7 (wrap64 (x8 + 1)))) else (none)) else (none)) else (some false)
def gradineref19_Has.f (k : Nat) (l0 : List Int) (a1 : Int) : Option (Bool) := gradineref19_Has.l0 k l0 a1 (l0.length : Int) 0
set_option maxHeartbeats 8000000 in
set_option maxRecDepth 100000 in
theorem gradineref19_Has.calls (k : Nat) (A0 : Option Addr) (c0 : Nat) (l0 : List Int) (a1 : Int) (r : Bool) (w : World) (hr0 : Kd.C (Kd.int .i64) w A0 l0.length l0) (hc0 : l0.length ≤ c0) (h : gradineref19_Has.f k l0 a1 = some r) :
  Calls Try.prog 36 #[.slice A0 l0.length c0, .int .i64 a1] w fun e w' => e = .returned (.bool r) ∧ Drawn0 w w' := by
 have HR0 := aM hr0
 have HC0 := aM hc0
 clear hr0 hc0
 have H : (gradineref19_Has.l0 k l0 a1 (l0.length : Int) 0) = some r := h
 clear h
 have H' := aM H
 clear H
 go_enter Try.func36, Try.ntmps36
 go_wp2
 go_loopg [8] k (fun kq v8 w' => ∃ (x8_1 : Int), v8 = .int .i64 x8_1 ∧ Aside0 (gradineref19_Has.l0 kq l0 a1 (l0.length : Int) x8_1 = some r) ∧ Aside0 (kq ≤ k) ∧ Drawn0 w w')
 case atStart => exact ⟨(0), (pF), H', ⟨Nat.le_refl _⟩, by repeat (first | exact Drawn0.refl _ | apply Drawn0.step)⟩
 case round =>
  clear H'
  obtain ⟨x8_1, rfl, HA, HK1, ⟨m1, rfl⟩⟩ := hrel
  cases gk with
  | zero => exact absurd HA.out (by simp [gradineref19_Has.l0])
  | succ k1 =>
   have H := HA.out
   clear HA
   simp only [gradineref19_Has.l0] at H
   by_cases c3 : x8_1 < (l0.length : Int)
   rotate_left
   ·rw [if_neg c3] at H
    have c3b0 : decide (x8_1 < (l0.length : Int)) = false := decide_eq_false c3
    clear c3
    obtain rfl := Option.some.inj H
    go_wp2
    go_ret
    exact ⟨pF, by repeat (first | exact Drawn0.refl _ | apply Drawn0.step)⟩
   rw [if_pos c3] at H
   have c3b0 : decide (x8_1 < (l0.length : Int)) = true := decide_eq_true c3
   clear c3
   by_cases c4 : 0 ≤ x8_1
   rotate_left
   ·rw [if_neg c4] at H
    exact absurd H (by simp)
   rw [if_pos c4] at H
   have c4b0 : decide (0 ≤ x8_1) = true := decide_eq_true c4
   clear c4
   by_cases c5 : x8_1 < (l0.length : Int)
   rotate_left
   ·rw [if_neg c5] at H
    exact absurd H (by simp)
   rw [if_pos c5] at H
   have c5b0 : decide (x8_1 < (l0.length : Int)) = true := decide_eq_true c5
   clear c5
   by_cases c6 : (rd l0 x8_1) = a1
   ·rw [if_pos c6] at H
    have c6b0 : ((rd l0 x8_1) == a1) = true := beq_iff_eq.mpr c6
    have c6b1 : ((rd l0 x8_1) != a1) = false := bne_eq_false_iff_eq.mpr c6
    clear c6
    obtain rfl := Option.some.inj H
    have p263 : 0 ≤ (x8_1 : Int) := of_decide_eq_true pD
    have q263 : x8_1 < (l0.length : Int) := of_decide_eq_true pD
    obtain ⟨ad263, e263, hx263_0⟩ := Kd.at_int HR0.out x8_1 p263 q263
    cases e263
    replace p263 := eq_true p263
    replace q263 := eq_true q263
    go_wp2
    go_ret
    exact ⟨pF, by repeat (first | exact Drawn0.refl _ | apply Drawn0.step)⟩
   rw [if_neg c6] at H
   have c6b0 : ((rd l0 x8_1) == a1) = false := beq_eq_false_iff_ne.mpr c6
   have c6b1 : ((rd l0 x8_1) != a1) = true := bne_iff_ne.mpr c6
   have H' := aM H
   clear H
   have p263 : 0 ≤ (x8_1 : Int) := of_decide_eq_true pD
   have q263 : x8_1 < (l0.length : Int) := of_decide_eq_true pD
   obtain ⟨ad263, e263, hx263_0⟩ := Kd.at_int HR0.out x8_1 p263 q263
   cases e263
   replace p263 := eq_true p263
   replace q263 := eq_true q263
   go_wp2
   go_roundg k1
   case measure => have := HK1.out; omega
   case rel => exact ⟨(wrap64 (x8_1 + 1)), (pF), H', ⟨by have := HK1.out; omega⟩, by repeat (first | exact Drawn0.refl _ | apply Drawn0.step)⟩
mutual
def gradineref20_All.l0 : Nat → List Int → List (List Int) → Int → Int → Option ((List (List Int)))
 | 0, _, _, _, _ => none
 | k + 1, x0, x3, x14, x15 => if x15 < x14 then (gradineref20_All.l1 k x0 x3 x15 ([] : List (List Int)) x14 x15 (x3.length : Int) 0) else (some x3)
def gradineref20_All.l1 : Nat → List Int → List (List Int) → Int → List (List Int) → Int → Int → Int → Int → Option ((List (List Int)))
 | 0, _, _, _, _, _, _, _, _ => none
 | k + 1, x0, x3, x4, x5, x14, x15, x19, x20 => if x20 < x19 then (if 0 ≤ x4 then (if x4 < (x0.length : Int) then (gradineref20_All.l2 k x0 x3 x4 x5 x20 x14 x15 x19 x20 (rd x0 x4) 0) else (none)) else (none)) else (gradineref20_All.l0 k x0 x5 x14 (wrap64 (x15 + 1)))
def gradineref20_All.l2 : Nat → List Int → List (List Int) → Int → List (List Int) → Int → Int → Int → Int → Int → Int → Int → Option ((List (List Int)))
 | 0, _, _, _, _, _, _, _, _, _, _, _ => none
 | k + 1, x0, x3, x4, x5, x6, x14, x15, x19, x20, x26, x27 => if x27 < x26 then ((some (([] : List Int) : List Int)).bind fun zf => (if 0 ≤ x6 then (if x6 < (x3.length : Int) then (if zf.length + (rd_L6 x3 x6).length < 17592186044416 then ((some (zf ++ (rd_L6 x3 x6) : List Int)).bind fun zd => (if zd.length < 17592186044416 then (if x5.length < 5864062014805 then (gradineref20_All.l2 k x0 x3 x4 (x5 ++ [(zd ++ [x27])]) x6 x14 x15 x19 x20 x26 (wrap64 (x27 + 1))) else (none)) else (none))) else (none)) else (none)) else (none))) else (gradineref20_All.l1 k x0 x3 x4 x5 x14 x15 x19 (wrap64 (x20 + 1)))
end
def gradineref20_All.f (k : Nat) (l0 : List Int) : Option ((List (List Int))) := (gradineref19_Check.f k l0).bind fun ze => (if ze = 0 then (gradineref20_All.l0 k l0 (([(([] : List Int))] : List (List Int))) (l0.length : Int) 0) else (some ([] : List (List Int))))
set_option maxHeartbeats 8000000 in
set_option maxRecDepth 100000 in
theorem gradineref20_All.calls (k : Nat) (A0 : Option Addr) (c0 : Nat) (l0 : List Int) (r : List (List Int)) (w : World) (hr0 : Kd.C (Kd.int .i64) w A0 l0.length l0) (hc0 : l0.length ≤ c0) (h : gradineref20_All.f k l0 = some r) :
  Calls Try.prog 31 #[.slice A0 l0.length c0] w fun e w' => ∃ v0_ : Value, e = .returned (v0_) ∧ Kd.N (Kd.slice 3 (Kd.int .i64)) 22 w' w.heap.size (fun k_ => (w.heap.size ≤ k_)) v0_ r ∧ Below w.heap.size w w' := by
 have HR0 := aM hr0
 have HC0 := aM hc0
 clear hr0 hc0
 have HB := aM (Below.refl w.heap.size w)
 have H : ((gradineref19_Check.f k l0).bind fun ze => (if ze = 0 then (gradineref20_All.l0 k l0 (([(([] : List Int))] : List (List Int))) (l0.length : Int) 0) else (some ([] : List (List Int))))) = some r := h
 clear h
 replace H := Option.bind_eq_some_iff.mp H
 obtain ⟨ze, A20, H⟩ := H
 try dsimp only at H
 have A2 := aM A20
 clear A20
 by_cases c3 : ze = 0
 rotate_left
 ·rw [if_neg c3] at H
  have z0 : (ze == 0) = false := beq_eq_false_iff_ne.mpr c3
  have z1 : (ze != 0) = true := bne_iff_ne.mpr c3
  obtain rfl := Option.some.inj H
  go_enter Try.func31, Try.ntmps31
  go_wp2_with (first | ((with_reducible refine gate_callee (f := 9) rfl ?_); refine goesL_ (some 9) rfl rfl Try.func9 (by kernel_rfl) rfl #[.slice A0 l0.length c0] rfl pA ?_; (with_reducible refine (gradineref19_Check.calls k _ _ l0 ze _ ?s1 ?s2 A2.out).mono ?_); (case s1 => exact pC HR0.out); (case s2 => exact HC0.out); rintro e w' ⟨rfl, ⟨nd, rfl⟩⟩; refine ⟨_, rfl, ?_⟩))
  go_ret
  exact ⟨_, pE, pN, qB HB⟩
 rw [if_pos c3] at H
 have z0 : (ze == 0) = true := beq_iff_eq.mpr c3
 have z1 : (ze != 0) = false := bne_eq_false_iff_eq.mpr c3
 clear c3
 obtain ⟨zj, zl⟩ : ∃ y_ : List Int, y_ = (([] : List Int)) := ⟨_, rfl⟩
 replace H : (gradineref20_All.l0 k l0 (([zj] : List (List Int))) (l0.length : Int) 0) = some r := pH zl H
 have zs := aM zl
 clear zl
 obtain ⟨z2, zm⟩ : ∃ y_ : List (List Int), y_ = (([zj] : List (List Int))) := ⟨_, rfl⟩
 replace H : (gradineref20_All.l0 k l0 z2 (l0.length : Int) 0) = some r := pH zm H
 have zt := aM zm
 clear zm
 have H' := aM H
 clear H
 go_enter Try.func31, Try.ntmps31
 go_wp2_with (first | ((with_reducible refine gate_callee (f := 9) rfl ?_); refine goesL_ (some 9) rfl rfl Try.func9 (by kernel_rfl) rfl #[.slice A0 l0.length c0] rfl pA ?_; (with_reducible refine (gradineref19_Check.calls k _ _ l0 ze _ ?s1 ?s2 A2.out).mono ?_); (case s1 => exact pC HR0.out); (case s2 => exact HC0.out); rintro e w' ⟨rfl, ⟨nd, rfl⟩⟩; refine ⟨_, rfl, ?_⟩) | ((with_reducible refine gate_dst (N := 11) rfl ?_); refine Kd.R_lit (Kd.int .i64) _ 3 ?hg (N := 11) ?hd (xs := ([] : List Int)) (inner := []) (ok := fun _ => True) (okp := fun _ => True) ?hr ?hp (fun _ hk => hk) trivial (Below.refl _ _) (Nat.le_refl _) (by simp) ?_; (case hd => rfl); (case hg => rfl); (case hr => first | (go_simp; done) | (go_simp; rfl)); (case hp => exact (Reps.none _ _)); intro v227 w4 ho5 hb hg_ hnew_; clear hg_ hnew_; (first | rw [← zs.out] at ho5 | (simp only [Int.reduceToNat] at ho5; rw [← zs.out] at ho5)); have zg := aM (Kd.R_lower (Kd.R_newM (M := fun k_ => (w.heap.size ≤ k_)) ho5 (below_size (qB HB)) (fun k_ h_ => h_)) (below_size (qB HB))); replace HB := bS (qB HB) hb; clear hb ho5; obtain ⟨Ao6, co6, eo6⟩ := Kd.R_slice zg.out; subst eo6) | ((with_reducible refine gate_dst (N := 12) rfl ?_); refine Kd.N_lit (Kd.slice 3 (Kd.int .i64)) _ 22 ?hg (N' := 12) ?hd (xs := ([zj] : List (List Int))) (inner := [.slice Ao6 zj.length co6]) (ok := (fun k_ => (w.heap.size ≤ k_))) (okp := (fun k_ => (w.heap.size ≤ k_))) ?hr ?hp (fun _ hk => hk) ((show ∀ k_, w4.heap.size ≤ k_ → (fun k_ => (w.heap.size ≤ k_)) k_ from fun k_ hk => (Nat.le_trans (below_size (qB HB)) hk)) _ (Nat.le_refl _)) (Below.refl _ _) (Nat.le_refl _) (by simp) ?_; (case hd => rfl); (case hg => rfl); (case hr => first | (go_simp; done) | (go_simp; rfl)); (case hp => exact (Reps.one (show Kd.FK (Kd.slice 3 (Kd.int .i64)) _ _ zj [.slice Ao6 zj.length co6] from (Kd.FK_slice_mk (Kd.R_reads' (Kd.R_mono (ok' := (fun k_ => (w.heap.size ≤ k_))) (zg.out) (fun k_ hk => hk.1))).2.1 (Kd.R_F (Kd.R_mono (ok' := (fun k_ => (w.heap.size ≤ k_))) (zg.out) (fun k_ hk => hk.1))))) (Reps.none _ _))); intro v230 w7 ho8 hb hg_ hnew_; clear hg_ hnew_; (first | rw [← zt.out] at ho8 | (simp only [Int.reduceToNat] at ho8; rw [← zt.out] at ho8)); have HO231 := aM (Kd.N_lower ho8 (below_size (qB HB))); replace HB := bS (qB HB) hb; clear zg; clear hb ho8))
 go_loopg [3, 15] k (fun kq v3 v15 w' => ∃ (x3_1 : List (List Int)) (x15_1 : Int), v15 = .int .i64 x15_1 ∧ Aside0 (gradineref20_All.l0 kq l0 x3_1 (l0.length : Int) x15_1 = some r) ∧ Aside0 (kq ≤ k) ∧ Aside0 (Kd.N (Kd.slice 3 (Kd.int .i64)) 22 w' w.heap.size (fun k_ => (w.heap.size ≤ k_)) v3 x3_1) ∧ Aside0 (Below w.heap.size w w'))
 case atStart => exact ⟨(z2), (0), (pF), H', ⟨Nat.le_refl _⟩, ⟨by (with_reducible repeat (first | apply Kd.N_alloc | apply Kd.N_drewN | apply Kd.N_drew)); exact HO231.out⟩, ⟨qB HB⟩⟩
 case round =>
  clear H'
  try clear z0
  try clear z1
  obtain ⟨x3_1, x15_1, rfl, HA, HK1, za, HB⟩ := hrel
  cases gk with
  | zero => exact absurd HA.out (by simp [gradineref20_All.l0])
  | succ k1 =>
   have H := HA.out
   clear HA
   simp only [gradineref20_All.l0] at H
   by_cases c9 : x15_1 < (l0.length : Int)
   rotate_left
   ·rw [if_neg c9] at H
    have z3 : decide (x15_1 < (l0.length : Int)) = false := decide_eq_false c9
    clear c9
    obtain rfl := Option.some.inj H
    go_wp2
    go_ret
    exact ⟨_, pE, by (with_reducible repeat (first | apply Kd.N_alloc | apply Kd.N_drewN | apply Kd.N_drew)); exact za.out, qB HB⟩
   rw [if_pos c9] at H
   have z3 : decide (x15_1 < (l0.length : Int)) = true := decide_eq_true c9
   clear c9
   have H' := aM H
   clear H
   obtain ⟨zr, zc, eo10⟩ := Kd.N_slice za.out
   subst eo10
   go_wp2
   go_loopg [5, 20] k1 (fun kq v5 v20 w' => ∃ (x5_2 : List (List Int)) (x20_2 : Int), v20 = .int .i64 x20_2 ∧ Aside0 (gradineref20_All.l1 kq l0 x3_1 x15_1 x5_2 (l0.length : Int) x15_1 (x3_1.length : Int) x20_2 = some r) ∧ Aside0 (kq ≤ k1) ∧ Aside0 (Kd.N (Kd.slice 3 (Kd.int .i64)) 22 w' w.heap.size (fun k_ => (w.heap.size ≤ k_) ∧ some k_ ≠ (v5 : Value).ownBlock) (.slice zr x3_1.length zc) x3_1) ∧ Aside0 (Kd.N (Kd.slice 3 (Kd.int .i64)) 22 w' w.heap.size (fun k_ => (w.heap.size ≤ k_) ∧ some k_ ≠ ((.slice zr x3_1.length zc) : Value).ownBlock) v5 x5_2) ∧ Aside0 (Below w.heap.size w w'))
   case atStart => exact ⟨(([] : List (List Int))), (0), (pF), H', ⟨Nat.le_refl _⟩, ⟨by (with_reducible repeat (first | apply Kd.N_alloc | apply Kd.N_drewN | apply Kd.N_drew)); exact Kd.N_mono za.out (fun _ hk => ⟨hk, (by simp [Value.ownBlock])⟩)⟩, ⟨pN⟩, ⟨qB HB⟩⟩
   case round =>
    clear H'
    try clear z3
    obtain ⟨x5_2, x20_2, rfl, HA, HK2, za, zb, HB⟩ := hrel
    cases gk with
    | zero => exact absurd HA.out (by simp [gradineref20_All.l1])
    | succ k2 =>
     have H := HA.out
     clear HA
     simp only [gradineref20_All.l1] at H
     by_cases c11 : x20_2 < (x3_1.length : Int)
     rotate_left
     ·rw [if_neg c11] at H
      have zu : decide (x20_2 < (x3_1.length : Int)) = false := decide_eq_false c11
      clear c11
      have H' := aM H
      clear H
      go_wp2
      go_roundg k2
      case measure => have := HK1.out; have := HK2.out; omega
      case rel => exact ⟨(x5_2), (wrap64 (x15_1 + 1)), (pF), H', ⟨by have := HK1.out; have := HK2.out; omega⟩, ⟨by (with_reducible repeat (first | apply Kd.N_alloc | apply Kd.N_drewN | apply Kd.N_drew)); exact Kd.N_mono zb.out (fun _ hk => hk.1)⟩, ⟨qB HB⟩⟩
     rw [if_pos c11] at H
     have zu : decide (x20_2 < (x3_1.length : Int)) = true := decide_eq_true c11
     clear c11
     by_cases c12 : 0 ≤ x15_1
     rotate_left
     ·rw [if_neg c12] at H
      exact absurd H (by simp)
     rw [if_pos c12] at H
     have c12b0 : decide (0 ≤ x15_1) = true := decide_eq_true c12
     clear c12
     by_cases c13 : x15_1 < (l0.length : Int)
     rotate_left
     ·rw [if_neg c13] at H
      exact absurd H (by simp)
     rw [if_pos c13] at H
     have c13b0 : decide (x15_1 < (l0.length : Int)) = true := decide_eq_true c13
     clear c13
     have H' := aM H
     clear H
     have p232 : 0 ≤ (x15_1 : Int) := of_decide_eq_true pD
     have q232 : x15_1 < (l0.length : Int) := of_decide_eq_true pD
     obtain ⟨ad232, e232, hx232_0⟩ := Kd.at_int HR0.out x15_1 p232 q232
     cases e232
     replace hx232_0 := (HB.out.cell (World.block_lt_of_cell? w _ hx232_0)).trans hx232_0
     replace p232 := eq_true p232
     replace q232 := eq_true q232
     go_wp2
     go_loopg [5, 27] k2 (fun kq v5 v27 w' => ∃ (x5_3 : List (List Int)) (x27_3 : Int), v27 = .int .i64 x27_3 ∧ Aside0 (gradineref20_All.l2 kq l0 x3_1 x15_1 x5_3 x20_2 (l0.length : Int) x15_1 (x3_1.length : Int) x20_2 (rd l0 x15_1) x27_3 = some r) ∧ Aside0 (kq ≤ k2) ∧ Aside0 (Kd.N (Kd.slice 3 (Kd.int .i64)) 22 w' w.heap.size (fun k_ => (w.heap.size ≤ k_) ∧ some k_ ≠ (v5 : Value).ownBlock) (.slice zr x3_1.length zc) x3_1) ∧ Aside0 (Kd.N (Kd.slice 3 (Kd.int .i64)) 22 w' w.heap.size (fun k_ => (w.heap.size ≤ k_) ∧ some k_ ≠ ((.slice zr x3_1.length zc) : Value).ownBlock) v5 x5_3) ∧ Aside0 (Below w.heap.size w w'))
     case atStart => exact ⟨(x5_2), (0), (pF), H', ⟨Nat.le_refl _⟩, ⟨by (with_reducible repeat (first | apply Kd.N_alloc | apply Kd.N_drewN | apply Kd.N_drew)); exact za.out⟩, ⟨by (with_reducible repeat (first | apply Kd.N_alloc | apply Kd.N_drewN | apply Kd.N_drew)); exact zb.out⟩, ⟨qB HB⟩⟩
     case round =>
      clear H'
      try clear zu
      try clear c12b0
      try clear c13b0
      try clear hx232_0
      try clear p232
      try clear q232
      obtain ⟨x5_3, x27_3, rfl, HA, HK3, za, zb, HB⟩ := hrel
      cases gk with
      | zero => exact absurd HA.out (by simp [gradineref20_All.l2])
      | succ k3 =>
       have H := HA.out
       clear HA
       simp only [gradineref20_All.l2] at H
       by_cases c14 : x27_3 < (rd l0 x15_1)
       rotate_left
       ·rw [if_neg c14] at H
        have c14b0 : decide (x27_3 < (rd l0 x15_1)) = false := decide_eq_false c14
        clear c14
        have H' := aM H
        clear H
        go_wp2
        go_roundg k3
        case measure => have := HK1.out; have := HK2.out; have := HK3.out; omega
        case rel => exact ⟨(x5_3), (wrap64 (x20_2 + 1)), (pF), H', ⟨by have := HK1.out; have := HK2.out; have := HK3.out; omega⟩, ⟨by (with_reducible repeat (first | apply Kd.N_alloc | apply Kd.N_drewN | apply Kd.N_drew)); exact za.out⟩, ⟨by (with_reducible repeat (first | apply Kd.N_alloc | apply Kd.N_drewN | apply Kd.N_drew)); exact zb.out⟩, ⟨qB HB⟩⟩
       rw [if_pos c14] at H
       have c14b0 : decide (x27_3 < (rd l0 x15_1)) = true := decide_eq_true c14
       clear c14
       obtain ⟨zf, zn⟩ : ∃ y_ : List Int, y_ = (([] : List Int)) := ⟨_, rfl⟩
       replace H : (if 0 ≤ x20_2 then (if x20_2 < (x3_1.length : Int) then (if zf.length + (rd_L6 x3_1 x20_2).length < 17592186044416 then ((some (zf ++ (rd_L6 x3_1 x20_2) : List Int)).bind fun zd => (if zd.length < 17592186044416 then (if x5_3.length < 5864062014805 then (gradineref20_All.l2 k3 l0 x3_1 x15_1 (x5_3 ++ [(zd ++ [x27_3])]) x20_2 (l0.length : Int) x15_1 (x3_1.length : Int) x20_2 (rd l0 x15_1) (wrap64 (x27_3 + 1))) else (none)) else (none))) else (none)) else (none)) else (none)) = some r := pH zn H
       have zv := aM zn
       clear zn
       by_cases c15 : 0 ≤ x20_2
       rotate_left
       ·rw [if_neg c15] at H
        exact absurd H (by simp)
       rw [if_pos c15] at H
       have c15b0 : decide (0 ≤ x20_2) = true := decide_eq_true c15
       clear c15
       by_cases c16 : x20_2 < (x3_1.length : Int)
       rotate_left
       ·rw [if_neg c16] at H
        exact absurd H (by simp)
       rw [if_pos c16] at H
       have c16b0 : decide (x20_2 < (x3_1.length : Int)) = true := decide_eq_true c16
       clear c16
       by_cases c17 : zf.length + (rd_L6 x3_1 x20_2).length < 17592186044416
       rotate_left
       ·rw [if_neg c17] at H
        exact absurd H (by simp)
       rw [if_pos c17] at H
       have LMc17 := aM c17
       clear c17
       obtain ⟨zd, zo⟩ : ∃ y_ : List Int, y_ = (zf ++ (rd_L6 x3_1 x20_2)) := ⟨_, rfl⟩
       replace H : (if zd.length < 17592186044416 then (if x5_3.length < 5864062014805 then (gradineref20_All.l2 k3 l0 x3_1 x15_1 (x5_3 ++ [(zd ++ [x27_3])]) x20_2 (l0.length : Int) x15_1 (x3_1.length : Int) x20_2 (rd l0 x15_1) (wrap64 (x27_3 + 1))) else (none)) else (none)) = some r := pH zo H
       have Ny237 := aM zo
       clear zo
       by_cases c18 : zd.length < 17592186044416
       rotate_left
       ·rw [if_neg c18] at H
        exact absurd H (by simp)
       rw [if_pos c18] at H
       have LMc18 := aM c18
       clear c18
       obtain ⟨zk, zp⟩ : ∃ y_ : List Int, y_ = (zd ++ [x27_3]) := ⟨_, rfl⟩
       replace H : (if x5_3.length < 5864062014805 then (gradineref20_All.l2 k3 l0 x3_1 x15_1 (x5_3 ++ [zk]) x20_2 (l0.length : Int) x15_1 (x3_1.length : Int) x20_2 (rd l0 x15_1) (wrap64 (x27_3 + 1))) else (none)) = some r := pH zp H
       have Ny240 := aM zp
       clear zp
       by_cases c19 : x5_3.length < 5864062014805
       rotate_left
       ·rw [if_neg c19] at H
        exact absurd H (by simp)
       rw [if_pos c19] at H
       have LMc19 := aM c19
       clear c19
       obtain ⟨z4, zq⟩ : ∃ y_ : List (List Int), y_ = (x5_3 ++ [zk]) := ⟨_, rfl⟩
       replace H : (gradineref20_All.l2 k3 l0 x3_1 x15_1 z4 x20_2 (l0.length : Int) x15_1 (x3_1.length : Int) x20_2 (rd l0 x15_1) (wrap64 (x27_3 + 1))) = some r := pH zq H
       have Ny243 := aM zq
       clear zq
       have H' := aM H
       clear H
       go_wp2_with (first | ((with_reducible refine gate_dst (N := 31) rfl ?_); refine Kd.R_lit (Kd.int .i64) _ 3 ?hg (N := 31) ?hd (xs := ([] : List Int)) (inner := []) (ok := fun _ => True) (okp := fun _ => True) ?hr ?hp (fun _ hk => hk) trivial (Below.refl _ _) (Nat.le_refl _) (by simp) ?_; (case hd => rfl); (case hg => rfl); (case hr => first | (go_simp; done) | (go_simp; rfl)); (case hp => exact (Reps.none _ _)); intro v234 w20 ho21 hb hg_ hnew_; clear hg_ hnew_; (first | rw [← zv.out] at ho21 | (simp only [Int.reduceToNat] at ho21; rw [← zv.out] at ho21)); replace za := aM (Kd.N_elder' (by (with_reducible repeat (first | apply Kd.N_alloc | apply Kd.N_drewN | apply Kd.N_drew)); exact za.out) (Kd.R_base ho21) hb); replace zb := aM (Kd.N_elder' (by (with_reducible repeat (first | apply Kd.N_alloc | apply Kd.N_drewN | apply Kd.N_drew)); exact zb.out) (Kd.R_base ho21) hb); have zw := aM (Kd.R_lower (Kd.R_newM (M := fun k_ => (w.heap.size ≤ k_)) ho21 (below_size (qB HB)) (fun k_ h_ => h_)) (below_size (qB HB))); replace HB := bS (qB HB) hb; clear hb ho21; have p236 : 0 ≤ (x20_2 : Int) := of_decide_eq_true pD; have q236 : x20_2 < (x3_1.length : Int) := of_decide_eq_true pD; obtain ⟨ad236, A236_0, c236_0, e236, hx236_0, hl236_0, hi236_0⟩ := at_L6 (Kd.N_reads' za.out).2.2 x20_2 p236 q236; cases e236; obtain ⟨ce236, hce236, hMe236, hcc236⟩ := Kd.N_get za.out [] x20_2 p236 (by first | exact q236 | exact of_decide_eq_true pD | (have e_ := (Kd.N_reads' za.out).1; omega)); obtain ⟨ua236_0, uc236_0, rfl, ul236_0, ge236_0⟩ := Kd.FK_slice_open hMe236; have hv236_0 := hcc236 0 _ rfl; rw [Nat.add_zero, show ((Kd.slice 3 (Kd.int .i64))).sz = 1 from rfl, Nat.mul_one] at hv236_0; replace hv236_0 := Option.some.inj (hv236_0.symm.trans hx236_0); injection hv236_0 with hva_ hvn_ hvc_; rw [hva_] at ge236_0; rw [hvc_] at ul236_0; have HL236_0 := aM (show Kd.V (Kd.int .i64) 3 _ w.heap.size _ _ (rd_L6 x3_1 x20_2) from Kd.V_mk ul236_0 ge236_0); clear hva_ hvn_ hvc_ ge236_0 ul236_0; clear hcc236 hce236; have zh := aM hi236_0; have HC236_0 := aM hl236_0; clear hi236_0 hl236_0; replace p236 := eq_true p236; replace q236 := eq_true q236) | ((with_reducible refine gate_builtin (b := .append) (xs := #[.tmp 31, .tmp 35]) rfl ?_); at_builtin; refine Kd.R_append_rows (Kd.int .i64) (w0 := w) w.heap.size rfl (.tmp 31) (.tmp 35) 22 3 (.int .i64 0) 8 rfl Try.underlying22 info3 rfl (by decide) (by omega) v234 zf (rd_L6 x3_1 x20_2) _ _ _ (fun k_ => (w.heap.size ≤ k_)) (fun _ => False) rfl rfl ?aO ?aR (fun _ _ h => h) (fun _ h => h.elim) ?aF ?aB ?aS ?aL ?_; (case aR => repeat (first | exact (by repeat (first | (with_reducible exact zh.out) | (with_reducible refine Kd.C_alloc ?_ _) | (with_reducible refine Kd.C_drewN ?_ _) | (with_reducible refine Kd.C_drew ?_) | exact zh.out)) | (with_reducible refine Kd.C_alloc ?_ _) | (with_reducible refine Kd.C_drewN ?_ _) | (with_reducible refine Kd.C_drew ?_))); (case aB => exact (qB HB)); (case aF => exact (fun k_ hk => (Nat.le_trans (below_size (qB HB)) hk))); (case aO => exact (by (with_reducible repeat (first | apply rA | apply rN | apply rD)); exact Kd.R_mono zw.out (fun _ hk => hk.1))); (case aS => exact (below_size (qB HB))); (case aL => have := LMc17.out; omega); intro v238 w22 ho hb hg hat; rw [← Ny237.out] at ho; replace za := aM (Kd.N_afterv (ok := (fun k_ => (w.heap.size ≤ k_) ∧ some k_ ≠ (u5 : Value).ownBlock)) (by (with_reducible repeat (first | apply Kd.N_alloc | apply Kd.N_drewN | apply Kd.N_drew)); exact za.out) hg hat); replace zb := aM (Kd.N_afterv (ok := (fun k_ => (w.heap.size ≤ k_) ∧ some k_ ≠ (.slice (some ad236) x3_1.length zc : Value).ownBlock)) (by (with_reducible repeat (first | apply Kd.N_alloc | apply Kd.N_drewN | apply Kd.N_drew)); exact zb.out) hg hat); replace HL236_0 := aM (Kd.V_afterv (ok := (fun k_ => (w.heap.size ≤ k_) ∧ some k_ ≠ (.slice (some ad236) x3_1.length zc : Value).ownBlock ∧ some k_ ≠ (u5 : Value).ownBlock)) (by (with_reducible repeat (first | apply Kd.V_alloc | apply Kd.V_drewN | apply Kd.V_drew)); exact Kd.V_mono HL236_0.out (fun _ hk => ⟨⟨hk.1.1.1, ⟨hk.2, hk.1.1.2⟩⟩, hk.1.2⟩)) hg hat); replace HB := aM (hb); have zx := aM (ho); clear zw; clear ho hb hg hat) | ((with_reducible refine gate_builtin (b := .append) (xs := #[.tmp 36, .tmp 38]) rfl ?_); at_builtin; refine Kd.R_append (Kd.int .i64) (w0 := w) w.heap.size rfl (.tmp 36) (.tmp 38) 22 3 (.int .i64 0) 8 rfl Try.underlying22 info3 rfl (by decide) (by omega) v238 zd x27_3 [.int .i64 x27_3] (fun k_ => (w.heap.size ≤ k_)) (fun _ => False) rfl rfl ?aP (fun _ hk => hk.elim) ?aF ?aO ?aB ?aS ?aL ?_; (case aP => exact rfl); (case aB => exact (qB HB)); (case aF => exact (fun k_ hk => (Nat.le_trans (below_size (qB HB)) hk))); (case aO => exact (pR zx.out)); (case aS => exact (below_size (qB HB))); (case aL => have := LMc18.out; omega); intro v241 w23 ho hb hg hat; rw [← Ny240.out] at ho; replace za := aM (Kd.N_afterv (ok := (fun k_ => (w.heap.size ≤ k_) ∧ some k_ ≠ (u5 : Value).ownBlock)) (by (with_reducible repeat (first | apply Kd.N_alloc | apply Kd.N_drewN | apply Kd.N_drew)); exact za.out) hg hat); replace zb := aM (Kd.N_afterv (ok := (fun k_ => (w.heap.size ≤ k_) ∧ some k_ ≠ (.slice (some ad236) x3_1.length zc : Value).ownBlock)) (by (with_reducible repeat (first | apply Kd.N_alloc | apply Kd.N_drewN | apply Kd.N_drew)); exact zb.out) hg hat); replace HL236_0 := aM (Kd.V_afterv (ok := (fun k_ => (w.heap.size ≤ k_) ∧ some k_ ≠ (.slice (some ad236) x3_1.length zc : Value).ownBlock ∧ some k_ ≠ (u5 : Value).ownBlock)) (pV HL236_0.out) hg hat); replace HB := aM (hb); have zi := aM (ho); clear zx; clear ho hb hg hat; obtain ⟨zy, zz, eo25⟩ := Kd.R_slice zi.out; subst eo25) | ((with_reducible refine gate_builtin (b := .append) (xs := #[.tmp 30, .tmp 40]) rfl ?_); at_builtin; refine Kd.N_append (Kd.slice 3 (Kd.int .i64)) (w0 := w) w.heap.size rfl (.tmp 30) (.tmp 40) 40 22 (.slice none 0 0) 24 rfl Try.underlying40 info22 rfl (by decide) (by omega) u5 x5_3 zk [.slice zy zk.length zz] (fun k_ => (w.heap.size ≤ k_) ∧ some k_ ≠ (.slice (some ad236) x3_1.length zc : Value).ownBlock) (fun k_ => ((fun k_ => (w.heap.size ≤ k_) ∧ some k_ ≠ (.slice (some ad236) x3_1.length zc : Value).ownBlock)) k_ ∧ some k_ ≠ (u5 : Value).ownBlock) rfl rfl ?aP (fun _ hk => hk) ?aF ?aO ?aB ?aS ?aL ?_; (case aP => exact (Kd.FK_slice_mk (Kd.R_reads' (Kd.R_mono (ok' := (fun k_ => ((fun k_ => (w.heap.size ≤ k_) ∧ some k_ ≠ (.slice (some ad236) x3_1.length zc : Value).ownBlock)) k_ ∧ some k_ ≠ (u5 : Value).ownBlock)) (Kd.R_apart' (Kd.R_apart' (zi.out) (Kd.N_typed za.out) (by decide)) (Kd.N_typed zb.out) (by decide)) (fun k_ hk => ⟨⟨hk.1.1, hk.1.2⟩, hk.2⟩))).2.1 (Kd.R_F (Kd.R_mono (ok' := (fun k_ => ((fun k_ => (w.heap.size ≤ k_) ∧ some k_ ≠ (.slice (some ad236) x3_1.length zc : Value).ownBlock)) k_ ∧ some k_ ≠ (u5 : Value).ownBlock)) (Kd.R_apart' (Kd.R_apart' (zi.out) (Kd.N_typed za.out) (by decide)) (Kd.N_typed zb.out) (by decide)) (fun k_ hk => ⟨⟨hk.1.1, hk.1.2⟩, hk.2⟩))))); (case aB => exact (qB HB)); (case aF => exact (fun k_ hk => ⟨(Nat.le_trans (below_size (qB HB)) hk), Kd.fresh' (Kd.N_lt (by (with_reducible repeat (first | apply Kd.N_alloc | apply Kd.N_drewN | apply Kd.N_drew)); exact za.out)) k_ hk⟩)); (case aO => exact (by (with_reducible repeat (first | apply Kd.N_alloc | apply Kd.N_drewN | apply Kd.N_drew)); exact Kd.N_mono zb.out (fun _ hk => ⟨hk.1.1, hk.1.2⟩))); (case aS => exact (below_size (qB HB))); (case aL => have := LMc19.out; omega); intro v244 w24 ho hb hg hat; rw [← Ny243.out] at ho; replace za := aM (Kd.N_afterv (ok := (fun k_ => (w.heap.size ≤ k_) ∧ some k_ ≠ (.slice zy zk.length zz : Value).ownBlock)) (by (with_reducible repeat (first | apply Kd.N_alloc | apply Kd.N_drewN | apply Kd.N_drew)); exact Kd.N_mono za.out (fun _ hk => ⟨⟨hk.1.1, hk.2⟩, hk.1.2⟩)) hg hat); replace HL236_0 := aM (Kd.V_afterv (ok := (fun k_ => (w.heap.size ≤ k_) ∧ some k_ ≠ (.slice (some ad236) x3_1.length zc : Value).ownBlock ∧ some k_ ≠ (.slice zy zk.length zz : Value).ownBlock)) (by (with_reducible repeat (first | apply Kd.V_alloc | apply Kd.V_drewN | apply Kd.V_drew)); exact Kd.V_mono HL236_0.out (fun _ hk => ⟨⟨hk.1.1, ⟨hk.1.2.1, hk.2⟩⟩, hk.1.2.2⟩)) hg hat); replace HB := aM (hb); have HO245 := aM (ho); clear zb zi; clear ho hb hg hat))
       go_roundg k3
       case measure => have := HK1.out; have := HK2.out; have := HK3.out; omega
       case rel => exact ⟨(z4), (wrap64 (x27_3 + 1)), (pF), H', ⟨by have := HK1.out; have := HK2.out; have := HK3.out; omega⟩, ⟨by (with_reducible repeat (first | apply Kd.N_alloc | apply Kd.N_drewN | apply Kd.N_drew)); exact Kd.N_mono za.out (fun _ hk => ⟨hk.1.1, hk.2⟩)⟩, ⟨by (with_reducible repeat (first | apply Kd.N_alloc | apply Kd.N_drewN | apply Kd.N_drew)); exact HO245.out⟩, ⟨qB HB⟩⟩
end Go.Proofs.Ytmhikecbajkonaa.Q
