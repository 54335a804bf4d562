/- The reference's Decode. -/
import Derived.Test.YtkohdojiockejaaQxfPlainBytes
import Derived.Test.YtkohdojiockejaaQxfLaw45Many
import Derived.Test.YtkohdojiockejaaQxfRef45Encode
import Derived.Test.YtkohdojiockejaaPackBits
import Derived.Test.YtkohdojiockejaaPackW0
import Derived.Test.YtkohdojiockejaaPackW1
import Derived.Test.YtkohdojiockejaaPackW2
import Derived.Test.YtkohdojiockejaaPackW3
import Derived.Test.YtkohdojiockejaaPackR0
import Derived.Test.YtkohdojiockejaaPackR1
import Derived.Test.YtkohdojiockejaaPackR4
import Derived.Test.YtkohdojiockejaaPackR5
import Derived.Test.YtkohdojiockejaaPackR6
import Derived.Test.YtkohdojiockejaaPackLaw2
import Derived.Test.YtkohdojiockejaaPackQ0
import Derived.Test.YtkohdojiockejaaPackQ1
import Derived.Test.YtkohdojiockejaaPackQ2
namespace Go.Proofs.Ytkohdojiockejaa.Q
open Go.RowKit Go.Proofs.YtkohdojiockejaaW.PrintWords Go.Proofs.YtkohdojiockejaaW.PrintLast Go.Proofs.YtkohdojiockejaaW.PrintMore
attribute [local go_sem] max2_int min2_int max_two min_two max_three min_three max_four min_four
set_option linter.unusedVariables false
set_option linter.unusedSimpArgs false
namespace Pk
def cqn : Nat → RS → List S45 × RS
  | 0, s => ([], s)
  | k + 1, s => ((cq s).1 :: (cqn k (cq s).2).1, (cqn k (cq s).2).2)
def dfin : List S45 × RS → List S45 × Int
  | (cs, .ok []) => (cs, 0)
  | (_, .ok (_ :: _)) => ([], 2)
  | (_, .bad k) => ([], k)
def dq (bs : List Int) : List S45 × Int := dfin (cqn (mq 200 (.ok bs)).1.toNat (mq 200 (.ok bs)).2)
def dz.T10 : Bool × List (List Nat × List Nat) := (true, [([], []), ([0], [0]), ([1], [1]), ([2], [2]), ([], []), ([3, 4, 0, 1, 2, 3, 4], [3])])
def dz.B10 : List Nat := [0, 1, 3, 7, 0, 31]
theorem dz.tab10 : rtab .any (opsOf Try.f12 10) = dz.T10 := by kernel_rfl
theorem dz.bits10 : waitsOk dz.T10.2 dz.B10 = true := by kernel_rfl
set_option maxHeartbeats 32000000 in
set_option maxRecDepth 100000 in
theorem qDecode.calls (A : Option Addr) (c : Nat) (bs : List Int) (w : World) (hC : Kd.C (Kd.int .u8) w A bs.length bs) (hc : bs.length ≤ c) (ok : ∀ x ∈ bs, 0 ≤ x ∧ x < 256) : Calls Try.prog 12 #[.slice A bs.length c] w fun e w' => ∃ v, e = .returned (.tuple #[v, .int .i64 (dq bs).2]) ∧ k45.R 45 w' w.heap.size (fun _ => True) v (dq bs).1 ∧ Below w.heap.size w w' := by
 have hu63 := Try.underlying63
 have HB := aM (Below.refl w.heap.size w)
 have HBY := aM (Bw_of_C hC)
 have HO := aM ok
 have HK := aM hc
 clear hC hc ok
 unfold dq
 have hr := mq_range (most := 200) (by decide) (.ok bs)
 have hc := fun gr w_ => qmany.calls gr 200 (.ok bs) w w_
 rcases hq : mq 200 (.ok bs) with ⟨n, s1⟩
 rw [hq] at hr hc
 dsimp only at hr hc ⊢
 clear hq
 obtain ⟨m, rfl⟩ : ∃ m : Nat, n = (m : Int) := ⟨n.toNat, by omega⟩
 rw [Int.toNat_natCast]
 have HM : Aside0 (m ≤ 200) := ⟨by omega⟩
 have HC := aM hc
 clear hr hc
 rcases hr : cqn m s1 with ⟨cl, se⟩
 have HR := aM hr
 clear hr
 obtain ⟨res, hres⟩ : ∃ r, dfin (cl, se) = r := ⟨_, rfl⟩
 rw [hres]
 have HRES := aM hres
 clear hres
 go_enter Try.func12, Try.ntmps12
 go_wp2_with (first
  | ((with_reducible refine gate_dst (N := 8) rfl ?_); refine box_event ?hg (N := 8) ?hd (cs := #[.slice A bs.length c, .int .i64 0]) (t := 63) ?hr ?_; (case hd => rfl); (case hg => rfl); (case hr => first | (go_simp; done) | (go_simp; rfl)); intro gr hg w1 hbox hb; have GR := gE (w := w) hg (Below.refl _ _); have HS : Aside0 (Rst w w1 gr (.ok bs)) := ⟨(⟨⟨A, c, hbox, HK.out, HBY.out⟩, GR.out, hb, HO.out⟩ : Rr w w1 gr 0 bs)⟩; clear hb hbox hg)
  | (go_at_call 22; refine (HC.out gr _ HS.out).mono ?_; rintro e w2 ⟨rfl, h1, h2⟩; replace HS := aM h1; clear h1 h2))
 go_loopg [5, 11] m (fun kq v5 v11 w' => ∃ (i : Nat) (cs : List S45) (st : RS), v11 = .int .i64 (i : Int) ∧ Aside0 (i + kq = m) ∧ Aside0 (cs.length = i) ∧ Aside0 ((cs ++ (cqn kq st).1, (cqn kq st).2) = (cl, se)) ∧ Aside0 (Rst w w' gr st) ∧ Aside0 (k45.R 45 w' w.heap.size (fun _ => True) v5 cs))
 case atStart => exact ⟨0, [], s1, rfl, ⟨by omega⟩, ⟨rfl⟩, ⟨HR.out⟩, HS, ⟨pN⟩⟩
 case round =>
  clear HS HR HC
  obtain ⟨i, cs, st, rfl, HI, HLN, HR, HS, HX⟩ := hrel
  cases gk with
  | succ kq =>
   have d1 : decide ((i : Int) < (m : Int)) = true := decide_eq_true (by have := HI.out; omega)
   have d2 : decide (i < m) = true := decide_eq_true (by have := HI.out; omega)
   have HR1 := HR.out
   rw [cqn] at HR1
   have hc0 := qcommand.calls gr st w wr HS.out
   rcases hq0 : cq st with ⟨cmd, st1⟩
   rw [hq0] at hc0 HR1
   dsimp only at hc0 HR1
   have HC0 := aM hc0
   have HR2 := aM HR1
   clear hq0 hc0 HR1 HR
   have HLT := aM (Kd.R_lt HX.out)
   have HGS := aM HS.out.bel.size
   go_wp2_with (first
    | (go_at_call 23; refine HC0.out.mono ?_; rintro e w5 ⟨_, rfl, ⟨ce, rfl, hM⟩, h1, h2⟩; have HM3 := aM (k45.M_lower HGS.out (k45.M_mono (fun k hk => hk.2.1) (k45.M_bound hM))); obtain ⟨t0, t1, t2, t3, t4, t5, t6, t7, t8, t9, t10, t11, t12, t13, t14, t15, t16, rfl⟩ := len17 (k45.K_len (k45.K_of_M hM)); replace HX := aM (R_fr HX.out h2 (by decide)); replace HS := aM h1; clear h1 h2 hM)
    | ((with_reducible refine gate_builtin (b := .append) (xs := #[.tmp 13, .tmp 16]) rfl ?_); at_builtin; refine Kd.R_append k45 (w0 := w5) w.heap.size rfl (.tmp 13) (.tmp 16) 22 45 (.agg #[.int .i64 0, .int .i64 0, .int .i64 0, .slice .none 0 0, .int .i64 0, .int .i64 0, .int .i64 0, .int .i64 0, .int .i64 0, .int .i64 0, .int .i64 0, .int .i64 0, .bool false, .slice .none 0 0, .slice .none 0 0, .slice .none 0 0, .bool false]) 200 rfl Try.underlying22 info45 rfl (by show 0 < 17; decide) (by omega) u5 cs cmd [t0, t1, t2, t3, t4, t5, t6, t7, t8, t9, t10, t11, t12, t13, t14, t15, t16] (fun _ => True) (fun k => wr.heap.size ≤ k) rfl rfl HM3.out ?aK (fun _ _ => trivial) HX.out (Below.refl _ _) HS.out.bel.size ?aL ?_; (case aK => intro k hk; exact ⟨trivial, fun he => by have := HLT.out k he.symm; omega⟩); (case aL => have := HLN.out; have := HI.out; have := HM.out; omega); intro v1 w6 ho hb hg hat; have HS5 := aM (HS.out.row HX.out hg hb (Nat.le_refl _) (by decide) (by decide)); have HX5 := aM ho; clear ho hb hg hat))
   go_roundg kq
   case measure => omega
   case rel => exact ⟨i + 1, cs ++ [cmd], st1, by first | rfl | (rw [w64o (by omega) (by have := HI.out; have := HM.out; omega)]; rfl), ⟨by have := HI.out; omega⟩, ⟨by rw [List.length_append, HLN.out]; rfl⟩, ⟨by rw [← HR2.out]; simp⟩, HS5, HX5⟩
  | zero =>
   obtain rfl : i = m := by have := HI.out; omega
   have d1 : decide ((i : Int) < (i : Int)) = false := decide_eq_false (by omega)
   have d2 : decide (i < i) = false := decide_eq_false (by omega)
   have HR1 := HR.out
   rw [cqn, List.append_nil] at HR1
   obtain ⟨rfl, rfl⟩ := Prod.mk.inj HR1
   clear HR HR1 HI
   cases st with
   | ok l =>
    obtain ⟨⟨A6, c6, g1, g2, _⟩, _⟩ := (HS.out : Rr w wr gr 0 l)
    have gc := blk2' g1
    clear g1
    cases l with
    | nil =>
     obtain rfl : res = (cs, 0) := HRES.out.symm
     clear HRES
     go_wp2
     go_ret2
     exact ⟨_, rfl, HX.out, HS.out.bel⟩
    | cons b l =>
     obtain rfl : res = ([], 2) := HRES.out.symm
     clear HRES
     have HE := aM (Rr.setE (HS.out : Rr w wr gr 0 (b :: l)) 2)
     obtain ⟨n, hn, hn0⟩ : ∃ n, (b :: l).length = n ∧ 0 < n := ⟨_, rfl, Nat.succ_pos _⟩
     rw [hn] at gc
     have e1 : decide ((n : Int) > 0) = true := decide_eq_true (by omega)
     have e2 : decide (0 < n) = true := decide_eq_true hn0
     clear g2 hn
     have HCE : Aside0 ((wr.setCell ⟨gr, 1, .none⟩ (.int .i64 2)).drew.cell? ⟨gr, 1, .none⟩ = some (.int .i64 2)) := ⟨by obtain ⟨⟨A7, c7, k1, _, _⟩, _⟩ := HE.out.1; exact (blk2' (blk_below k1 (Below.refl _ _).drew)).2.2.1⟩
     have HBD : Aside0 (Below w.heap.size w (wr.setCell ⟨gr, 1, .none⟩ (.int .i64 2)).drew) := aM (below_drew1 HE.out.1.bel)
     go_wp2
     refine start_ (n := 6) (S := fun w' => w'.cell? ⟨gr, 1, .none⟩ = some (.int .i64 2)) (ds := []) (bm 6 0) (by kernel_rfl) rfl rfl HCE.out (fun hHeld => ?_); refine with_tabW dz.tab10 dz.bits10 (fun HT_ HW_ => ?_)
     generalize (wr.setCell ⟨gr, 1, .none⟩ (.int .i64 2)).drew = wd at HBD hHeld ⊢
     refine pP (i := 0) (N := some 40) (bm 6 1) rfl rfl HT_.out ?_
     refine pP (i := 1) (N := some 41) (bm 6 3) rfl rfl HT_.out ?_
     refine pP (i := 2) (N := some 42) (bm 6 7) rfl rfl HT_.out ?_
     refine pP (i := 4) (N := some 2) (bm 6 23) rfl rfl HT_.out ?_
     refine pT (i := 3) (N := some 43) (bm 6 31) rfl rfl HT_.out HW_.out hHeld (by rintro w' s0; go_simp; with_reducible rfl) ?_
     refine pP (i := 5) (N := some 3) (bm 6 63) rfl rfl HT_.out ?_
     refine done_ (done_of HT_.out (by kernel_rfl)) ?_
     clear HT_ HW_
     try go_wp2
     go_ret2
     exact ⟨_, rfl, Kd.R_nil _ _ _ _ _, HBD.out⟩
   | bad k =>
    obtain rfl : res = ([], k) := HRES.out.symm
    clear HRES
    obtain ⟨hk, l, hl⟩ := (HS.out : k ≠ 0 ∧ ∃ l, Rr w wr gr k l)
    obtain ⟨⟨A6, c6, g1, g2, _⟩, _⟩ := hl
    have gc := blk2' g1
    have y1 : decide (k = 0) = false := decide_eq_false hk
    have y2 : (k == 0) = false := by simpa using hk
    have HCE : Aside0 (wr.drew.cell? ⟨gr, 1, .none⟩ = some (.int .i64 k)) := ⟨(blk2' (blk_below g1 (Below.refl _ _).drew)).2.2.1⟩
    have HBD : Aside0 (Below w.heap.size w wr.drew) := aM (below_drew1 HS.out.bel)
    clear g1
    go_wp2
    refine start_ (n := 6) (S := fun w' => w'.cell? ⟨gr, 1, .none⟩ = some (.int .i64 k)) (ds := []) (bm 6 0) (by kernel_rfl) rfl rfl HCE.out (fun hHeld => ?_); refine with_tabW dz.tab10 dz.bits10 (fun HT_ HW_ => ?_)
    generalize wr.drew = wd at HBD hHeld ⊢
    refine pP (i := 0) (N := some 40) (bm 6 1) rfl rfl HT_.out ?_
    refine pP (i := 1) (N := some 41) (bm 6 3) rfl rfl HT_.out ?_
    refine pP (i := 2) (N := some 42) (bm 6 7) rfl rfl HT_.out ?_
    refine pP (i := 4) (N := some 2) (bm 6 23) rfl rfl HT_.out ?_
    refine pT (i := 3) (N := some 43) (bm 6 31) rfl rfl HT_.out HW_.out hHeld (by rintro w' s0; go_simp; with_reducible rfl) ?_
    refine pP (i := 5) (N := some 3) (bm 6 63) rfl rfl HT_.out ?_
    refine done_ (done_of HT_.out (by kernel_rfl)) ?_
    clear HT_ HW_
    try go_wp2
    go_ret2
    exact ⟨_, rfl, Kd.R_nil _ _ _ _ _, HBD.out⟩
end Pk
end Go.Proofs.Ytkohdojiockejaa.Q
