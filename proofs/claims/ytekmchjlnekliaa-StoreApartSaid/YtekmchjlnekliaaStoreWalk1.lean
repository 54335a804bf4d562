/- StoreApart's walk: it returns true. -/
import Derived.Test.YtekmchjlnekliaaQxfBankCopied
import Derived.Test.YtekmchjlnekliaaQxfBankCopy
import Derived.Test.YtekmchjlnekliaaQxfLaw24Many
import Derived.Test.YtekmchjlnekliaaQxfPlainLong
import Derived.Test.YtekmchjlnekliaaQxfPlainWide
import Derived.Test.YtekmchjlnekliaaQxfRef07Same
import Derived.Test.YtekmchjlnekliaaQxfRef07Words
import Derived.Test.YtekmchjlnekliaaQxfRef18All
import Derived.Test.YtekmchjlnekliaaQxfRef18Same
import Derived.Test.YtekmchjlnekliaaQxfRef19Has
import Derived.Test.YtekmchjlnekliaaQxfStoreCopies
import Derived.Test.YtekmchjlnekliaaStoreNew
import Derived.Test.YtekmchjlnekliaaStoreGet
import Derived.Test.YtekmchjlnekliaaStorePut
import Derived.Test.YtekmchjlnekliaaStoreSame
import Derived.Test.YtekmchjlnekliaaStoreLaw
import Derived.Test.YtekmchjlnekliaaStoreWalk0
namespace Go.Proofs.Ytekmchjlnekliaa.Q
open Go.RowKit Go.Proofs.YtekmchjlnekliaaW.PrintWords Go.Proofs.YtekmchjlnekliaaW.PrintLast Go.Proofs.YtekmchjlnekliaaW.PrintMore
attribute [local go_sem] max2_int min2_int max_two min_two max_three min_three max_four min_four
set_option linter.unusedVariables false
set_option linter.unusedSimpArgs false
namespace Sa
theorem pS {P : Program} {ops : Array Oper} {Q : Exit → Act → World → Prop} {md : Region.Mode} {S : World → Prop} {ds : List Nat} {T : Bool × List (List Nat × List Nat)} {i : Nat} {N : Option Tmp} {oi : Oper} {fuel : Nat} {l : Array Bool} {a a' : Act} {w : World} (l' : Array Bool) (hi : ops[i]? = some oi) (hN : oi.dst = N) (hT : rtab md ops = T) (h : wpAnyLast P md ops Q S ds fuel l' a' w) (hc : anyT T l.toList l'.toList i = true := by kernel_rfl) (hQ : ∀ c a w, Q (.panic c) (a.put oi.dst undef) w → Q (.panic c) a w := by exact fun _ _ _ h => h)
  (hy : Region.wanted oi (yielded ops a.tmps) = false := by rfl) (ha : a.put N undef = a' := by simp only [Act.put, List.setIfInBounds_toArray, List.set_cons_zero, List.set_cons_succ, i64_w, i32_w]; rfl) : wpAnyLast P md ops Q S ds (fuel + 1) l a w := pure_ l' hi hN (any_of hT hc) hQ (Or.inr ⟨hy, rfl⟩) ha h
def sa.T19 : Bool × List (List Nat × List Nat) := (true, [([], []), ([0], [0]), ([1], [1]), ([2], [2]), ([3, 2], [2, 3]), ([2], [2]), ([4, 5, 2, 2], [2, 4, 5]), ([6, 2], [2, 6]), ([2, 7], [2, 7]), ([8, 6], [8]), ([9], [9]), ([9], [9]), ([10, 11, 9], [9, 10, 11]), ([12, 9], [9, 12]), ([9], [9]), ([9], [9]), ([14, 15, 9], [9, 14, 15]), ([16, 9], [9, 16]), ([13, 17, 9, 9], [9, 13, 17]), ([18, 9], [9, 18]), ([9, 19], [9, 19])])
def sa.B19 : List Nat := [0, 1, 3, 7, 15, 7, 63, 127, 255, 511, 1023, 1023, 4095, 8191, 1023, 1023, 50175, 115711, 262143, 524287, 1048575]
theorem sa.tab19 : rtab .any (opsOf Try.f3 19) = sa.T19 := by kernel_rfl
theorem sa.bits19 : waitsOk sa.T19.2 sa.B19 = true := by kernel_rfl
def sb.T27 : Bool × List (List Nat × List Nat) := (true, [([], []), ([0], [0]), ([1], [1]), ([2], [2]), ([2], [2]), ([4, 2], [2, 4]), ([3, 5, 2], [2, 3, 5]), ([2, 6], [2, 6]), ([7, 2], [7]), ([8], [8]), ([8], [8]), ([9, 10, 8], [8, 9, 10]), ([11, 8], [8, 11]), ([8], [8]), ([13, 8], [8, 13]), ([8], [8]), ([14, 15, 8], [8, 14, 15]), ([16, 8], [8, 16]), ([12, 17, 8, 8], [8, 12, 17]), ([18, 8], [8, 18]), ([8, 19], [8, 19])])
def sb.B27 : List Nat := [0, 1, 3, 7, 7, 23, 63, 127, 255, 511, 511, 2047, 4095, 511, 8703, 511, 57855, 123391, 262143, 524287, 1048575]
theorem sb.tab27 : rtab .any (opsOf Try.f3 27) = sb.T27 := by kernel_rfl
theorem sb.bits27 : waitsOk sb.T27.2 sb.B27 = true := by kernel_rfl
set_option maxHeartbeats 8000000 in
set_option maxRecDepth 100000 in
theorem StoreApart_E (W : World) (A0 : Option Addr) (c0 : Nat) (l0 : List S43) (hr0 : Kd.C k43 W A0 l0.length l0) (hc0 : l0.length ≤ c0) (a1 : Bool) (A1 : Option Addr) (c1 : Nat) (l1 : List Int) (hr1 : Kd.C (Kd.int .i64) W A1 l1.length l1) (hc1 : l1.length ≤ c1) (A2 : Option Addr) (c2 : Nat) (l2 : List S43) (hr2 : Kd.C k43 W A2 l2.length l2) (hc2 : l2.length ≤ c2) (h : l0.length ≤ 64) (h1 : 1 ≤ l0.length) (hw : gradineplain_Wide.f 100 l0 9 = some false) (hm : gradinelaw24_many.f 200 [(⟨a1, l1, l2⟩ : S25)] = some false) (hs0 : ∀ x ∈ l0, St.sw x) (hm1 : l1.length ≤ 100) (hm2 : l2.length ≤ 100) (hs2 : ∀ x ∈ l2, St.sw x) (E : Int) (U : List S43) (hp : store_Put.f l0 l1 l2 = (E, U)) (hUl : U.length = l0.length) (hUs : ∀ x ∈ U, St.sw x) (hE1 : E ≠ 0 → U = l0) (hE0 : E = 0 → l1.length = l2.length ∧ (∀ j, j < l1.length → 0 ≤ rd l1 (j : Int) ∧ rd l1 (j : Int) < (l0.length : Int) ∧ rd_T43 U (rd l1 (j : Int)) = rd_T43 l2 (j : Int)) ∧ ∀ i, i < l0.length → (∀ j, j < l1.length → rd l1 (j : Int) ≠ (i : Int)) → rd_T43 U (i : Int) = rd_T43 l0 (i : Int)) :
  Calls Try.prog 3 #[.slice A0 l0.length c0, .agg #[.bool a1, .slice A1 l1.length c1, .slice A2 l2.length c2]] W fun e W' => e = .returned (.bool true) ∧ Below W.heap.size W W' := by
 have AW := aM hw
 have AM := aM hm
 have EP := aM hp
 have AC := aM (St.copies_f 100 (by omega) hs0 (by omega))
 have GF := aM (St.get_f (V := U) 100 (by omega) hUs (by omega))
 have HN := aM (show l0.length ≤ 64 ∧ 1 ≤ l0.length from ⟨h, h1⟩)
 have HM := aM (show l1.length ≤ 100 ∧ ∀ x ∈ l2, St.sw x from ⟨hm1, hs2⟩)
 have HU := aM hUl
 have HS0 := aM hs0
 have HE1 := aM hE1
 have HE0 := aM hE0
 have HUs := aM hUs
 have hu43 := Try.underlying43
 have hu57 := Try.underlying57
 have hu25 := Try.underlying25
 have HR0 := aM hr0
 have HR1 := aM hr1
 have HR2 := aM hr2
 have HC0 := aM hc0
 have HC1 := aM hc1
 have HC2 := aM hc2
 clear hr0 hr1 hr2 hc0 hc1 hc2
 have HB := aM (Below.refl W.heap.size W)
 have d1 : decide ((l0.length : Int) > 64) = false := decide_eq_false (by omega)
 have d2 : decide (64 < (l0.length : Int)) = false := decide_eq_false (by omega)
 have d3 : decide (64 < l0.length) = false := decide_eq_false (by omega)
 have z1 : ((l0.length : Int) == 0) = false := beq_eq_false_iff_ne.mpr (by omega)
 have z2 : decide ((l0.length : Int) = 0) = false := decide_eq_false (by omega)
 have z3 : (l0.length == 0) = false := beq_eq_false_iff_ne.mpr (by omega)
 have z4 : decide (l0.length = 0) = false := decide_eq_false (by omega)
 clear hw hm hp hs0 hs2 hUs hE1 hE0 h h1 hm1 hUl
 go_enter Try.func3, Try.ntmps3
 go_wp2_with (first | ((with_reducible refine gate_dst (N := 3) rfl ?_); refine box_event ?hg (N := 3) ?hd (cs := #[.bool a1, .slice A1 l1.length c1, .slice A2 l2.length c2]) (t := 25) ?hr ?_; (case hd => rfl); (case hg => rfl); (case hr => first | (go_simp; done) | (go_simp; rfl)); intro ga hg w3 hbox hb; have BA := aM hbox; have GA := gE (w := W) hg (qB HB); replace HB := bS (qB HB) hb; have hczs := blk3 BA.out; clear hg hbox hb) | (go_at_call 5; (with_reducible refine (gradineplain_Wide.calls 100 _ _ l0 9 false _ ?s1 ?s2 AW.out).mono ?_); (case s1 => exact Kd.C_below HR0.out (qB HB)); (case s2 => exact HC0.out); rintro e w4 ⟨rfl, hb⟩; replace BA := bK BA hb; replace HB := bS (qB HB) hb; replace hczs := blk3 BA.out; clear hb) | ((with_reducible refine gate_dst (N := 23) rfl ?_); refine litW ?hg (N := 23) ?hd (cs := #[.bool a1, .slice A1 l1.length c1, .slice A2 l2.length c2]) (t := 25) (n := 1) ?hr ?_; (case hd => rfl); (case hg => rfl); (case hr => first | (go_simp; done) | (go_simp; rfl)); intro gl hg w5 hbox hb; have BL := aM hbox; replace BA := bK BA hb; replace HB := bS (qB HB) hb; replace hczs := blk3 BA.out; clear hg hbox hb) | (go_at_call 6; (with_reducible refine (many1 _ (⟨a1, l1, l2⟩ : S25) false _ ?s1 AM.out).mono ?_); (case s1 => exact actC BL.out HC1.out (Kd.C_below HR1.out (qB HB)) HC2.out (Kd.C_below HR2.out (qB HB))); rintro e w6 ⟨rfl, hb⟩; replace BA := bK BA hb; replace HB := bS (qB HB) hb; replace hczs := blk3 BA.out; clear hb BL) | ((with_reducible refine gate_callee (f := 8) rfl ?_); refine goesL_ (some 28) rfl rfl Try.func8 (by kernel_rfl) rfl #[.slice A0 l0.length c0] rfl pA ?_; (with_reducible refine (store_New.calls 100 _ _ l0 l0 _ ?s1 ?s2 ?s3 ?s4 AC.out).mono ?_); (case s1 => exact Kd.C_below HR0.out (qB HB)); (case s2 => exact HC0.out); (case s3 => exact HN.out.2); (case s4 => exact HN.out.1); rintro e w10 ⟨gs, v, rfl, hbs, hge, hS, hb⟩; refine ⟨_, rfl, ?_⟩; obtain ⟨gr, c, ev, hgr, _, _⟩ := Kd.S_form hS (by have := HN.out.2; omega); subst ev; have BS := aM hbs; have HX := aM (show W.heap.size ≤ gs ∧ W.heap.size ≤ gr ∧ gs ≠ gr from ⟨Nat.le_trans (below_size (qB HB)) hge, Nat.le_trans (below_size (qB HB)) hgr, fun e_ => Kd.S_ne hS hbs (by decide) (by rw [e_]; simp [Value.ownBlock])⟩); have HV := aM (Kd.S_lower hS (below_size (qB HB))); have NA := aM (show ga ≠ gs ∧ ga ≠ gr from ⟨fun e_ => by have := blk_lt BA.out; omega, fun e_ => by have := blk_lt BA.out; omega⟩); replace BA := bK BA hb; replace HB := bS (qB HB) hb; replace hczs := blk3 BA.out; clear hb hbs hge hS hgr) | ((with_reducible refine gate_callee (f := 9) rfl ?_); refine goesL_ (some 42) rfl rfl Try.func9 (by kernel_rfl) rfl #[.pointer (some ⟨gs, 0, none⟩), .slice A1 l1.length c1, .slice A2 l2.length c2] rfl pA ?_; (with_reducible refine (put gs gr c l0 A1 c1 l1 A2 c2 l2 E U W _ BS.out HV.out HX.out HN.out.1 HM.out.1 (qB HB) HR1.out HR2.out HM.out.2 EP.out HU.out).mono ?_); rintro e w16 ⟨rfl, hbs, hS, hbb, hfr⟩; refine ⟨_, rfl, ?_⟩; replace BA := aM ((hfr ga (blk_lt BA.out) NA.out.1 NA.out.2).trans BA.out); replace BS := aM hbs; replace HV := aM hS; replace HB := aM hbb; replace hczs := blk3 BA.out; clear hbs hS hbb hfr))
 go_loopg [7, 45] l0.length (fun kq v7 v45 w' => ∃ (i : Nat), v45 = .int .i64 (i : Int) ∧ Aside0 (i + kq = l0.length) ∧ Aside0 (Kd.R (Kd.int .i64) 3 w' w16.heap.size (fun _ => True) v7 (St.idx i)) ∧ Aside0 (Below w16.heap.size w16 w'))
 case atStart => exact ⟨0, rfl, ⟨by omega⟩, ⟨Kd.R_nil _ _ _ _ _⟩, ⟨Below.refl _ _⟩⟩
 case round =>
  obtain ⟨i, rfl, HK, zd, HZ⟩ := hrel
  cases gk with
  | succ kq =>
   have b1 : decide ((i : Int) < (l0.length : Int)) = true := decide_eq_true (by have := HK.out; omega)
   have b2 : decide (i < l0.length) = true := decide_eq_true (by have := HK.out; omega)
   have b3 : (0 ≤ (i : Int)) = True := eq_true (by omega)
   have b4 : ((i : Int) < (l0.length : Int)) = True := eq_true (by have := HK.out; omega)
   have b5 : (i < l0.length) = True := eq_true (by have := HK.out; omega)
   go_wp2_with (first | ((with_reducible refine gate_builtin (b := .append) (xs := #[.tmp 48, .tmp 50]) rfl ?_); at_builtin; refine Kd.R_append (Kd.int .i64) (w0 := w16) w16.heap.size rfl (.tmp 48) (.tmp 50) 23 3 (.int .i64 0) 8 rfl Try.underlying23 info3 rfl (by decide) (by omega) u7 (St.idx i) (i : Int) [.int .i64 (i : Int)] (fun _ => True) (fun _ => False) rfl rfl ?aP (fun _ hk => hk.elim) ?aF ?aO ?aB ?aS ?aL ?_; (case aP => exact rfl); (case aB => exact (qB HZ)); (case aF => exact (fun _ _ => trivial)); (case aO => exact (pR zd.out)); (case aS => exact (below_size (qB HZ))); (case aL => have := St.idx_len i; have := HK.out; have := HN.out; omega); intro v51 w22 ho hb hg hat; rw [← St.idx_succ] at ho; replace HZ := aM (hb); have HO := aM (ho); clear zd; clear ho hb hg hat))
   go_roundg kq
   case measure => omega
   case rel => exact ⟨i + 1, by first | rfl | (rw [w64o (by have := HK.out; have := HN.out; omega) (by have := HK.out; have := HN.out; omega)]; rfl), ⟨by have := HK.out; omega⟩, ⟨pR HO.out⟩, ⟨qB HZ⟩⟩
  | zero =>
   have hin : i = U.length := by have := HK.out; have := HU.out; omega
   clear HK
   subst hin
   have b1 : decide ((U.length : Int) < (l0.length : Int)) = false := decide_eq_false (by have := HU.out; omega)
   have b2 : decide (U.length < l0.length) = false := decide_eq_false (by have := HU.out; omega)
   replace BS := aM (blk_below BS.out HZ.out)
   replace BA := aM (blk_below BA.out HZ.out)
   replace HV := aM (Kd.S_below HV.out HZ.out)
   replace HB := aM (below_step HB.out HZ.out)
   replace hczs := blk3 BA.out
   obtain ⟨A7, c7, e7⟩ := Kd.R_slice zd.out
   subst e7
   clear HZ
   go_upto_region 14 with (first | ((with_reducible refine gate_callee (f := 10) rfl ?_); refine goesL_ (some 56) rfl rfl Try.func10 (by kernel_rfl) rfl #[.pointer (some ⟨gs, 0, none⟩), .slice A7 (St.idx U.length).length c7] rfl pA ?_; (with_reducible refine (store_Get.calls 100 gs _ _ U _ A7 c7 (St.idx U.length) U 0 _ BS.out ?s1 ?s2 GF.out).mono ?_); (case s1 => exact (Kd.S_reads' HV.out).2.2); (case s2 => exact (Kd.R_reads' (pR zd.out)).2.2); rintro e w13 ⟨v4, rfl, ho, hb⟩; refine ⟨_, rfl, ?_⟩; obtain ⟨An, cn, en⟩ := Kd.S_slice ho; subst en; have HNow := aM (Kd.S_reads' ho).2.2; replace BA := bK BA hb; replace BS := bK BS hb; replace HB := bS (qB HB) hb; clear hb ho hczs zd HV))
   clear b1 b2
   have HZ := aM (Below.refl w13.heap.size w13)
   have H0 := aM (Kd.C_below HR0.out (qB HB))
   have H1 := aM (Kd.C_below HR1.out (qB HB))
   have H2 := aM (Kd.C_below HR2.out (qB HB))
   obtain ⟨adn, _, _, _, _, en, _⟩ := at_T43 HNow.out 0 (by omega) (by have := HU.out; have := HN.out; omega)
   cases en
   have rc1 : ((U.length : Int) != (l0.length : Int)) = false := bne_eq_false_iff_eq.mpr (by have := HU.out; omega)
   have rc2 : ((U.length : Int) == (l0.length : Int)) = true := beq_iff_eq.mpr (by have := HU.out; omega)
   have rc3 : (U.length == l0.length) = true := beq_iff_eq.mpr HU.out
   have rc4 : (U.length != l0.length) = false := bne_eq_false_iff_eq.mpr HU.out
   by_cases hE : E = 0
   rotate_left
   ·skip
    have n1 : decide (E = 0) = false := decide_eq_false hE
    have n2 : (E == 0) = false := beq_eq_false_iff_ne.mpr hE
    have n3 : (E != 0) = true := bne_iff_ne.mpr hE
    go_wp2
    go_loopg [83] l0.length (fun kq v83 w' => ∃ (i : Nat), v83 = .int .i64 (i : Int) ∧ Aside0 (i + kq = l0.length) ∧ Aside0 (Below w13.heap.size w13 w'))
    case atStart => exact ⟨0, rfl, ⟨by omega⟩, ⟨qB HZ⟩⟩
    case round =>
     clear HZ
     obtain ⟨i, rfl, HK, HZ⟩ := hrel
     cases gk with
     | succ kq =>
      have b1 : decide ((i : Int) < (l0.length : Int)) = true := decide_eq_true (by have := HK.out; omega)
      have b2 : decide (i < l0.length) = true := decide_eq_true (by have := HK.out; omega)
      have b3 : (0 ≤ (i : Int)) = True := eq_true (by omega)
      have b4 : ((i : Int) < (l0.length : Int)) = True := eq_true (by have := HK.out; omega)
      have b5 : (i < l0.length) = True := eq_true (by have := HK.out; omega)
      have b6 : ((i : Int) < (U.length : Int)) = True := eq_true (by have := HK.out; have := HU.out; omega)
      have b7 : (i < U.length) = True := eq_true (by have := HK.out; have := HU.out; omega)
      obtain ⟨adX, X1, x1, X2, x2, eX, hx0, hx1, hx2, hx3, hx4, hlx1, hix1, hlx2, hix2⟩ := at_T43 HNow.out (i : Int) (by omega) (by have := HK.out; have := HU.out; omega)
      cases eX
      have Qx0 := aM hx0
      have Qx1 := aM hx1
      have Qx2 := aM hx2
      have Qx3 := aM hx3
      have Qx4 := aM hx4
      have Ix1 := aM hix1
      have Lx1 := aM hlx1
      have Ix2 := aM hix2
      have Lx2 := aM hlx2
      clear hx0 hx1 hx2 hx3 hx4 hlx1 hix1 hlx2 hix2
      obtain ⟨adY, Y1, y1, Y2, y2, eY, hy0, hy1, hy2, hy3, hy4, hly1, hiy1, hly2, hiy2⟩ := at_T43 H0.out (i : Int) (by omega) (by have := HK.out; omega)
      cases eY
      have Qy0 := aM hy0
      have Qy1 := aM hy1
      have Qy2 := aM hy2
      have Qy3 := aM hy3
      have Qy4 := aM hy4
      have Iy1 := aM hiy1
      have Ly1 := aM hly1
      have Iy2 := aM hiy2
      have Ly2 := aM hly2
      clear hy0 hy1 hy2 hy3 hy4 hly1 hiy1 hly2 hiy2
      have Qz := aM (blk3 BA.out).2.1
      have AS := aM (St.same_f (HS0.out _ (by rw [St.rd43 (show i < l0.length by have := HK.out; omega)]; exact List.getElem_mem _)) : gradineref18_Same.f 12 (rd_T43 l0 (i : Int)).f0.f0 (rd_T43 l0 (i : Int)).f0.f1 (rd_T43 l0 (i : Int)).f0.f2 (rd_T43 l0 (i : Int)).f1 (rd_T43 l0 (i : Int)).f2 (rd_T43 l0 (i : Int)).f0.f0 (rd_T43 l0 (i : Int)).f0.f1 (rd_T43 l0 (i : Int)).f0.f2 (rd_T43 l0 (i : Int)).f1 (rd_T43 l0 (i : Int)).f2 = _)
      have eU : (rd_T43 U (i : Int)) = (rd_T43 l0 (i : Int)) := by rw [HE1.out hE]
      rw [eU] at Qx0 Qx1 Qx2 Qx3 Qx4 Ix1 Lx1 Ix2 Lx2
      go_wp2
      replace HZ := aM (below_drew1 HZ.out)
      have mv : ∀ {a : Addr} {v : Value}, w13.cell? a = some v → wr.drew.cell? a = some v := fun h_ => (HZ.out.cell (World.block_lt_of_cell? w13 _ h_)).trans h_
      refine start_ (n := 21) (S := fun w' => w'.cell? (adn.add (i * 5)) = some (.bool ((rd_T43 l0 (i : Int)).f0.f0)) ∧ w'.cell? ⟨(adn.add (i * 5)).block, (adn.add (i * 5)).off + 1, none⟩ = some (.slice X1 ((rd_T43 l0 (i : Int)).f0.f1).length x1) ∧ w'.cell? ⟨(adn.add (i * 5)).block, (adn.add (i * 5)).off + 2, none⟩ = some (.slice X2 ((rd_T43 l0 (i : Int)).f0.f2).length x2) ∧ w'.cell? ⟨(adn.add (i * 5)).block, (adn.add (i * 5)).off + 3, none⟩ = some (.int .u64 ((rd_T43 l0 (i : Int)).f1)) ∧ w'.cell? ⟨(adn.add (i * 5)).block, (adn.add (i * 5)).off + 4, none⟩ = some (.int .i64 ((rd_T43 l0 (i : Int)).f2)) ∧ w'.cell? (adY.add (i * 5)) = some (.bool ((rd_T43 l0 (i : Int)).f0.f0)) ∧ w'.cell? ⟨(adY.add (i * 5)).block, (adY.add (i * 5)).off + 1, none⟩ = some (.slice Y1 ((rd_T43 l0 (i : Int)).f0.f1).length y1) ∧ w'.cell? ⟨(adY.add (i * 5)).block, (adY.add (i * 5)).off + 2, none⟩ = some (.slice Y2 ((rd_T43 l0 (i : Int)).f0.f2).length y2) ∧ w'.cell? ⟨(adY.add (i * 5)).block, (adY.add (i * 5)).off + 3, none⟩ = some (.int .u64 ((rd_T43 l0 (i : Int)).f1)) ∧ w'.cell? ⟨(adY.add (i * 5)).block, (adY.add (i * 5)).off + 4, none⟩ = some (.int .i64 ((rd_T43 l0 (i : Int)).f2)) ∧ w'.cell? ⟨ga, 1, none⟩ = some (.slice A1 l1.length c1)) (ds := []) (bm 21 0) (by kernel_rfl) rfl rfl ⟨mv Qx0.out, mv Qx1.out, mv Qx2.out, mv Qx3.out, mv Qx4.out, mv Qy0.out, mv Qy1.out, mv Qy2.out, mv Qy3.out, mv Qy4.out, mv Qz.out⟩ (fun hHeld => ?_); refine with_tabW sa.tab19 sa.bits19 (fun HT_ HW_ => ?_)
      clear mv
      generalize wr.drew = wd at HZ hHeld ⊢
      refine pP (i := 0) (N := some 86) (bm 21 1) rfl rfl HT_.out ?_
      refine pP (i := 1) (N := some 87) (bm 21 3) rfl rfl HT_.out ?_
      refine pP (i := 2) (N := some 88) (bm 21 7) rfl rfl HT_.out ?_
      refine pS (i := 3) (N := some 89) (bm 21 15) rfl rfl HT_.out ?_
      refine pS (i := 4) (N := some 90) (bm 21 31) rfl rfl HT_.out ?_
      refine pS (i := 5) (N := some 91) (bm 21 63) rfl rfl HT_.out ?_
      refine pS (i := 6) (N := some 92) (bm 21 127) rfl rfl HT_.out ?_
      refine pS (i := 7) (N := some 93) (bm 21 255) rfl rfl HT_.out ?_
      refine pP (i := 8) (N := some 94) (bm 21 511) rfl rfl HT_.out ?_
      refine pP (i := 9) (N := some 95) (bm 21 1023) rfl rfl HT_.out ?_
      refine pP (i := 10) (N := some 96) (bm 21 2047) rfl rfl HT_.out ?_
      refine pP (i := 11) (N := some 97) (bm 21 4095) rfl rfl HT_.out ?_
      refine pP (i := 12) (N := some 98) (bm 21 8191) rfl rfl HT_.out ?_
      refine pP (i := 14) (N := some 100) (bm 21 24575) rfl rfl HT_.out ?_
      refine pP (i := 15) (N := some 101) (bm 21 57343) rfl rfl HT_.out ?_
      refine pP (i := 16) (N := some 102) (bm 21 122879) rfl rfl HT_.out ?_
      refine pT (i := 13) (N := some 99) (bm 21 131071) rfl rfl HT_.out HW_.out hHeld (by rintro w' ⟨s0, s1, s2, s3, s4, s5, s6, s7, s8, s9, s10⟩; go_simp; with_reducible rfl) ?_
      refine pT (i := 17) (N := some 103) (bm 21 262143) rfl rfl HT_.out HW_.out hHeld (by rintro w' ⟨s0, s1, s2, s3, s4, s5, s6, s7, s8, s9, s10⟩; go_simp; with_reducible rfl) ?_
      refine one_ (i := 18) (N := some 104) (bm 21 524287) rfl rfl (one_of HT_.out (by kernel_rfl)) (by decide) (fun K hK => ?_)
      refine goes_ Try.func12 (by kernel_rfl) rfl #[.agg #[.bool ((rd_T43 l0 (i : Int)).f0.f0), .slice X1 ((rd_T43 l0 (i : Int)).f0.f1).length x1, .slice X2 ((rd_T43 l0 (i : Int)).f0.f2).length x2, .int .u64 ((rd_T43 l0 (i : Int)).f1), .int .i64 ((rd_T43 l0 (i : Int)).f2)], .agg #[.bool ((rd_T43 l0 (i : Int)).f0.f0), .slice Y1 ((rd_T43 l0 (i : Int)).f0.f1).length y1, .slice Y2 ((rd_T43 l0 (i : Int)).f0.f2).length y2, .int .u64 ((rd_T43 l0 (i : Int)).f1), .int .i64 ((rd_T43 l0 (i : Int)).f2)]] (by rfl) rfl rfl pA ?_
      with_reducible refine (gradineref18_Same.calls 12 ((rd_T43 l0 (i : Int)).f0.f0) _ _ ((rd_T43 l0 (i : Int)).f0.f1) _ _ ((rd_T43 l0 (i : Int)).f0.f2) ((rd_T43 l0 (i : Int)).f1) ((rd_T43 l0 (i : Int)).f2) ((rd_T43 l0 (i : Int)).f0.f0) _ _ ((rd_T43 l0 (i : Int)).f0.f1) _ _ ((rd_T43 l0 (i : Int)).f0.f2) ((rd_T43 l0 (i : Int)).f1) ((rd_T43 l0 (i : Int)).f2) true _ ?s1 ?s2 ?s3 ?s4 ?s5 ?s6 ?s7 ?s8 AS.out).mono ?_
      (case s1 => exact Kd.C_below Ix1.out (qB HZ))
      (case s2 => exact Lx1.out)
      (case s3 => exact Kd.C_below Ix2.out (qB HZ))
      (case s4 => exact Lx2.out)
      (case s5 => exact Kd.C_below Iy1.out (qB HZ))
      (case s6 => exact Ly1.out)
      (case s7 => exact Kd.C_below Iy2.out (qB HZ))
      (case s8 => exact Ly2.out)
      rintro e w21 ⟨rfl, hb⟩
      refine ⟨_, rfl, ?_⟩
      replace HZ := bS (qB HZ) hb
      clear hb
      have mv : ∀ {a : Addr} {v : Value}, w13.cell? a = some v → w21.cell? a = some v := fun h_ => (HZ.out.cell (World.block_lt_of_cell? w13 _ h_)).trans h_
      refine hK.out _ _ ⟨mv Qx0.out, mv Qx1.out, mv Qx2.out, mv Qx3.out, mv Qx4.out, mv Qy0.out, mv Qy1.out, mv Qy2.out, mv Qy3.out, mv Qy4.out, mv Qz.out⟩ (fun hHeld => ?_)
      clear hK K mv
      refine norm_ (a' := ?_) ?_ ?_
      rotate_left
      ·show Act.put _ (some 104) _ = _
       simp only [Act.put, sP, i64_w, i32_w]
       rfl
      refine pP (i := 19) (N := some 105) (bm 21 1048575) rfl rfl HT_.out ?_
      refine pP (i := 20) (N := some 106) (bm 21 2097151) rfl rfl HT_.out ?_
      refine done_ (done_of HT_.out (by kernel_rfl)) ?_
      try go_wp2
      go_roundg kq
      case measure => omega
      case rel => exact ⟨i + 1, by first | rfl | (rw [w64o (by have := HK.out; have := HN.out; omega) (by have := HK.out; have := HN.out; omega)]; rfl), ⟨by have := HK.out; omega⟩, ⟨qB HZ⟩⟩
     | zero =>
      have hin : i = l0.length := by have := HK.out; omega
      clear HK
      subst hin
      have b1 : decide ((l0.length : Int) < (l0.length : Int)) = false := decide_eq_false (by omega)
      have b2 : decide (l0.length < l0.length) = false := decide_eq_false (by omega)
      have hczs := blk3 (blk_below BA.out HZ.out)
      go_wp2
      clear b1 b2 hczs
      go_loopg [111] l1.length (fun kq v111 w' => ∃ (i : Nat), v111 = .int .i64 (i : Int) ∧ Aside0 (i + kq = l1.length) ∧ Aside0 (Below w13.heap.size w13 w'))
      case atStart => exact ⟨0, rfl, ⟨by omega⟩, ⟨qB HZ⟩⟩
      case round =>
       clear HZ
       obtain ⟨i, rfl, HK, HZ⟩ := hrel
       cases gk with
       | succ kq =>
        have b1 : decide ((i : Int) < (l1.length : Int)) = true := decide_eq_true (by have := HK.out; omega)
        have b2 : decide (i < l1.length) = true := decide_eq_true (by have := HK.out; omega)
        have b3 : (0 ≤ (i : Int)) = True := eq_true (by omega)
        have b4 : ((i : Int) < (l1.length : Int)) = True := eq_true (by have := HK.out; omega)
        have b5 : (i < l1.length) = True := eq_true (by have := HK.out; omega)
        go_wp2
        go_roundg kq
        case measure => omega
        case rel => exact ⟨i + 1, by first | rfl | (rw [w64o (by have := HK.out; have := HM.out.1; omega) (by have := HK.out; have := HM.out.1; omega)]; rfl), ⟨by have := HK.out; omega⟩, ⟨qB HZ⟩⟩
       | zero =>
        have hin : i = l1.length := by have := HK.out; omega
        clear HK
        subst hin
        have b1 : decide ((l1.length : Int) < (l1.length : Int)) = false := decide_eq_false (by omega)
        have b2 : decide (l1.length < l1.length) = false := decide_eq_false (by omega)
        have BV := aM (show w13.heap[gs]? = some (.cells #[.slice (some ⟨gr, 0, none⟩) U.length c, .int .i64 0] 57 (0, 0)) by have h_ := BS.out; rwa [if_neg hE] at h_)
        go_wp2_with (first | (go_at_call 13; (with_reducible refine (store_Version.calls gs _ 0 _ (blk_below BV.out (qB HZ))).mono ?_); rintro e w27 ⟨rfl, hb⟩; replace HZ := bS (qB HZ) hb; clear hb) | (go_at_call 7; (with_reducible refine (gradinelaw24_same.calls _).mono ?_); rintro e w7 ⟨rfl, hb⟩; replace HZ := bS (qB HZ) hb; clear hb))
        go_ret
        replace HB := aM (below_step HB.out (qB HZ))
        exact ⟨pE, HB.out⟩
   have HZ0 := aM (HE0.out hE)
   clear HE0 HE1
   subst hE
   have l12 : l1.length = l2.length := HZ0.out.1
   have rc5 : ((l1.length : Int) != (l2.length : Int)) = false := bne_eq_false_iff_eq.mpr (by omega)
   have rc6 : ((l1.length : Int) == (l2.length : Int)) = true := beq_iff_eq.mpr (by omega)
   have rc7 : (l1.length == l2.length) = true := beq_iff_eq.mpr l12
   have rc8 : (l1.length != l2.length) = false := bne_eq_false_iff_eq.mpr l12
   clear l12
   have hczs := blk3 BA.out
   go_wp2
   clear hczs
   go_loopg [83] l0.length (fun kq v83 w' => ∃ (i : Nat), v83 = .int .i64 (i : Int) ∧ Aside0 (i + kq = l0.length) ∧ Aside0 (Below w13.heap.size w13 w'))
   case atStart => exact ⟨0, rfl, ⟨by omega⟩, ⟨qB HZ⟩⟩
   case round =>
    clear HZ
    obtain ⟨i, rfl, HK, HZ⟩ := hrel
    cases gk with
    | succ kq =>
     have b1 : decide ((i : Int) < (l0.length : Int)) = true := decide_eq_true (by have := HK.out; omega)
     have b2 : decide (i < l0.length) = true := decide_eq_true (by have := HK.out; omega)
     have b3 : (0 ≤ (i : Int)) = True := eq_true (by omega)
     have b4 : ((i : Int) < (l0.length : Int)) = True := eq_true (by have := HK.out; omega)
     have b5 : (i < l0.length) = True := eq_true (by have := HK.out; omega)
     have b6 : ((i : Int) < (U.length : Int)) = True := eq_true (by have := HK.out; have := HU.out; omega)
     have b7 : (i < U.length) = True := eq_true (by have := HK.out; have := HU.out; omega)
     obtain ⟨adX, X1, x1, X2, x2, eX, hx0, hx1, hx2, hx3, hx4, hlx1, hix1, hlx2, hix2⟩ := at_T43 HNow.out (i : Int) (by omega) (by have := HK.out; have := HU.out; omega)
     cases eX
     have Qx0 := aM hx0
     have Qx1 := aM hx1
     have Qx2 := aM hx2
     have Qx3 := aM hx3
     have Qx4 := aM hx4
     have Ix1 := aM hix1
     have Lx1 := aM hlx1
     have Ix2 := aM hix2
     have Lx2 := aM hlx2
     clear hx0 hx1 hx2 hx3 hx4 hlx1 hix1 hlx2 hix2
     obtain ⟨adY, Y1, y1, Y2, y2, eY, hy0, hy1, hy2, hy3, hy4, hly1, hiy1, hly2, hiy2⟩ := at_T43 H0.out (i : Int) (by omega) (by have := HK.out; omega)
     cases eY
     have Qy0 := aM hy0
     have Qy1 := aM hy1
     have Qy2 := aM hy2
     have Qy3 := aM hy3
     have Qy4 := aM hy4
     have Iy1 := aM hiy1
     have Ly1 := aM hly1
     have Iy2 := aM hiy2
     have Ly2 := aM hly2
     clear hy0 hy1 hy2 hy3 hy4 hly1 hiy1 hly2 hiy2
     have Qz := aM (blk3 BA.out).2.1
     obtain ⟨bh, hbh, hbn⟩ := St.has_f 200 (show l1.length ≤ 1000000 by have := HM.out.1; omega) (by have := HM.out.1; omega) (i : Int)
     have AH := aM hbh
     clear hbh
     go_wp2
     cases bh with
     | true =>
      replace HZ := aM (below_drew1 HZ.out)
      have mv : ∀ {a : Addr} {v : Value}, w13.cell? a = some v → wr.drew.cell? a = some v := fun h_ => (HZ.out.cell (World.block_lt_of_cell? w13 _ h_)).trans h_
      refine start_ (n := 21) (S := fun w' => w'.cell? (adn.add (i * 5)) = some (.bool ((rd_T43 U (i : Int)).f0.f0)) ∧ w'.cell? ⟨(adn.add (i * 5)).block, (adn.add (i * 5)).off + 1, none⟩ = some (.slice X1 ((rd_T43 U (i : Int)).f0.f1).length x1) ∧ w'.cell? ⟨(adn.add (i * 5)).block, (adn.add (i * 5)).off + 2, none⟩ = some (.slice X2 ((rd_T43 U (i : Int)).f0.f2).length x2) ∧ w'.cell? ⟨(adn.add (i * 5)).block, (adn.add (i * 5)).off + 3, none⟩ = some (.int .u64 ((rd_T43 U (i : Int)).f1)) ∧ w'.cell? ⟨(adn.add (i * 5)).block, (adn.add (i * 5)).off + 4, none⟩ = some (.int .i64 ((rd_T43 U (i : Int)).f2)) ∧ w'.cell? (adY.add (i * 5)) = some (.bool ((rd_T43 l0 (i : Int)).f0.f0)) ∧ w'.cell? ⟨(adY.add (i * 5)).block, (adY.add (i * 5)).off + 1, none⟩ = some (.slice Y1 ((rd_T43 l0 (i : Int)).f0.f1).length y1) ∧ w'.cell? ⟨(adY.add (i * 5)).block, (adY.add (i * 5)).off + 2, none⟩ = some (.slice Y2 ((rd_T43 l0 (i : Int)).f0.f2).length y2) ∧ w'.cell? ⟨(adY.add (i * 5)).block, (adY.add (i * 5)).off + 3, none⟩ = some (.int .u64 ((rd_T43 l0 (i : Int)).f1)) ∧ w'.cell? ⟨(adY.add (i * 5)).block, (adY.add (i * 5)).off + 4, none⟩ = some (.int .i64 ((rd_T43 l0 (i : Int)).f2)) ∧ w'.cell? ⟨ga, 1, none⟩ = some (.slice A1 l1.length c1)) (ds := []) (bm 21 0) (by kernel_rfl) rfl rfl ⟨mv Qx0.out, mv Qx1.out, mv Qx2.out, mv Qx3.out, mv Qx4.out, mv Qy0.out, mv Qy1.out, mv Qy2.out, mv Qy3.out, mv Qy4.out, mv Qz.out⟩ (fun hHeld => ?_); refine with_tabW sa.tab19 sa.bits19 (fun HT_ HW_ => ?_)
      clear mv
      generalize wr.drew = wd at HZ hHeld ⊢
      refine pP (i := 0) (N := some 86) (bm 21 1) rfl rfl HT_.out ?_
      refine pP (i := 1) (N := some 87) (bm 21 3) rfl rfl HT_.out ?_
      refine pP (i := 2) (N := some 88) (bm 21 7) rfl rfl HT_.out ?_
      refine pP (i := 3) (N := some 89) (bm 21 15) rfl rfl HT_.out ?_
      refine pP (i := 5) (N := some 91) (bm 21 47) rfl rfl HT_.out ?_
      refine pT (i := 4) (N := some 90) (bm 21 63) rfl rfl HT_.out HW_.out hHeld (by rintro w' ⟨s0, s1, s2, s3, s4, s5, s6, s7, s8, s9, s10⟩; go_simp; with_reducible rfl) ?_
      refine one_ (i := 6) (N := some 92) (bm 21 127) rfl rfl (one_of HT_.out (by kernel_rfl)) (by decide) (fun K hK => ?_)
      refine goes_ Try.func11 (by kernel_rfl) rfl #[.slice A1 l1.length c1, .int .i64 (i : Int)] (by rfl) rfl rfl pA ?_
      with_reducible refine (gradineref19_Has.calls 200 A1 c1 l1 (i : Int) true _ ?s1 ?s2 AH.out).mono ?_
      (case s1 => exact Kd.C_below H1.out (qB HZ))
      (case s2 => exact HC1.out)
      rintro e w20 ⟨rfl, hb⟩
      refine ⟨_, rfl, ?_⟩
      replace HZ := bS (qB HZ) hb.below
      clear hb
      have mv : ∀ {a : Addr} {v : Value}, w13.cell? a = some v → w20.cell? a = some v := fun h_ => (HZ.out.cell (World.block_lt_of_cell? w13 _ h_)).trans h_
      refine hK.out _ _ ⟨mv Qx0.out, mv Qx1.out, mv Qx2.out, mv Qx3.out, mv Qx4.out, mv Qy0.out, mv Qy1.out, mv Qy2.out, mv Qy3.out, mv Qy4.out, mv Qz.out⟩ (fun hHeld => ?_)
      clear hK K mv
      refine norm_ (a' := ?_) ?_ ?_
      rotate_left
      ·show Act.put _ (some 92) _ = _
       simp only [Act.put, sP, i64_w, i32_w]
       rfl
      refine pP (i := 7) (N := some 93) (bm 21 255) rfl rfl HT_.out ?_
      refine pP (i := 8) (N := some 94) (bm 21 511) rfl rfl HT_.out ?_
      refine pP (i := 9) (N := some 95) (bm 21 1023) rfl rfl HT_.out ?_
      refine pS (i := 10) (N := some 96) (bm 21 2047) rfl rfl HT_.out ?_
      refine pS (i := 11) (N := some 97) (bm 21 4095) rfl rfl HT_.out ?_
      refine pS (i := 12) (N := some 98) (bm 21 8191) rfl rfl HT_.out ?_
      refine pS (i := 13) (N := some 99) (bm 21 16383) rfl rfl HT_.out ?_
      refine pS (i := 14) (N := some 100) (bm 21 32767) rfl rfl HT_.out ?_
      refine pS (i := 15) (N := some 101) (bm 21 65535) rfl rfl HT_.out ?_
      refine pS (i := 16) (N := some 102) (bm 21 131071) rfl rfl HT_.out ?_
      refine pS (i := 17) (N := some 103) (bm 21 262143) rfl rfl HT_.out ?_
      refine pS (i := 18) (N := some 104) (bm 21 524287) rfl rfl HT_.out ?_
      refine pS (i := 19) (N := some 105) (bm 21 1048575) rfl rfl HT_.out ?_
      refine pP (i := 20) (N := some 106) (bm 21 2097151) rfl rfl HT_.out ?_
      refine done_ (done_of HT_.out (by kernel_rfl)) ?_
      try go_wp2
      go_roundg kq
      case measure => omega
      case rel => exact ⟨i + 1, by first | rfl | (rw [w64o (by have := HK.out; have := HN.out; omega) (by have := HK.out; have := HN.out; omega)]; rfl), ⟨by have := HK.out; omega⟩, ⟨qB HZ⟩⟩
     | false =>
      have eU : (rd_T43 U (i : Int)) = (rd_T43 l0 (i : Int)) := HZ0.out.2.2 i (by have := HK.out; omega) (hbn rfl)
      have AS := aM (St.same_f (HS0.out _ (by rw [St.rd43 (show i < l0.length by have := HK.out; omega)]; exact List.getElem_mem _)) : gradineref18_Same.f 12 (rd_T43 l0 (i : Int)).f0.f0 (rd_T43 l0 (i : Int)).f0.f1 (rd_T43 l0 (i : Int)).f0.f2 (rd_T43 l0 (i : Int)).f1 (rd_T43 l0 (i : Int)).f2 (rd_T43 l0 (i : Int)).f0.f0 (rd_T43 l0 (i : Int)).f0.f1 (rd_T43 l0 (i : Int)).f0.f2 (rd_T43 l0 (i : Int)).f1 (rd_T43 l0 (i : Int)).f2 = _)
      rw [eU] at Qx0 Qx1 Qx2 Qx3 Qx4 Ix1 Lx1 Ix2 Lx2
      replace HZ := aM (below_drew1 HZ.out)
      have mv : ∀ {a : Addr} {v : Value}, w13.cell? a = some v → wr.drew.cell? a = some v := fun h_ => (HZ.out.cell (World.block_lt_of_cell? w13 _ h_)).trans h_
      refine start_ (n := 21) (S := fun w' => w'.cell? (adn.add (i * 5)) = some (.bool ((rd_T43 l0 (i : Int)).f0.f0)) ∧ w'.cell? ⟨(adn.add (i * 5)).block, (adn.add (i * 5)).off + 1, none⟩ = some (.slice X1 ((rd_T43 l0 (i : Int)).f0.f1).length x1) ∧ w'.cell? ⟨(adn.add (i * 5)).block, (adn.add (i * 5)).off + 2, none⟩ = some (.slice X2 ((rd_T43 l0 (i : Int)).f0.f2).length x2) ∧ w'.cell? ⟨(adn.add (i * 5)).block, (adn.add (i * 5)).off + 3, none⟩ = some (.int .u64 ((rd_T43 l0 (i : Int)).f1)) ∧ w'.cell? ⟨(adn.add (i * 5)).block, (adn.add (i * 5)).off + 4, none⟩ = some (.int .i64 ((rd_T43 l0 (i : Int)).f2)) ∧ w'.cell? (adY.add (i * 5)) = some (.bool ((rd_T43 l0 (i : Int)).f0.f0)) ∧ w'.cell? ⟨(adY.add (i * 5)).block, (adY.add (i * 5)).off + 1, none⟩ = some (.slice Y1 ((rd_T43 l0 (i : Int)).f0.f1).length y1) ∧ w'.cell? ⟨(adY.add (i * 5)).block, (adY.add (i * 5)).off + 2, none⟩ = some (.slice Y2 ((rd_T43 l0 (i : Int)).f0.f2).length y2) ∧ w'.cell? ⟨(adY.add (i * 5)).block, (adY.add (i * 5)).off + 3, none⟩ = some (.int .u64 ((rd_T43 l0 (i : Int)).f1)) ∧ w'.cell? ⟨(adY.add (i * 5)).block, (adY.add (i * 5)).off + 4, none⟩ = some (.int .i64 ((rd_T43 l0 (i : Int)).f2)) ∧ w'.cell? ⟨ga, 1, none⟩ = some (.slice A1 l1.length c1)) (ds := []) (bm 21 0) (by kernel_rfl) rfl rfl ⟨mv Qx0.out, mv Qx1.out, mv Qx2.out, mv Qx3.out, mv Qx4.out, mv Qy0.out, mv Qy1.out, mv Qy2.out, mv Qy3.out, mv Qy4.out, mv Qz.out⟩ (fun hHeld => ?_); refine with_tabW sa.tab19 sa.bits19 (fun HT_ HW_ => ?_)
      clear mv
      generalize wr.drew = wd at HZ hHeld ⊢
      refine pP (i := 0) (N := some 86) (bm 21 1) rfl rfl HT_.out ?_
      refine pP (i := 1) (N := some 87) (bm 21 3) rfl rfl HT_.out ?_
      refine pP (i := 2) (N := some 88) (bm 21 7) rfl rfl HT_.out ?_
      refine pP (i := 3) (N := some 89) (bm 21 15) rfl rfl HT_.out ?_
      refine pP (i := 5) (N := some 91) (bm 21 47) rfl rfl HT_.out ?_
      refine pT (i := 4) (N := some 90) (bm 21 63) rfl rfl HT_.out HW_.out hHeld (by rintro w' ⟨s0, s1, s2, s3, s4, s5, s6, s7, s8, s9, s10⟩; go_simp; with_reducible rfl) ?_
      refine one_ (i := 6) (N := some 92) (bm 21 127) rfl rfl (one_of HT_.out (by kernel_rfl)) (by decide) (fun K hK => ?_)
      refine goes_ Try.func11 (by kernel_rfl) rfl #[.slice A1 l1.length c1, .int .i64 (i : Int)] (by rfl) rfl rfl pA ?_
      with_reducible refine (gradineref19_Has.calls 200 A1 c1 l1 (i : Int) false _ ?s1 ?s2 AH.out).mono ?_
      (case s1 => exact Kd.C_below H1.out (qB HZ))
      (case s2 => exact HC1.out)
      rintro e w20 ⟨rfl, hb⟩
      refine ⟨_, rfl, ?_⟩
      replace HZ := bS (qB HZ) hb.below
      clear hb
      have mv : ∀ {a : Addr} {v : Value}, w13.cell? a = some v → w20.cell? a = some v := fun h_ => (HZ.out.cell (World.block_lt_of_cell? w13 _ h_)).trans h_
      refine hK.out _ _ ⟨mv Qx0.out, mv Qx1.out, mv Qx2.out, mv Qx3.out, mv Qx4.out, mv Qy0.out, mv Qy1.out, mv Qy2.out, mv Qy3.out, mv Qy4.out, mv Qz.out⟩ (fun hHeld => ?_)
      clear hK K mv
      refine norm_ (a' := ?_) ?_ ?_
      rotate_left
      ·show Act.put _ (some 92) _ = _
       simp only [Act.put, sP, i64_w, i32_w]
       rfl
      refine pP (i := 7) (N := some 93) (bm 21 255) rfl rfl HT_.out ?_
      refine pP (i := 8) (N := some 94) (bm 21 511) rfl rfl HT_.out ?_
      refine pP (i := 9) (N := some 95) (bm 21 1023) rfl rfl HT_.out ?_
      refine pP (i := 10) (N := some 96) (bm 21 2047) rfl rfl HT_.out ?_
      refine pP (i := 11) (N := some 97) (bm 21 4095) rfl rfl HT_.out ?_
      refine pP (i := 12) (N := some 98) (bm 21 8191) rfl rfl HT_.out ?_
      refine pP (i := 14) (N := some 100) (bm 21 24575) rfl rfl HT_.out ?_
      refine pP (i := 15) (N := some 101) (bm 21 57343) rfl rfl HT_.out ?_
      refine pP (i := 16) (N := some 102) (bm 21 122879) rfl rfl HT_.out ?_
      refine pT (i := 13) (N := some 99) (bm 21 131071) rfl rfl HT_.out HW_.out hHeld (by rintro w' ⟨s0, s1, s2, s3, s4, s5, s6, s7, s8, s9, s10⟩; go_simp; with_reducible rfl) ?_
      refine pT (i := 17) (N := some 103) (bm 21 262143) rfl rfl HT_.out HW_.out hHeld (by rintro w' ⟨s0, s1, s2, s3, s4, s5, s6, s7, s8, s9, s10⟩; go_simp; with_reducible rfl) ?_
      refine one_ (i := 18) (N := some 104) (bm 21 524287) rfl rfl (one_of HT_.out (by kernel_rfl)) (by decide) (fun K hK => ?_)
      refine goes_ Try.func12 (by kernel_rfl) rfl #[.agg #[.bool ((rd_T43 l0 (i : Int)).f0.f0), .slice X1 ((rd_T43 l0 (i : Int)).f0.f1).length x1, .slice X2 ((rd_T43 l0 (i : Int)).f0.f2).length x2, .int .u64 ((rd_T43 l0 (i : Int)).f1), .int .i64 ((rd_T43 l0 (i : Int)).f2)], .agg #[.bool ((rd_T43 l0 (i : Int)).f0.f0), .slice Y1 ((rd_T43 l0 (i : Int)).f0.f1).length y1, .slice Y2 ((rd_T43 l0 (i : Int)).f0.f2).length y2, .int .u64 ((rd_T43 l0 (i : Int)).f1), .int .i64 ((rd_T43 l0 (i : Int)).f2)]] (by rfl) rfl rfl pA ?_
      with_reducible refine (gradineref18_Same.calls 12 ((rd_T43 l0 (i : Int)).f0.f0) _ _ ((rd_T43 l0 (i : Int)).f0.f1) _ _ ((rd_T43 l0 (i : Int)).f0.f2) ((rd_T43 l0 (i : Int)).f1) ((rd_T43 l0 (i : Int)).f2) ((rd_T43 l0 (i : Int)).f0.f0) _ _ ((rd_T43 l0 (i : Int)).f0.f1) _ _ ((rd_T43 l0 (i : Int)).f0.f2) ((rd_T43 l0 (i : Int)).f1) ((rd_T43 l0 (i : Int)).f2) true _ ?s1 ?s2 ?s3 ?s4 ?s5 ?s6 ?s7 ?s8 AS.out).mono ?_
      (case s1 => exact Kd.C_below Ix1.out (qB HZ))
      (case s2 => exact Lx1.out)
      (case s3 => exact Kd.C_below Ix2.out (qB HZ))
      (case s4 => exact Lx2.out)
      (case s5 => exact Kd.C_below Iy1.out (qB HZ))
      (case s6 => exact Ly1.out)
      (case s7 => exact Kd.C_below Iy2.out (qB HZ))
      (case s8 => exact Ly2.out)
      rintro e w21 ⟨rfl, hb⟩
      refine ⟨_, rfl, ?_⟩
      replace HZ := bS (qB HZ) hb
      clear hb
      have mv : ∀ {a : Addr} {v : Value}, w13.cell? a = some v → w21.cell? a = some v := fun h_ => (HZ.out.cell (World.block_lt_of_cell? w13 _ h_)).trans h_
      refine hK.out _ _ ⟨mv Qx0.out, mv Qx1.out, mv Qx2.out, mv Qx3.out, mv Qx4.out, mv Qy0.out, mv Qy1.out, mv Qy2.out, mv Qy3.out, mv Qy4.out, mv Qz.out⟩ (fun hHeld => ?_)
      clear hK K mv
      refine norm_ (a' := ?_) ?_ ?_
      rotate_left
      ·show Act.put _ (some 104) _ = _
       simp only [Act.put, sP, i64_w, i32_w]
       rfl
      refine pP (i := 19) (N := some 105) (bm 21 1048575) rfl rfl HT_.out ?_
      refine pP (i := 20) (N := some 106) (bm 21 2097151) rfl rfl HT_.out ?_
      refine done_ (done_of HT_.out (by kernel_rfl)) ?_
      try go_wp2
      go_roundg kq
      case measure => omega
      case rel => exact ⟨i + 1, by first | rfl | (rw [w64o (by have := HK.out; have := HN.out; omega) (by have := HK.out; have := HN.out; omega)]; rfl), ⟨by have := HK.out; omega⟩, ⟨qB HZ⟩⟩
    | zero =>
     have hin : i = l0.length := by have := HK.out; omega
     clear HK
     subst hin
     have b1 : decide ((l0.length : Int) < (l0.length : Int)) = false := decide_eq_false (by omega)
     have b2 : decide (l0.length < l0.length) = false := decide_eq_false (by omega)
     have hczs := blk3 (blk_below BA.out HZ.out)
     go_wp2
     clear b1 b2 hczs
     go_loopg [111] l1.length (fun kq v111 w' => ∃ (i : Nat), v111 = .int .i64 (i : Int) ∧ Aside0 (i + kq = l1.length) ∧ Aside0 (Below w13.heap.size w13 w'))
     case atStart => exact ⟨0, rfl, ⟨by omega⟩, ⟨qB HZ⟩⟩
     case round =>
      clear HZ
      obtain ⟨i, rfl, HK, HZ⟩ := hrel
      cases gk with
      | succ kq =>
       have b1 : decide ((i : Int) < (l1.length : Int)) = true := decide_eq_true (by have := HK.out; omega)
       have b2 : decide (i < l1.length) = true := decide_eq_true (by have := HK.out; omega)
       have b3 : (0 ≤ (i : Int)) = True := eq_true (by omega)
       have b4 : ((i : Int) < (l1.length : Int)) = True := eq_true (by have := HK.out; omega)
       have b5 : (i < l1.length) = True := eq_true (by have := HK.out; omega)
       have hczs := blk3 (blk_below BA.out HZ.out)
       obtain ⟨g0, g1, eU⟩ := HZ0.out.2.1 i (by have := HK.out; omega)
       have hl2 : l1.length = l2.length := HZ0.out.1
       obtain ⟨ad1, e1, hw1⟩ := Kd.at_int H1.out (i : Int) (by omega) (by have := HK.out; omega)
       cases e1
       rw [Int.toNat_natCast] at hw1
       have hx1 := (HZ.out.cell (World.block_lt_of_cell? w13 _ hw1)).trans hw1
       have g2 : decide (rd l1 (i : Int) < 0) = false := decide_eq_false (by omega)
       have g3 : decide (rd l1 (i : Int) ≥ (U.length : Int)) = false := decide_eq_false (by have := HU.out; omega)
       have g4 : decide ((U.length : Int) ≤ rd l1 (i : Int)) = false := decide_eq_false (by have := HU.out; omega)
       have g5 : (0 ≤ rd l1 (i : Int)) = True := eq_true g0
       have g6 : (rd l1 (i : Int) < (U.length : Int)) = True := eq_true (by have := HU.out; omega)
       have b6 : ((i : Int) < (l2.length : Int)) = True := eq_true (by have := HK.out; omega)
       have b7 : (i < l2.length) = True := eq_true (by have := HK.out; omega)
       obtain ⟨adX, X1, x1, X2, x2, eX, hx0, hx1, hx2, hx3, hx4, hlx1, hix1, hlx2, hix2⟩ := at_T43 HNow.out (rd l1 (i : Int)) (g0) (by have := HU.out; omega)
       cases eX
       have Qx0 := aM hx0
       have Qx1 := aM hx1
       have Qx2 := aM hx2
       have Qx3 := aM hx3
       have Qx4 := aM hx4
       have Ix1 := aM hix1
       have Lx1 := aM hlx1
       have Ix2 := aM hix2
       have Lx2 := aM hlx2
       clear hx0 hx1 hx2 hx3 hx4 hlx1 hix1 hlx2 hix2
       obtain ⟨adY, Y1, y1, Y2, y2, eY, hy0, hy1, hy2, hy3, hy4, hly1, hiy1, hly2, hiy2⟩ := at_T43 H2.out (i : Int) (by omega) (by have := HK.out; omega)
       cases eY
       have Qy0 := aM hy0
       have Qy1 := aM hy1
       have Qy2 := aM hy2
       have Qy3 := aM hy3
       have Qy4 := aM hy4
       have Iy1 := aM hiy1
       have Ly1 := aM hly1
       have Iy2 := aM hiy2
       have Ly2 := aM hly2
       clear hy0 hy1 hy2 hy3 hy4 hly1 hiy1 hly2 hiy2
       have Qz := aM (blk3 BA.out).2.2.1
       have AS := aM (St.same_f (HM.out.2 _ (by rw [St.rd43 (show i < l2.length by have := HK.out; omega)]; exact List.getElem_mem _)) : gradineref18_Same.f 12 (rd_T43 l2 (i : Int)).f0.f0 (rd_T43 l2 (i : Int)).f0.f1 (rd_T43 l2 (i : Int)).f0.f2 (rd_T43 l2 (i : Int)).f1 (rd_T43 l2 (i : Int)).f2 (rd_T43 l2 (i : Int)).f0.f0 (rd_T43 l2 (i : Int)).f0.f1 (rd_T43 l2 (i : Int)).f0.f2 (rd_T43 l2 (i : Int)).f1 (rd_T43 l2 (i : Int)).f2 = _)
       rw [eU] at Qx0 Qx1 Qx2 Qx3 Qx4 Ix1 Lx1 Ix2 Lx2
       go_wp2
       clear hx1 hczs
       replace HZ := aM (below_drew1 HZ.out)
       have mv : ∀ {a : Addr} {v : Value}, w13.cell? a = some v → wr.drew.cell? a = some v := fun h_ => (HZ.out.cell (World.block_lt_of_cell? w13 _ h_)).trans h_
       refine start_ (n := 21) (S := fun w' => w'.cell? (adn.add ((rd l1 (i : Int)).toNat * 5)) = some (.bool ((rd_T43 l2 (i : Int)).f0.f0)) ∧ w'.cell? ⟨(adn.add ((rd l1 (i : Int)).toNat * 5)).block, (adn.add ((rd l1 (i : Int)).toNat * 5)).off + 1, none⟩ = some (.slice X1 ((rd_T43 l2 (i : Int)).f0.f1).length x1) ∧ w'.cell? ⟨(adn.add ((rd l1 (i : Int)).toNat * 5)).block, (adn.add ((rd l1 (i : Int)).toNat * 5)).off + 2, none⟩ = some (.slice X2 ((rd_T43 l2 (i : Int)).f0.f2).length x2) ∧ w'.cell? ⟨(adn.add ((rd l1 (i : Int)).toNat * 5)).block, (adn.add ((rd l1 (i : Int)).toNat * 5)).off + 3, none⟩ = some (.int .u64 ((rd_T43 l2 (i : Int)).f1)) ∧ w'.cell? ⟨(adn.add ((rd l1 (i : Int)).toNat * 5)).block, (adn.add ((rd l1 (i : Int)).toNat * 5)).off + 4, none⟩ = some (.int .i64 ((rd_T43 l2 (i : Int)).f2)) ∧ w'.cell? (adY.add (i * 5)) = some (.bool ((rd_T43 l2 (i : Int)).f0.f0)) ∧ w'.cell? ⟨(adY.add (i * 5)).block, (adY.add (i * 5)).off + 1, none⟩ = some (.slice Y1 ((rd_T43 l2 (i : Int)).f0.f1).length y1) ∧ w'.cell? ⟨(adY.add (i * 5)).block, (adY.add (i * 5)).off + 2, none⟩ = some (.slice Y2 ((rd_T43 l2 (i : Int)).f0.f2).length y2) ∧ w'.cell? ⟨(adY.add (i * 5)).block, (adY.add (i * 5)).off + 3, none⟩ = some (.int .u64 ((rd_T43 l2 (i : Int)).f1)) ∧ w'.cell? ⟨(adY.add (i * 5)).block, (adY.add (i * 5)).off + 4, none⟩ = some (.int .i64 ((rd_T43 l2 (i : Int)).f2)) ∧ w'.cell? ⟨ga, 2, none⟩ = some (.slice (some adY) l2.length c2)) (ds := []) (bm 21 0) (by kernel_rfl) rfl rfl ⟨mv Qx0.out, mv Qx1.out, mv Qx2.out, mv Qx3.out, mv Qx4.out, mv Qy0.out, mv Qy1.out, mv Qy2.out, mv Qy3.out, mv Qy4.out, mv Qz.out⟩ (fun hHeld => ?_); refine with_tabW sb.tab27 sb.bits27 (fun HT_ HW_ => ?_)
       clear mv
       generalize wr.drew = wd at HZ hHeld ⊢
       refine pP (i := 0) (N := some 121) (bm 21 1) rfl rfl HT_.out ?_
       refine pP (i := 1) (N := some 122) (bm 21 3) rfl rfl HT_.out ?_
       refine pP (i := 2) (N := some 123) (bm 21 7) rfl rfl HT_.out ?_
       refine pP (i := 3) (N := some 124) (bm 21 15) rfl rfl HT_.out ?_
       refine pP (i := 4) (N := some 125) (bm 21 31) rfl rfl HT_.out ?_
       refine pP (i := 5) (N := some 126) (bm 21 63) rfl rfl HT_.out ?_
       refine pP (i := 6) (N := some 127) (bm 21 127) rfl rfl HT_.out ?_
       refine pP (i := 7) (N := some 128) (bm 21 255) rfl rfl HT_.out ?_
       refine pP (i := 8) (N := some 129) (bm 21 511) rfl rfl HT_.out ?_
       refine pP (i := 9) (N := some 130) (bm 21 1023) rfl rfl HT_.out ?_
       refine pP (i := 10) (N := some 131) (bm 21 2047) rfl rfl HT_.out ?_
       refine pP (i := 11) (N := some 132) (bm 21 4095) rfl rfl HT_.out ?_
       refine pP (i := 13) (N := some 134) (bm 21 12287) rfl rfl HT_.out ?_
       refine pP (i := 15) (N := some 136) (bm 21 45055) rfl rfl HT_.out ?_
       refine pT (i := 14) (N := some 135) (bm 21 61439) rfl rfl HT_.out HW_.out hHeld (by rintro w' ⟨s0, s1, s2, s3, s4, s5, s6, s7, s8, s9, s10⟩; go_simp; with_reducible rfl) ?_
       refine pP (i := 16) (N := some 137) (bm 21 126975) rfl rfl HT_.out ?_
       refine pT (i := 12) (N := some 133) (bm 21 131071) rfl rfl HT_.out HW_.out hHeld (by rintro w' ⟨s0, s1, s2, s3, s4, s5, s6, s7, s8, s9, s10⟩; go_simp; with_reducible rfl) ?_
       refine pT (i := 17) (N := some 138) (bm 21 262143) rfl rfl HT_.out HW_.out hHeld (by rintro w' ⟨s0, s1, s2, s3, s4, s5, s6, s7, s8, s9, s10⟩; go_simp; with_reducible rfl) ?_
       refine one_ (i := 18) (N := some 139) (bm 21 524287) rfl rfl (one_of HT_.out (by kernel_rfl)) (by decide) (fun K hK => ?_)
       refine goes_ Try.func12 (by kernel_rfl) rfl #[.agg #[.bool ((rd_T43 l2 (i : Int)).f0.f0), .slice X1 ((rd_T43 l2 (i : Int)).f0.f1).length x1, .slice X2 ((rd_T43 l2 (i : Int)).f0.f2).length x2, .int .u64 ((rd_T43 l2 (i : Int)).f1), .int .i64 ((rd_T43 l2 (i : Int)).f2)], .agg #[.bool ((rd_T43 l2 (i : Int)).f0.f0), .slice Y1 ((rd_T43 l2 (i : Int)).f0.f1).length y1, .slice Y2 ((rd_T43 l2 (i : Int)).f0.f2).length y2, .int .u64 ((rd_T43 l2 (i : Int)).f1), .int .i64 ((rd_T43 l2 (i : Int)).f2)]] (by rfl) rfl rfl pA ?_
       with_reducible refine (gradineref18_Same.calls 12 ((rd_T43 l2 (i : Int)).f0.f0) _ _ ((rd_T43 l2 (i : Int)).f0.f1) _ _ ((rd_T43 l2 (i : Int)).f0.f2) ((rd_T43 l2 (i : Int)).f1) ((rd_T43 l2 (i : Int)).f2) ((rd_T43 l2 (i : Int)).f0.f0) _ _ ((rd_T43 l2 (i : Int)).f0.f1) _ _ ((rd_T43 l2 (i : Int)).f0.f2) ((rd_T43 l2 (i : Int)).f1) ((rd_T43 l2 (i : Int)).f2) true _ ?s1 ?s2 ?s3 ?s4 ?s5 ?s6 ?s7 ?s8 AS.out).mono ?_
       (case s1 => exact Kd.C_below Ix1.out (qB HZ))
       (case s2 => exact Lx1.out)
       (case s3 => exact Kd.C_below Ix2.out (qB HZ))
       (case s4 => exact Lx2.out)
       (case s5 => exact Kd.C_below Iy1.out (qB HZ))
       (case s6 => exact Ly1.out)
       (case s7 => exact Kd.C_below Iy2.out (qB HZ))
       (case s8 => exact Ly2.out)
       rintro e w21 ⟨rfl, hb⟩
       refine ⟨_, rfl, ?_⟩
       replace HZ := bS (qB HZ) hb
       clear hb
       have mv : ∀ {a : Addr} {v : Value}, w13.cell? a = some v → w21.cell? a = some v := fun h_ => (HZ.out.cell (World.block_lt_of_cell? w13 _ h_)).trans h_
       refine hK.out _ _ ⟨mv Qx0.out, mv Qx1.out, mv Qx2.out, mv Qx3.out, mv Qx4.out, mv Qy0.out, mv Qy1.out, mv Qy2.out, mv Qy3.out, mv Qy4.out, mv Qz.out⟩ (fun hHeld => ?_)
       clear hK K mv
       refine norm_ (a' := ?_) ?_ ?_
       rotate_left
       ·show Act.put _ (some 139) _ = _
        simp only [Act.put, sP, i64_w, i32_w]
        rfl
       refine pP (i := 19) (N := some 140) (bm 21 1048575) rfl rfl HT_.out ?_
       refine pP (i := 20) (N := some 141) (bm 21 2097151) rfl rfl HT_.out ?_
       refine done_ (done_of HT_.out (by kernel_rfl)) ?_
       try go_wp2
       go_roundg kq
       case measure => omega
       case rel => exact ⟨i + 1, by first | rfl | (rw [w64o (by have := HK.out; have := HM.out.1; omega) (by have := HK.out; have := HM.out.1; omega)]; rfl), ⟨by have := HK.out; omega⟩, ⟨qB HZ⟩⟩
      | zero =>
       have hin : i = l1.length := by have := HK.out; omega
       clear HK
       subst hin
       have b1 : decide ((l1.length : Int) < (l1.length : Int)) = false := decide_eq_false (by omega)
       have b2 : decide (l1.length < l1.length) = false := decide_eq_false (by omega)
       have BV := aM (show w13.heap[gs]? = some (.cells #[.slice (some ⟨gr, 0, none⟩) U.length c, .int .i64 1] 57 (0, 0)) from BS.out)
       go_wp2_with (first | (go_at_call 13; (with_reducible refine (store_Version.calls gs _ 1 _ (blk_below BV.out (qB HZ))).mono ?_); rintro e w27 ⟨rfl, hb⟩; replace HZ := bS (qB HZ) hb; clear hb) | (go_at_call 7; (with_reducible refine (gradinelaw24_same.calls _).mono ?_); rintro e w7 ⟨rfl, hb⟩; replace HZ := bS (qB HZ) hb; clear hb))
       go_ret
       replace HB := aM (below_step HB.out (qB HZ))
       exact ⟨pE, HB.out⟩
end Sa
end Go.Proofs.Ytekmchjlnekliaa.Q
