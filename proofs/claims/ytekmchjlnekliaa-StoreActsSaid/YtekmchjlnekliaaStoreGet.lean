/- The store's methods: what they compute, and that they compute it. -/
import Derived.Test.YtekmchjlnekliaaQxfBankCopied
import Derived.Test.YtekmchjlnekliaaQxfBankCopy
import Derived.Test.YtekmchjlnekliaaQxfLaw24Many
import Derived.Test.YtekmchjlnekliaaQxfPlainLong
import Derived.Test.YtekmchjlnekliaaQxfPlainWide
import Derived.Test.YtekmchjlnekliaaQxfRef07Same
import Derived.Test.YtekmchjlnekliaaQxfRef07Words
import Derived.Test.YtekmchjlnekliaaQxfRef18All
import Derived.Test.YtekmchjlnekliaaQxfRef18Same
import Derived.Test.YtekmchjlnekliaaQxfRef19Has
import Derived.Test.YtekmchjlnekliaaQxfStoreCopies
namespace Go.Proofs.Ytekmchjlnekliaa.Q
open Go.RowKit Go.Proofs.YtekmchjlnekliaaW.PrintWords Go.Proofs.YtekmchjlnekliaaW.PrintLast Go.Proofs.YtekmchjlnekliaaW.PrintMore
attribute [local go_sem] max2_int min2_int max_two min_two max_three min_three max_four min_four
set_option linter.unusedVariables false
set_option linter.unusedSimpArgs false
def store_Get.l0 : Nat → List S43 → List Int → List S43 → Int → Option (List S43 × Int)
 | 0, _, _, _, _ => none
 | k + 1, V, l1, out, x => if x < (l1.length : Int) then (if 0 ≤ x then (if rd l1 x < 0 then some ([], 11) else if (V.length : Int) ≤ rd l1 x then some ([], 11) else (bank_Copy.f (rd_T43 V (rd l1 x)).f0.f0 (rd_T43 V (rd l1 x)).f0.f1 (rd_T43 V (rd l1 x)).f0.f2 (rd_T43 V (rd l1 x)).f1 (rd_T43 V (rd l1 x)).f2).bind fun b => if out.length < 1954687338268 then store_Get.l0 k V l1 (out ++ [(⟨(⟨b.1, b.2.1, b.2.2.1⟩ : S40), b.2.2.2.1, b.2.2.2.2⟩ : S43)]) (wrap64 (x + 1)) else none) else none) else some (out, 0)
def store_Get.f (k : Nat) (V : List S43) (l1 : List Int) : Option (List S43 × Int) := store_Get.l0 k V l1 [] 0
set_option maxHeartbeats 8000000 in
set_option maxRecDepth 100000 in
theorem store_Get.calls (k : Nat) (gs : Nat) (A : Option Addr) (c : Nat) (V : List S43) (ver : Int) (A1 : Option Addr) (c1 : Nat) (l1 : List Int) (r1 : List S43) (r2 : Int) (w : World) (hst : w.heap[gs]? = some (.cells #[.slice A V.length c, .int .i64 ver] 57 (0, 0))) (hrV : Kd.C k43 w A V.length V) (hr1 : Kd.C (Kd.int .i64) w A1 l1.length l1) (h : store_Get.f k V l1 = some (r1, r2)) :
  Calls Try.prog 10 #[.pointer (some ⟨gs, 0, none⟩), .slice A1 l1.length c1] w fun e w' => ∃ v0_ : Value, e = .returned (.tuple #[v0_, .int .i64 r2]) ∧ Kd.S k43 43 w' w.heap.size (fun _ => True) v0_ r1 ∧ Below w.heap.size w w' := by
 have hu43 := Try.underlying43
 have hu57 := Try.underlying57
 have HS := aM hst
 have HV := aM hrV
 have HR1 := aM hr1
 clear hst hrV hr1
 have HB := aM (Below.refl w.heap.size w)
 have H' := aM (show store_Get.l0 k V l1 [] 0 = some (r1, r2) from h)
 clear h
 go_enter Try.func10, Try.ntmps10
 go_wp2
 go_loopg [6, 13] k (fun kq v6 v13 w' => ∃ (x6_1 : List S43) (x13_1 : Int), v13 = .int .i64 x13_1 ∧ Aside0 (store_Get.l0 kq V l1 x6_1 x13_1 = some (r1, r2)) ∧ Aside0 (kq ≤ k) ∧ Aside0 (Kd.S k43 43 w' w.heap.size (fun _ => True) v6 x6_1) ∧ Aside0 (Below w.heap.size w w'))
 case atStart => exact ⟨([] : List S43), (0), (pF), H', ⟨Nat.le_refl _⟩, ⟨pN⟩, ⟨qB HB⟩⟩
 case round =>
  clear H'
  obtain ⟨x6_1, x13_1, rfl, HA, HK1, zd, HB⟩ := hrel
  cases gk with
  | zero => exact absurd HA.out (by simp [store_Get.l0])
  | succ k1 =>
   have H := HA.out
   clear HA
   simp only [store_Get.l0] at H
   have hczs := blk2 (blk_below HS.out HB.out)
   by_cases c2 : x13_1 < (l1.length : Int)
   rotate_left
   ·rw [if_neg c2] at H
    have c2b0 : decide (x13_1 < (l1.length : Int)) = false := decide_eq_false c2
    clear c2
    simp only [Option.some.injEq, Prod.mk.injEq] at H
    obtain ⟨rfl, rfl⟩ := H
    go_wp2
    go_ret2
    exact ⟨_, pE, by (with_reducible repeat (first | apply Kd.S_alloc | apply Kd.S_drewN | apply Kd.S_drew)); exact zd.out, qB HB⟩
   rw [if_pos c2] at H
   have c2b0 : decide (x13_1 < (l1.length : Int)) = true := decide_eq_true c2
   by_cases c3 : 0 ≤ x13_1
   rotate_left
   ·rw [if_neg c3] at H
    exact absurd H (by simp)
   rw [if_pos c3] at H
   have c3b0 : decide (0 ≤ x13_1) = true := decide_eq_true c3
   obtain ⟨ad1, e1, hw1⟩ := Kd.at_int HR1.out x13_1 c3 c2
   cases e1
   have hx1 := (HB.out.cell (World.block_lt_of_cell? w _ hw1)).trans hw1
   by_cases c5 : rd l1 x13_1 < 0
   ·rw [if_pos c5] at H
    have c5b0 : decide (rd l1 x13_1 < 0) = true := decide_eq_true c5
    simp only [Option.some.injEq, Prod.mk.injEq] at H
    obtain ⟨rfl, rfl⟩ := H
    go_wp2
    go_ret2
    exact ⟨_, pE, pN, qB HB⟩
   rw [if_neg c5] at H
   have c5b0 : decide (rd l1 x13_1 < 0) = false := decide_eq_false c5
   by_cases c6 : (V.length : Int) ≤ rd l1 x13_1
   ·rw [if_pos c6] at H
    have c6b0 : decide (rd l1 x13_1 ≥ (V.length : Int)) = true := decide_eq_true c6
    have c6b1 : decide ((V.length : Int) ≤ rd l1 x13_1) = true := decide_eq_true c6
    simp only [Option.some.injEq, Prod.mk.injEq] at H
    obtain ⟨rfl, rfl⟩ := H
    go_wp2
    go_ret2
    exact ⟨_, pE, pN, qB HB⟩
   rw [if_neg c6] at H
   have c6b0 : decide (rd l1 x13_1 ≥ (V.length : Int)) = false := decide_eq_false c6
   have c6b1 : decide ((V.length : Int) ≤ rd l1 x13_1) = false := decide_eq_false c6
   replace H := Option.bind_eq_some_iff.mp H
   obtain ⟨⟨zi, zg, zh, zj, zk⟩, A50, H⟩ := H
   try dsimp only at H
   have A5 := aM A50
   clear A50
   by_cases c7 : x6_1.length < 1954687338268
   rotate_left
   ·rw [if_neg c7] at H
    exact absurd H (by simp)
   rw [if_pos c7] at H
   have LMc7 := aM c7
   clear c7
   obtain ⟨zm, zl⟩ : ∃ y_ : List S43, y_ = (x6_1 ++ [(⟨(⟨zi, zg, zh⟩ : S40), zj, zk⟩ : S43)]) := ⟨_, rfl⟩
   replace H : store_Get.l0 k1 V l1 zm (wrap64 (x13_1 + 1)) = some (r1, r2) := pH zl H
   have Ny := aM zl
   clear zl
   have H' := aM H
   clear H
   have p2 : 0 ≤ rd l1 x13_1 := by omega
   have q2 : rd l1 x13_1 < (V.length : Int) := by omega
   obtain ⟨ad2, B1, b1, B2, b2, e2, hy0, hy1, hy2, hy3, hy4, hl1, hi1, hl2, hi2⟩ := at_T43 HV.out (rd l1 x13_1) p2 q2
   cases e2
   replace hy0 := (HB.out.cell (World.block_lt_of_cell? w _ hy0)).trans hy0
   replace hy1 := (HB.out.cell (World.block_lt_of_cell? w _ hy1)).trans hy1
   replace hy2 := (HB.out.cell (World.block_lt_of_cell? w _ hy2)).trans hy2
   replace hy3 := (HB.out.cell (World.block_lt_of_cell? w _ hy3)).trans hy3
   replace hy4 := (HB.out.cell (World.block_lt_of_cell? w _ hy4)).trans hy4
   have HI1 := aM hi1
   have HL1 := aM hl1
   have HI2 := aM hi2
   have HL2 := aM hl2
   clear hi1 hl1 hi2 hl2
   go_wp2_with (first | ((with_reducible refine gate_callee (f := 20) rfl ?_); refine goesL_ (some 36) rfl rfl Try.func20 (by kernel_rfl) rfl #[.agg #[.bool ((rd_T43 V (rd l1 x13_1)).f0.f0), .slice B1 ((rd_T43 V (rd l1 x13_1)).f0.f1).length b1, .slice B2 ((rd_T43 V (rd l1 x13_1)).f0.f2).length b2, .int .u64 ((rd_T43 V (rd l1 x13_1)).f1), .int .i64 ((rd_T43 V (rd l1 x13_1)).f2)]] rfl pA ?_; (with_reducible refine (bank_Copy.calls ((rd_T43 V (rd l1 x13_1)).f0.f0) _ _ ((rd_T43 V (rd l1 x13_1)).f0.f1) _ _ ((rd_T43 V (rd l1 x13_1)).f0.f2) ((rd_T43 V (rd l1 x13_1)).f1) ((rd_T43 V (rd l1 x13_1)).f2) zi zg zh zj zk _ ?s1 ?s2 ?s3 ?s4 A5.out).mono ?_); (case s1 => exact Kd.C_below HI1.out (qB HB)); (case s2 => exact HL1.out); (case s3 => exact Kd.C_below HI2.out (qB HB)); (case s4 => exact HL2.out); rintro e w9 ⟨v135, v138, rfl, ho0, ho1, hb⟩; refine ⟨_, rfl, ?_⟩; replace zd := aM (Kd.S_mono (Kd.S_told (Kd.S_told (Kd.S_old (by (with_reducible repeat (first | apply Kd.S_alloc | apply Kd.S_drewN | apply Kd.S_drew)); exact zd.out) hb) (Kd.R_base ho0)) (Kd.R_base ho1)) (fun _ h_ => h_.1)); have ze := aM (Kd.R_lower ho0 (below_size (qB HB))); have zf := aM (Kd.R_lower ho1 (below_size (qB HB))); replace HB := bS (qB HB) hb; clear hb ho0 ho1; obtain ⟨zn, zo, eo11⟩ := Kd.R_slice ze.out; subst eo11; obtain ⟨zp, zq, eo12⟩ := Kd.R_slice zf.out; subst eo12) | ((with_reducible refine gate_builtin (b := .append) (xs := #[.tmp 28, .tmp 37]) rfl ?_); at_builtin; refine Kd.S_append k43 (w0 := w) w.heap.size rfl (.tmp 28) (.tmp 37) 22 43 (.agg #[(.bool false), (.slice none 0 0), (.slice none 0 0), (.int .u64 0), (.int .i64 0)]) 72 rfl Try.underlying22 info43 rfl (by decide) (by omega) u6 x6_1 (⟨(⟨zi, zg, zh⟩ : S40), zj, zk⟩ : S43) [.bool zi, .slice zn zg.length zo, .slice zp zh.length zq, .int .u64 zj, .int .i64 zk] (fun k_ => True) (fun k_ => some k_ = (.slice zn zg.length zo : Value).ownBlock ∨ some k_ = (.slice zp zh.length zq : Value).ownBlock) rfl rfl ?aP (fun k_ hk_ => hk_.elim (fun h_ => ((Kd.R_mono (ok' := fun k_ => True ∧ some k_ ≠ (u6 : Value).ownBlock) (Kd.R_apart' (ze.out) (Kd.S_typed zd.out) (by decide)) (fun k_ hk => ⟨trivial, hk.2⟩))).1 k_ h_.symm) (fun h_ => ((Kd.R_mono (ok' := fun k_ => True ∧ some k_ ≠ (u6 : Value).ownBlock) (Kd.R_apart' (zf.out) (Kd.S_typed zd.out) (by decide)) (fun k_ hk => ⟨trivial, hk.2⟩))).1 k_ h_.symm)) ?aF ?aO ?aB ?aS ?aL ?_; (case aP => exact k43_mkM _ _ _ (⟨(⟨zi, zg, zh⟩ : S40), zj, zk⟩ : S43) (Kd.R_mono (Kd.R_tight rfl (Kd.R_mono (ok' := fun k_ => True ∧ some k_ ≠ (u6 : Value).ownBlock) (Kd.R_apart' (ze.out) (Kd.S_typed zd.out) (by decide)) (fun k_ hk => ⟨trivial, hk.2⟩))) (fun _ h_ => Or.inl h_)) (Kd.R_mono (Kd.R_tight rfl (Kd.R_mono (ok' := fun k_ => True ∧ some k_ ≠ (u6 : Value).ownBlock) (Kd.R_apart' (zf.out) (Kd.S_typed zd.out) (by decide)) (fun k_ hk => ⟨trivial, hk.2⟩))) (fun _ h_ => Or.inr (h_)))); (case aB => exact (qB HB)); (case aF => exact (fun k_ hk => trivial)); (case aO => exact (by (with_reducible repeat (first | apply Kd.S_alloc | apply Kd.S_drewN | apply Kd.S_drew)); exact Kd.S_mono zd.out (fun k_ hk => ⟨trivial, fun e_ => e_.elim (fun h_ => hk.1.2 h_) (fun h_ => hk.2 h_)⟩))); (case aS => exact (below_size (qB HB))); (case aL => have := LMc7.out; omega); intro v143 w10 ho hb hg hat; rw [← Ny.out] at ho; replace HB := aM (hb); have HO144 := aM (ho); clear zd ze zf; clear ho hb hg hat))
   go_roundg k1
   case measure => have := HK1.out; omega
   case rel => exact ⟨(zm), (wrap64 (x13_1 + 1)), (pF), H', ⟨by have := HK1.out; omega⟩, ⟨by (with_reducible repeat (first | apply Kd.S_alloc | apply Kd.S_drewN | apply Kd.S_drew)); exact Kd.S_mono HO144.out (fun _ hk => trivial)⟩, ⟨qB HB⟩⟩
end Go.Proofs.Ytekmchjlnekliaa.Q
