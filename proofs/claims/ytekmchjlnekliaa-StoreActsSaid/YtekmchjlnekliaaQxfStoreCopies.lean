-- By wip/gprint.py (this session's), out of the kit's print.py.
import Derived.Test.YtekmchjlnekliaaQx0
import Derived.Test.YtekmchjlnekliaaQxfBankCopy
namespace Go.Proofs.Ytekmchjlnekliaa.Q
open Go.RowKit Go.Proofs.YtekmchjlnekliaaW.PrintWords Go.Proofs.YtekmchjlnekliaaW.PrintLast Go.Proofs.YtekmchjlnekliaaW.PrintMore
attribute [local go_sem] max2_int min2_int max_two min_two max_three min_three max_four min_four   -- for this text's walks alone
set_option linter.unusedVariables false
set_option linter.unusedSimpArgs false

/-! ### store_copies: function 19 -/
def store_copies.l0 : Nat → List (S43) → List (S43) → Int → Int → Option ((List (S43)))
 | 0, _, _, _, _ => none
 | k + 1, x3, x6, x7, x8 => if x8 < x7 then (if 0 ≤ x8 then (if x8 < (x6.length : Int) then ((bank_Copy.f ((rd_T43 x6 x8).f0.f0) ((rd_T43 x6 x8).f0.f1) ((rd_T43 x6 x8).f0.f2) ((rd_T43 x6 x8).f1) ((rd_T43 x6 x8).f2)).bind fun bt133 => (if x3.length < 1954687338268 then (store_copies.l0 k (x3 ++ [(⟨(⟨bt133.1, bt133.2.1, bt133.2.2.1⟩ : S40), bt133.2.2.2.1, bt133.2.2.2.2⟩ : S43)]) x6 x7 (wrap64 (x8 + 1))) else (none))) else (none)) else (none)) else (some x3)
def store_copies.f (k : Nat) (l0 : List (S43)) : Option ((List (S43))) := store_copies.l0 k ([] : List (S43)) l0 (l0.length : Int) 0
set_option maxHeartbeats 8000000 in
set_option maxRecDepth 100000 in
theorem store_copies.calls (k : Nat) (A0 : Option Addr) (c0 : Nat) (l0 : List (S43)) (r : List (S43)) (w : World) (hr0 : Kd.C k43 w A0 l0.length l0) (hc0 : l0.length ≤ c0) (h : store_copies.f k l0 = some r) :
  Calls Try.prog 19 #[.slice A0 l0.length c0] w fun e w' => ∃ v0_ : Value, e = .returned (v0_) ∧ Kd.S k43 43 w' w.heap.size (fun _ => True) v0_ r ∧ Below w.heap.size w w' := by
 have hu43 := Try.underlying43
 have HR0 := aM hr0
 have HC0 := aM hc0
 clear hr0 hc0
 have HB := aM (Below.refl w.heap.size w)
 have H : (store_copies.l0 k ([] : List (S43)) l0 (l0.length : Int) 0) = some r := h
 clear h
 have H' := aM H
 clear H
 go_enter Try.func19, Try.ntmps19
 go_wp2
 go_loopg [3, 8] k (fun kq v3 v8 w' => ∃ (x3_1 : List (S43)) (x8_1 : Int), v8 = .int .i64 x8_1 ∧ Aside0 (store_copies.l0 kq x3_1 l0 (l0.length : Int) x8_1 = some r) ∧ Aside0 (kq ≤ k) ∧ Aside0 (Kd.S k43 43 w' w.heap.size (fun _ => True) v3 x3_1) ∧ Aside0 (Below w.heap.size w w'))
 case atStart => exact ⟨(([] : List (S43))), (0), (pF), H', ⟨Nat.le_refl _⟩, ⟨pN⟩, ⟨qB HB⟩⟩
 case round =>
  clear H'
  obtain ⟨x3_1, x8_1, rfl, HA, HK1, zd, HB⟩ := hrel
  cases gk with
  | zero => exact absurd HA.out (by simp [store_copies.l0])
  | succ k1 =>
   have H := HA.out
   clear HA
   simp only [store_copies.l0] at H
   by_cases c2 : x8_1 < (l0.length : Int)
   rotate_left
   ·rw [if_neg c2] at H
    have c2b0 : decide (x8_1 < (l0.length : Int)) = false := decide_eq_false c2
    clear c2
    obtain rfl := Option.some.inj H
    go_wp2
    go_ret
    exact ⟨_, pE, by (with_reducible repeat (first | apply Kd.S_alloc | apply Kd.S_drewN | apply Kd.S_drew)); exact zd.out, qB HB⟩

   rw [if_pos c2] at H
   have c2b0 : decide (x8_1 < (l0.length : Int)) = true := decide_eq_true c2
   clear c2
   by_cases c3 : 0 ≤ x8_1
   rotate_left
   ·rw [if_neg c3] at H
    exact absurd H (by simp)
   rw [if_pos c3] at H
   have c3b0 : decide (0 ≤ x8_1) = true := decide_eq_true c3
   clear c3
   by_cases c4 : x8_1 < (l0.length : Int)
   rotate_left
   ·rw [if_neg c4] at H
    exact absurd H (by simp)
   rw [if_pos c4] at H
   have c4b0 : decide (x8_1 < (l0.length : Int)) = true := decide_eq_true c4
   clear c4
   replace H := Option.bind_eq_some_iff.mp H
   obtain ⟨⟨zi, zg, zh, zj, zk⟩, A50, H⟩ := H
   try dsimp only at H
   have A5 := aM A50
   clear A50
   by_cases c6 : x3_1.length < 1954687338268
   rotate_left
   ·rw [if_neg c6] at H
    exact absurd H (by simp)
   rw [if_pos c6] at H
   have LMc6 := aM c6
   clear c6
   obtain ⟨zm, zl⟩ : ∃ y_ : List (S43), y_ = (x3_1 ++ [(⟨(⟨zi, zg, zh⟩ : S40), zj, zk⟩ : S43)]) := ⟨_, rfl⟩
   replace H : (store_copies.l0 k1 zm l0 (l0.length : Int) (wrap64 (x8_1 + 1))) = some r := pH zl H
   have Ny142 := aM zl
   clear zl
   have H' := aM H
   clear H
   have p131 : 0 ≤ (x8_1 : Int) := of_decide_eq_true pD
   have q131 : x8_1 < (l0.length : Int) := of_decide_eq_true pD
   obtain ⟨ad131, A131_1, c131_1, A131_2, c131_2, e131, hx131_0, hx131_1, hx131_2, hx131_3, hx131_4, hl131_1, hi131_1, hl131_2, hi131_2⟩ := at_T43 HR0.out x8_1 p131 q131
   cases e131
   replace hx131_0 := (HB.out.cell (World.block_lt_of_cell? w _ hx131_0)).trans hx131_0
   replace hx131_1 := (HB.out.cell (World.block_lt_of_cell? w _ hx131_1)).trans hx131_1
   replace hx131_2 := (HB.out.cell (World.block_lt_of_cell? w _ hx131_2)).trans hx131_2
   replace hx131_3 := (HB.out.cell (World.block_lt_of_cell? w _ hx131_3)).trans hx131_3
   replace hx131_4 := (HB.out.cell (World.block_lt_of_cell? w _ hx131_4)).trans hx131_4
   have HR131_1 := aM hi131_1
   have HC131_1 := aM hl131_1
   clear hi131_1 hl131_1
   have HR131_2 := aM hi131_2
   have HC131_2 := aM hl131_2
   clear hi131_2 hl131_2
   replace p131 := eq_true p131
   replace q131 := eq_true q131
   go_wp2_with (first | ((with_reducible refine gate_dst (N := 5) rfl ?_); refine box_event ?hg (N := 5) ?hd (cs := #[.bool false, .slice none 0 0, .slice none 0 0, .int .u64 0, .int .i64 0]) (t := 43) ?hr ?_; (case hd => rfl); (case hg => rfl); (case hr => first | (go_simp; done) | (go_simp; rfl)); intro za hg w7 hbox hb; replace zd := aM (Kd.S_below (Kd.S_elderB (by (with_reducible repeat (first | apply Kd.S_alloc | apply Kd.S_drewN | apply Kd.S_drew)); exact zd.out) za (Nat.le_of_eq hg.symm)) hb); have zb := aM (hbox); have GW132 := gE (w := w) hg (qB HB); have zc := GW132; replace HB := bS (qB HB) hb; clear hb hbox hg; obtain ⟨hcz8_0, hcz8_1, hcz8_2, hcz8_3, hcz8_4, hfz8_0, hfz8_1, hfz8_2, hfz8_3, hfz8_4⟩ := blk5 zb.out) | ((with_reducible refine gate_callee (f := 20) rfl ?_); refine goesL_ (some 14) rfl rfl Try.func20 (by kernel_rfl) rfl #[.agg #[.bool ((rd_T43 l0 x8_1).f0.f0), .slice A131_1 ((rd_T43 l0 x8_1).f0.f1).length c131_1, .slice A131_2 ((rd_T43 l0 x8_1).f0.f2).length c131_2, .int .u64 ((rd_T43 l0 x8_1).f1), .int .i64 ((rd_T43 l0 x8_1).f2)]] rfl pA ?_; (with_reducible refine (bank_Copy.calls ((rd_T43 l0 x8_1).f0.f0) _ _ ((rd_T43 l0 x8_1).f0.f1) _ _ ((rd_T43 l0 x8_1).f0.f2) ((rd_T43 l0 x8_1).f1) ((rd_T43 l0 x8_1).f2) zi zg zh zj zk _ ?s1 ?s2 ?s3 ?s4 A5.out).mono ?_); (case s1 => exact Kd.C_below HR131_1.out (qB1 HB zc)); (case s2 => exact HC131_1.out); (case s3 => exact Kd.C_below HR131_2.out (qB1 HB zc)); (case s4 => exact HC131_2.out); rintro e w9 ⟨v135, v138, rfl, ho0, ho1, hb⟩; refine ⟨_, rfl, ?_⟩; replace zd := aM (Kd.S_mono (Kd.S_told (Kd.S_told (Kd.S_old (by (with_reducible repeat (first | apply Kd.S_alloc | apply Kd.S_drewN | apply Kd.S_drew)); exact (Kd.S_mono (Kd.S_far (p := ⟨za, 4, none⟩) (Kd.S_far (p := ⟨za, 3, none⟩) (Kd.S_far (p := ⟨za, 2, none⟩) (Kd.S_far (p := ⟨za, 1, none⟩) (Kd.S_far (p := ⟨za, 0, none⟩) (Kd.S_mono zd.out (fun k_ hk => (⟨hk, hk.2⟩ : _ ∧ k_ ≠ za))) (fun _ hk => hk.2) (.bool ((rd_T43 l0 x8_1).f0.f0))) (fun _ hk => hk.2) (.slice A131_1 ((rd_T43 l0 x8_1).f0.f1).length c131_1)) (fun _ hk => hk.2) (.slice A131_2 ((rd_T43 l0 x8_1).f0.f2).length c131_2)) (fun _ hk => hk.2) (.int .u64 ((rd_T43 l0 x8_1).f1))) (fun _ hk => hk.2) (.int .i64 ((rd_T43 l0 x8_1).f2))) (fun _ h_ => h_.1))) hb) (Kd.R_base ho0)) (Kd.R_base ho1)) (fun _ h_ => h_.1)); have ze := aM (Kd.R_lower ho0 (below_size (qB1 HB zc))); have zf := aM (Kd.R_lower ho1 (below_size (qB1 HB zc))); replace zb := aM (blk_below (g := za) (o := .cells #[.bool ((rd_T43 l0 x8_1).f0.f0), .slice A131_1 ((rd_T43 l0 x8_1).f0.f1).length c131_1, .slice A131_2 ((rd_T43 l0 x8_1).f0.f2).length c131_2, .int .u64 ((rd_T43 l0 x8_1).f1), .int .i64 ((rd_T43 l0 x8_1).f2)] 43 (0, 0)) (by (with_reducible repeat (first | apply bN | apply bD | apply bA)); refine blk_put (cs := #[.bool ((rd_T43 l0 x8_1).f0.f0), .slice A131_1 ((rd_T43 l0 x8_1).f0.f1).length c131_1, .slice A131_2 ((rd_T43 l0 x8_1).f0.f2).length c131_2, .int .u64 ((rd_T43 l0 x8_1).f1), .int .i64 0]) ?_ 4 _ rfl; (with_reducible repeat (first | apply bN | apply bD | apply bA)); refine blk_put (cs := #[.bool ((rd_T43 l0 x8_1).f0.f0), .slice A131_1 ((rd_T43 l0 x8_1).f0.f1).length c131_1, .slice A131_2 ((rd_T43 l0 x8_1).f0.f2).length c131_2, .int .u64 0, .int .i64 0]) ?_ 3 _ rfl; (with_reducible repeat (first | apply bN | apply bD | apply bA)); refine blk_put (cs := #[.bool ((rd_T43 l0 x8_1).f0.f0), .slice A131_1 ((rd_T43 l0 x8_1).f0.f1).length c131_1, .slice none 0 0, .int .u64 0, .int .i64 0]) ?_ 2 _ rfl; (with_reducible repeat (first | apply bN | apply bD | apply bA)); refine blk_put (cs := #[.bool ((rd_T43 l0 x8_1).f0.f0), .slice none 0 0, .slice none 0 0, .int .u64 0, .int .i64 0]) ?_ 1 _ rfl; (with_reducible repeat (first | apply bN | apply bD | apply bA)); refine blk_put (cs := #[.bool false, .slice none 0 0, .slice none 0 0, .int .u64 0, .int .i64 0]) ?_ 0 _ rfl; (with_reducible repeat (first | apply bN | apply bD | apply bA)); exact zb.out) hb); replace HB := bS (qB1 HB zc) hb; (try clear hb); (try clear hk); (try clear hi); (try clear ho0); (try clear ho1); obtain ⟨zn, zo, eo11⟩ := Kd.R_slice ze.out; subst eo11; obtain ⟨zp, zq, eo12⟩ := Kd.R_slice zf.out; subst eo12) | ((with_reducible refine gate_builtin (b := .append) (xs := #[.tmp 12, .tmp 15]) rfl ?_); at_builtin; refine Kd.S_append k43 (w0 := w) w.heap.size rfl (.tmp 12) (.tmp 15) 22 43 (.agg #[(.bool false), (.slice none 0 0), (.slice none 0 0), (.int .u64 0), (.int .i64 0)]) 72 rfl Try.underlying22 info43 rfl (by decide) (by omega) u3 x3_1 (⟨(⟨zi, zg, zh⟩ : S40), zj, zk⟩ : S43) [.bool zi, .slice zn zg.length zo, .slice zp zh.length zq, .int .u64 zj, .int .i64 zk] (fun k_ => k_ ≠ za) (fun k_ => some k_ = (.slice zn zg.length zo : Value).ownBlock ∨ some k_ = (.slice zp zh.length zq : Value).ownBlock) rfl rfl ?aP (fun k_ hk_ => hk_.elim (fun h_ => ((Kd.R_mono (ok' := fun k_ => ((fun k_ => k_ ≠ za)) k_ ∧ some k_ ≠ (u3 : Value).ownBlock) (Kd.R_types (Kd.R_apart' (ze.out) (Kd.S_typed zd.out) (by decide)) zb.out (by decide)) (fun k_ hk => ⟨hk.2, hk.1.2⟩))).1 k_ h_.symm) (fun h_ => ((Kd.R_mono (ok' := fun k_ => ((fun k_ => k_ ≠ za)) k_ ∧ some k_ ≠ (u3 : Value).ownBlock) (Kd.R_types (Kd.R_apart' (zf.out) (Kd.S_typed zd.out) (by decide)) zb.out (by decide)) (fun k_ hk => ⟨hk.2, hk.1.2⟩))).1 k_ h_.symm)) ?aF ?aO ?aB ?aS ?aL ?_; (case aP => exact k43_mkM _ _ _ (⟨(⟨zi, zg, zh⟩ : S40), zj, zk⟩ : S43) (Kd.R_mono (Kd.R_tight rfl (Kd.R_mono (ok' := fun k_ => ((fun k_ => k_ ≠ za)) k_ ∧ some k_ ≠ (u3 : Value).ownBlock) (Kd.R_types (Kd.R_apart' (ze.out) (Kd.S_typed zd.out) (by decide)) zb.out (by decide)) (fun k_ hk => ⟨hk.2, hk.1.2⟩))) (fun _ h_ => Or.inl h_)) (Kd.R_mono (Kd.R_tight rfl (Kd.R_mono (ok' := fun k_ => ((fun k_ => k_ ≠ za)) k_ ∧ some k_ ≠ (u3 : Value).ownBlock) (Kd.R_types (Kd.R_apart' (zf.out) (Kd.S_typed zd.out) (by decide)) zb.out (by decide)) (fun k_ hk => ⟨hk.2, hk.1.2⟩))) (fun _ h_ => Or.inr (h_)))); (case aB => exact (qB1 HB zc)); (case aF => exact (fun k_ hk => Kd.freshB (g := za) (pK zb.out) k_ hk)); (case aO => exact (by (with_reducible repeat (first | apply Kd.S_alloc | apply Kd.S_drewN | apply Kd.S_drew)); exact Kd.S_mono zd.out (fun k_ hk => ⟨hk.1.1.2, fun e_ => e_.elim (fun h_ => hk.1.2 h_) (fun h_ => hk.2 h_)⟩))); (case aS => exact (below_size (qB1 HB zc))); (case aL => have := LMc6.out; omega); intro v143 w10 ho hb hg hat; rw [← Ny142.out] at ho; replace zb := aM (blk_grown (g := za) (pK zb.out) hg (Kd.S_away zd.out (fun _ hk => hk.1.1.2))); replace HB := aM (hb); have HO144 := aM (ho); clear zd ze zf; clear ho hb hg hat))
   go_roundg k1
   case measure => have := HK1.out; omega
   case rel => exact ⟨(zm), (wrap64 (x8_1 + 1)), (pF), H', ⟨by have := HK1.out; omega⟩, ⟨by (with_reducible repeat (first | apply Kd.S_alloc | apply Kd.S_drewN | apply Kd.S_drew)); exact Kd.S_mono HO144.out (fun _ hk => trivial)⟩, ⟨qB1 HB zc⟩⟩
end Go.Proofs.Ytekmchjlnekliaa.Q
