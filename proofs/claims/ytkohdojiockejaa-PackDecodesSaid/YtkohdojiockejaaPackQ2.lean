/- The reference's reader: a command. -/
import Derived.Test.YtkohdojiockejaaQxfPlainBytes
import Derived.Test.YtkohdojiockejaaQxfLaw45Many
import Derived.Test.YtkohdojiockejaaQxfRef45Encode
import Derived.Test.YtkohdojiockejaaPackBits
import Derived.Test.YtkohdojiockejaaPackW0
import Derived.Test.YtkohdojiockejaaPackW1
import Derived.Test.YtkohdojiockejaaPackW2
import Derived.Test.YtkohdojiockejaaPackW3
import Derived.Test.YtkohdojiockejaaPackR0
import Derived.Test.YtkohdojiockejaaPackR1
import Derived.Test.YtkohdojiockejaaPackR4
import Derived.Test.YtkohdojiockejaaPackR5
import Derived.Test.YtkohdojiockejaaPackLaw2
import Derived.Test.YtkohdojiockejaaPackQ0
import Derived.Test.YtkohdojiockejaaPackQ1
namespace Go.Proofs.Ytkohdojiockejaa.Q
open Go.RowKit Go.Proofs.YtkohdojiockejaaW.PrintWords Go.Proofs.YtkohdojiockejaaW.PrintLast Go.Proofs.YtkohdojiockejaaW.PrintMore
attribute [local go_sem] max2_int min2_int max_two min_two max_three min_three max_four min_four
set_option linter.unusedVariables false
set_option linter.unusedSimpArgs false
namespace Pk
def tsn : Nat → RS → List S71 × RS
  | 0, s => ([], s)
  | k + 1, s => (⟨(nq s).1, (nq (nq s).2).1, (ws (nq (nq s).2).2).1⟩ :: (tsn k (ws (nq (nq s).2).2).2).1, (tsn k (ws (nq (nq s).2).2).2).2)
/-- A command read. -/
def cq (s : RS) : S45 × RS :=
  let q0 := nq s
  let q1 := nq q0.2
  let q2 := nq q1.2
  let q3 := lq q2.2
  let q4 := nq q3.2
  let q5 := nq q4.2
  let q6 := nq q5.2
  let q7 := nq q6.2
  let q8 := nq q7.2
  let q9 := nq q8.2
  let q10 := nq q9.2
  let q11 := nq q10.2
  let q12 := bq q11.2
  let q13 := lq q12.2
  let q14 := lq q13.2
  let q15 := mq 256 q14.2
  let q16 := tsn q15.1.toNat q15.2
  let q17 := bq q16.2
  (⟨q0.1, q1.1, q2.1, q3.1, ⟨q4.1, q5.1, q6.1, q7.1, q8.1, q9.1, q10.1, q11.1, q12.1, q13.1⟩, q14.1, q16.1, q17.1⟩, q17.2)
structure CQ (W w w' : World) (gr g2 gc : Nat) (cs : Array Value) (s : RS) : Prop where
  src : Rst W w' gr s
  fr : Fr [63] w w'
  res : w'.heap[g2]? = some (.cells (c45 [] nilv [] false nilv nilv nilv false) 45 (0, 0))
  com : w'.heap[gc]? = some (.cells cs 45 (0, 0))
  ge2 : w.heap.size ≤ g2
  gec : w.heap.size ≤ gc
  ne : g2 ≠ gc
  le : W.heap.size ≤ w.heap.size
section
variable {W w w1 w2 : World} {gr g2 gc : Nat} {cs : Array Value} {s s' : RS}
theorem CQ.call (h : CQ W w w1 gr g2 gc cs s) (hs : Rst W w2 gr s') (hf : Fr [63] w1 w2) : CQ W w w2 gr g2 gc cs s' :=
  ⟨hs, h.fr.trans hf, hf.blk h.res (by decide), hf.blk h.com (by decide), h.ge2, h.gec, h.ne, h.le⟩
theorem CQ.fr45 (h : CQ W w w1 gr g2 gc cs s) (j : Nat) (v : Value) : Fr [45] w1 (w1.setCell ⟨gc, j, none⟩ v) := Fr.set (Fr.refl [45] w1) h.com (by simp)
theorem CQ.put (h : CQ W w w1 gr g2 gc cs s) (j : Nat) (v : Value) {cs' : Array Value} (h1 : v.oneCell' = true) (he : cs.setIfInBounds j v = cs') : CQ W w (w1.setCell ⟨gc, j, none⟩ v) gr g2 gc cs' s := by
  subst he
  exact ⟨h.src.fr (Q := [45]) (h.fr45 j v) (by simp) (by simp) (below_set h.src.bel (Nat.le_trans h.le h.gec)), h.fr.low (bel_put h.gec), blk_far (p := ⟨gc, j, none⟩) h.res h.ne v, blk_put h.com j v rfl, h.ge2, h.gec, h.ne, h.le⟩
theorem CQ.R {α : Type} {d : Kd α} {e b : Nat} {ok : Nat → Prop} {u : Value} {xs : List α} (h : CQ W w w1 gr g2 gc cs s) (j : Nat) (v : Value) (hr : d.R e w1 b ok u xs) (hq : ∀ q ∈ e :: d.E, q ∉ [45]) : d.R e (w1.setCell ⟨gc, j, none⟩ v) b ok u xs := R_fr hr (h.fr45 j v) hq
theorem CQ.below (h : CQ W w w1 gr g2 gc cs s) (hb : Below w1.heap.size w1 w2) : CQ W w w2 gr g2 gc cs s :=
  ⟨h.src.fr (Q := []) (Fr.of_below hb) (by simp) (by simp) (below_step h.src.bel hb), h.fr.trans (Fr.of_below hb), blk_below h.res hb, blk_below h.com hb, h.ge2, h.gec, h.ne, h.le⟩
theorem CQ.at_ (h : CQ W w w1 gr g2 gc cs s) (j : Nat) {v : Value} (hv : cs[j]? = some v) : w1.cell? ⟨gc, j, none⟩ = some v ∧ w1.frozen? ⟨gc, j, none⟩ = false := ⟨(blk_cell h.com j).trans hv, blk_frozen h.com j⟩
theorem CQ.row {α : Type} {d : Kd α} {e : Nat} {ok : Nat → Prop} {v : Value} {xs : List α} (h : CQ W w w1 gr g2 gc cs s) (hr : d.R e w1 w.heap.size ok v xs) (hg : w1.grownBy w2 v.ownBlock) (hb : Below w.heap.size w1 w2) (h5 : e ≠ 5) (h63 : e ≠ 63) (h45 : e ≠ 45) : CQ W w w2 gr g2 gc cs s :=
  ⟨h.src.row hr hg hb h.le h5 h63, h.fr.low hb, blk_grown (g := g2) h.res hg (Kd.R_ne hr h.res h45), blk_grown (g := gc) h.com hg (Kd.R_ne hr h.com h45), h.ge2, h.gec, h.ne, h.le⟩
theorem CQ.fin (h : CQ W w w1 gr g2 gc cs s) (rs : Array Value) : Fr [45] w1 (w1.setRow g2 rs) ∧ Rst W (w1.setRow g2 rs) gr s ∧ Fr [63] w (w1.setRow g2 rs) := by
  have hf : Fr [45] w1 (w1.setRow g2 rs) := Fr.setRow h.res (by simp)
  exact ⟨hf, h.src.fr (Q := [45]) hf (by simp) (by simp) (bel_row h.src.bel (Nat.le_trans h.le h.ge2) rs), h.fr.low (bel_row (Below.refl _ _) h.ge2 rs)⟩
/-- A block of the command's own is set. -/
theorem CQ.tmp (h : CQ W w w1 gr g2 gc cs s) {gt j : Nat} {v : Value} {rs : Array Value} (ht : w1.heap[gt]? = some (.cells rs 71 (0, 0))) (hg : w.heap.size ≤ gt) : CQ W w (w1.setCell ⟨gt, j, none⟩ v) gr g2 gc cs s := by
  have hf : Fr [71] w1 (w1.setCell ⟨gt, j, none⟩ v) := Fr.set (Fr.refl [71] w1) ht (by simp)
  exact ⟨h.src.fr (Q := [71]) hf (by simp) (by simp) (below_set h.src.bel (Nat.le_trans h.le hg)), h.fr.low (bel_put hg), hf.blk h.res (by decide), hf.blk h.com (by decide), h.ge2, h.gec, h.ne, h.le⟩
theorem CQ.tmpRow (h : CQ W w w1 gr g2 gc cs s) {gt : Nat} {rs rs' : Array Value} (ht : w1.heap[gt]? = some (.cells rs 71 (0, 0))) (hg : w.heap.size ≤ gt) : CQ W w (w1.setRow gt rs') gr g2 gc cs s := by
  have hf : Fr [71] w1 (w1.setRow gt rs') := Fr.setRow ht (by simp)
  exact ⟨h.src.fr (Q := [71]) hf (by simp) (by simp) (bel_row h.src.bel (Nat.le_trans h.le hg) rs'), h.fr.low (bel_row (Below.refl _ _) hg rs'), hf.blk h.res (by decide), hf.blk h.com (by decide), h.ge2, h.gec, h.ne, h.le⟩
theorem fr71 {gt j : Nat} {v : Value} {rs : Array Value} (ht : w1.heap[gt]? = some (.cells rs 71 (0, 0))) : Fr [71] w1 (w1.setCell ⟨gt, j, none⟩ v) := Fr.set (Fr.refl [71] w1) ht (by simp)
end
theorem R_aside {α : Type} {d : Kd α} {e b : Nat} {v : Value} {xs : List α} {w w' : World} {g : Nat} (h : d.R e w b (fun k => k ≠ g) v xs) (hm : ∀ k, k ≠ g → w'.heap[k]? = w.heap[k]?) : d.R e w' b (fun k => k ≠ g) v xs := Kd.R_move h hm
theorem R_put {α : Type} {d : Kd α} {e b : Nat} {v : Value} {xs : List α} {w : World} {g : Nat} (h : d.R e w b (fun k => k ≠ g) v xs) (j : Nat) (u : Value) : d.R e (w.setCell ⟨g, j, none⟩ u) b (fun k => k ≠ g) v xs := R_aside h (fun k hk => Below.heap_setCell w ⟨g, j, none⟩ u k hk)
theorem info71s : (Try.prog.info? 71).map (·.size) = some 3 := by kernel_rfl
set_option maxHeartbeats 32000000 in
set_option maxRecDepth 100000 in
theorem qcommand.calls (gr : Nat) (s : RS) (W w : World) (h : Rst W w gr s) : Calls Try.prog 23 #[.pointer (some ⟨gr, 0, none⟩)] w fun e w' => ∃ v, e = .returned v ∧ (∃ cs : List Value, v = .agg cs.toArray ∧ k45.M w' w.heap.size (fun _ => True) (cq s).1 cs) ∧ Rst W w' gr (cq s).2 ∧ Fr [63] w w' := by
 have hu45 := Try.underlying45
 have hu42 := Try.underlying42
 have hu71 := Try.underlying71
 have HS := aM h
 have HW := aM h.bel.size
 clear h
 unfold cq
 dsimp only
 have hc0 := fun w_ => qnumber.calls gr s W w_
 rcases hq0 : nq s with ⟨a0, s1⟩
 rw [hq0] at hc0
 dsimp only at hc0 ⊢
 clear hq0
 have HC0 := aM hc0
 clear hc0
 have hc1 := fun w_ => qnumber.calls gr s1 W w_
 rcases hq1 : nq s1 with ⟨a1, s2⟩
 rw [hq1] at hc1
 dsimp only at hc1 ⊢
 clear hq1
 have HC1 := aM hc1
 clear hc1
 have hc2 := fun w_ => qnumber.calls gr s2 W w_
 rcases hq2 : nq s2 with ⟨a2, s3⟩
 rw [hq2] at hc2
 dsimp only at hc2 ⊢
 clear hq2
 have HC2 := aM hc2
 clear hc2
 have hc3 := fun w_ => qlist.calls gr s3 W w_
 rcases hq3 : lq s3 with ⟨a3, s4⟩
 rw [hq3] at hc3
 dsimp only at hc3 ⊢
 clear hq3
 have HC3 := aM hc3
 clear hc3
 have hc4 := fun w_ => qnumber.calls gr s4 W w_
 rcases hq4 : nq s4 with ⟨a4, s5⟩
 rw [hq4] at hc4
 dsimp only at hc4 ⊢
 clear hq4
 have HC4 := aM hc4
 clear hc4
 have hc5 := fun w_ => qnumber.calls gr s5 W w_
 rcases hq5 : nq s5 with ⟨a5, s6⟩
 rw [hq5] at hc5
 dsimp only at hc5 ⊢
 clear hq5
 have HC5 := aM hc5
 clear hc5
 have hc6 := fun w_ => qnumber.calls gr s6 W w_
 rcases hq6 : nq s6 with ⟨a6, s7⟩
 rw [hq6] at hc6
 dsimp only at hc6 ⊢
 clear hq6
 have HC6 := aM hc6
 clear hc6
 have hc7 := fun w_ => qnumber.calls gr s7 W w_
 rcases hq7 : nq s7 with ⟨a7, s8⟩
 rw [hq7] at hc7
 dsimp only at hc7 ⊢
 clear hq7
 have HC7 := aM hc7
 clear hc7
 have hc8 := fun w_ => qnumber.calls gr s8 W w_
 rcases hq8 : nq s8 with ⟨a8, s9⟩
 rw [hq8] at hc8
 dsimp only at hc8 ⊢
 clear hq8
 have HC8 := aM hc8
 clear hc8
 have hc9 := fun w_ => qnumber.calls gr s9 W w_
 rcases hq9 : nq s9 with ⟨a9, s10⟩
 rw [hq9] at hc9
 dsimp only at hc9 ⊢
 clear hq9
 have HC9 := aM hc9
 clear hc9
 have hc10 := fun w_ => qnumber.calls gr s10 W w_
 rcases hq10 : nq s10 with ⟨a10, s11⟩
 rw [hq10] at hc10
 dsimp only at hc10 ⊢
 clear hq10
 have HC10 := aM hc10
 clear hc10
 have hc11 := fun w_ => qnumber.calls gr s11 W w_
 rcases hq11 : nq s11 with ⟨a11, s12⟩
 rw [hq11] at hc11
 dsimp only at hc11 ⊢
 clear hq11
 have HC11 := aM hc11
 clear hc11
 have hc12 := fun w_ => qtruth.calls gr s12 W w_
 rcases hq12 : bq s12 with ⟨a12, s13⟩
 rw [hq12] at hc12
 dsimp only at hc12 ⊢
 clear hq12
 have HC12 := aM hc12
 clear hc12
 have hc13 := fun w_ => qlist.calls gr s13 W w_
 rcases hq13 : lq s13 with ⟨a13, s14⟩
 rw [hq13] at hc13
 dsimp only at hc13 ⊢
 clear hq13
 have HC13 := aM hc13
 clear hc13
 have hc14 := fun w_ => qlist.calls gr s14 W w_
 rcases hq14 : lq s14 with ⟨a14, s15⟩
 rw [hq14] at hc14
 dsimp only at hc14 ⊢
 clear hq14
 have HC14 := aM hc14
 clear hc14
 have hc15 := fun w_ => qmany.calls gr 256 s15 W w_
 have hr15 := mq_range (most := 256) (by decide) s15
 rcases hq15 : mq 256 s15 with ⟨a15, s16⟩
 rw [hq15] at hc15 hr15
 dsimp only at hc15 hr15 ⊢
 clear hq15
 have HC15 := aM hc15
 clear hc15
 obtain ⟨m, rfl⟩ : ∃ m : Nat, a15 = (m : Int) := ⟨a15.toNat, by omega⟩
 rw [Int.toNat_natCast]
 have HM : Aside0 (m ≤ 256) := ⟨by omega⟩
 clear hr15
 rcases hr : tsn m s16 with ⟨tl, s17⟩
 dsimp only
 have HR := aM hr
 clear hr
 have hc17 := fun w_ => qtruth.calls gr s17 W w_
 rcases hq17 : bq s17 with ⟨o, s18⟩
 rw [hq17] at hc17
 dsimp only at hc17 ⊢
 clear hq17
 have HC17 := aM hc17
 clear hc17
 have M0 : Aside0 True := ⟨trivial⟩
 have M1 : Aside0 True := ⟨trivial⟩
 have M2 : Aside0 True := ⟨trivial⟩
 have M3 : Aside0 True := ⟨trivial⟩
 have M4 : Aside0 True := ⟨trivial⟩
 have M5 : Aside0 True := ⟨trivial⟩
 have M6 : Aside0 True := ⟨trivial⟩
 have M7 : Aside0 True := ⟨trivial⟩
 have M8 : Aside0 True := ⟨trivial⟩
 have M9 : Aside0 True := ⟨trivial⟩
 have M10 : Aside0 True := ⟨trivial⟩
 have M11 : Aside0 True := ⟨trivial⟩
 have M12 : Aside0 True := ⟨trivial⟩
 have M13 : Aside0 True := ⟨trivial⟩
 have M14 : Aside0 True := ⟨trivial⟩
 have M15 : Aside0 True := ⟨trivial⟩
 have MA : Aside0 True := ⟨trivial⟩
 go_enter Try.func23, Try.ntmps23
 go_wp2_with (first
  | ((with_reducible refine gate_dst (N := 2) rfl ?_); refine box_event ?hg (N := 2) ?hd (cs := #[.int .i64 0, .int .i64 0, .int .i64 0, .slice .none 0 0, .int .i64 0, .int .i64 0, .int .i64 0, .int .i64 0, .int .i64 0, .int .i64 0, .int .i64 0, .int .i64 0, .bool false, .slice .none 0 0, .slice .none 0 0, .slice .none 0 0, .bool false]) (t := 45) ?hr ?_; (case hd => rfl); (case hg => rfl); (case hr => first | (go_simp; done) | (go_simp; rfl)); intro g2 hg w1 hbox hb; have B2 : Aside0 (w1.heap[g2]? = some (.cells (c45 [] (.slice .none 0 0) [] false (.slice .none 0 0) (.slice .none 0 0) (.slice .none 0 0) false) 45 (0, 0))) := ⟨hbox⟩; have G2 := gE (w := w) hg (Below.refl _ _); replace HS := aM (HS.out.fr (Q := []) (Fr.of_below hb) (by simp) (by simp) (below_step HS.out.bel hb)); have HF := aM (Fr.of_below (Q := [63]) hb); clear hb hbox hg)
  | ((with_reducible refine gate_dst (N := 3) rfl ?_); refine box_event ?hg (N := 3) ?hd (cs := #[.int .i64 0, .int .i64 0, .int .i64 0, .slice .none 0 0, .int .i64 0, .int .i64 0, .int .i64 0, .int .i64 0, .int .i64 0, .int .i64 0, .int .i64 0, .int .i64 0, .bool false, .slice .none 0 0, .slice .none 0 0, .slice .none 0 0, .bool false]) (t := 45) ?hr ?_; (case hd => rfl); (case hg => rfl); (case hr => first | (go_simp; done) | (go_simp; rfl)); intro gc hg w2 hbox hb; have G3 := gE (w := w1) hg (Below.refl _ _); have NE : Aside0 (g2 ≠ gc) := ⟨by have h1 := blk_lt B2.out; have h2 := G3.out; omega⟩; have CI0 : Aside0 (CQ W w w2 gr g2 gc (c45 [] (.slice .none 0 0) [] false (.slice .none 0 0) (.slice .none 0 0) (.slice .none 0 0) false) s) := ⟨⟨HS.out.fr (Q := []) (Fr.of_below hb) (by simp) (by simp) (below_step HS.out.bel hb), HF.out.trans (Fr.of_below hb), blk_below B2.out hb, hbox, G2.out, Nat.le_trans HF.out.1 G3.out, NE.out, HW.out⟩⟩; clear hb hbox hg)
  | ((with_reducible refine gate_store (x := .tmp 3) (y := .tmp 5) rfl ?_); refine wpList_store_row rfl 45 (.tmp 3) (.tmp 5) rfl ?kg ?kcs ?kx ?ky ?kty ?kold0 ?kbx ?ki ?kold ?k1 ?_; (case kbx => exact CI0.out.com); (case kx => rfl); (case ky => rfl); (case kold => rfl); (case ki => exact info45s.trans rfl); (case k1 => first | rfl | (simp [Value.oneCell']; done) | (go_simp; done)); have hset := setRow_heap _ gc _ #[.int .i64 0, .int .i64 0, .int .i64 0, .slice .none 0 0, .int .i64 0, .int .i64 0, .int .i64 0, .int .i64 0, .int .i64 0, .int .i64 0, .int .i64 0, .int .i64 0, .bool false, .slice .none 0 0, .slice .none 0 0, .slice .none 0 0, .bool false] _ _ CI0.out.com; have hfr : Fr [45] w2 (w2.setRow gc #[.int .i64 0, .int .i64 0, .int .i64 0, .slice .none 0 0, .int .i64 0, .int .i64 0, .int .i64 0, .int .i64 0, .int .i64 0, .int .i64 0, .int .i64 0, .int .i64 0, .bool false, .slice .none 0 0, .slice .none 0 0, .slice .none 0 0, .bool false]) := Fr.setRow CI0.out.com (by simp); replace CI0 : Aside0 (CQ W w (w2.setRow gc #[.int .i64 0, .int .i64 0, .int .i64 0, .slice .none 0 0, .int .i64 0, .int .i64 0, .int .i64 0, .int .i64 0, .int .i64 0, .int .i64 0, .int .i64 0, .int .i64 0, .bool false, .slice .none 0 0, .slice .none 0 0, .slice .none 0 0, .bool false]) gr g2 gc (c45 [] (.slice .none 0 0) [] false (.slice .none 0 0) (.slice .none 0 0) (.slice .none 0 0) false) s) := ⟨⟨CI0.out.src.fr (Q := [45]) hfr (by simp) (by simp) (bel_row CI0.out.src.bel (Nat.le_trans CI0.out.le CI0.out.gec) _), CI0.out.fr.low (bel_row (Below.refl _ _) CI0.out.gec _), (setRow_other w2 gc g2 _ NE.out).trans CI0.out.res, hset, CI0.out.ge2, CI0.out.gec, CI0.out.ne, CI0.out.le⟩⟩; clear hset hfr; generalize w2.setRow gc #[.int .i64 0, .int .i64 0, .int .i64 0, .slice .none 0 0, .int .i64 0, .int .i64 0, .int .i64 0, .int .i64 0, .int .i64 0, .int .i64 0, .int .i64 0, .int .i64 0, .bool false, .slice .none 0 0, .slice .none 0 0, .slice .none 0 0, .bool false] = wa at CI0 ⊢)
  | (go_at_call 35; clear M0; refine (HC0.out _ CI0.out.src).mono ?_; rintro e wq0 ⟨rfl, h1, h2⟩; replace CI0 := aM (CI0.out.call h1 h2); have qc0 : wq0.cell? ⟨gc, 0, .none⟩ = some (.int .i64 0) ∧ wq0.frozen? ⟨gc, 0, .none⟩ = false := CI0.out.at_ 0 rfl; clear h1 h2)
  | (go_at_call 35; clear M1; replace CI0 := aM (CI0.out.put 0 (.int .i64 a0) (cs' := c45 [a0] (.slice .none 0 0) [] false (.slice .none 0 0) (.slice .none 0 0) (.slice .none 0 0) false) rfl rfl); refine (HC1.out _ CI0.out.src).mono ?_; rintro e wq1 ⟨rfl, h1, h2⟩; replace CI0 := aM (CI0.out.call h1 h2); have qc1 : wq1.cell? ⟨gc, 1, .none⟩ = some (.int .i64 0) ∧ wq1.frozen? ⟨gc, 1, .none⟩ = false := CI0.out.at_ 1 rfl; clear h1 h2)
  | (go_at_call 35; clear M2; replace CI0 := aM (CI0.out.put 1 (.int .i64 a1) (cs' := c45 [a0, a1] (.slice .none 0 0) [] false (.slice .none 0 0) (.slice .none 0 0) (.slice .none 0 0) false) rfl rfl); refine (HC2.out _ CI0.out.src).mono ?_; rintro e wq2 ⟨rfl, h1, h2⟩; replace CI0 := aM (CI0.out.call h1 h2); have qc2 : wq2.cell? ⟨gc, 2, .none⟩ = some (.int .i64 0) ∧ wq2.frozen? ⟨gc, 2, .none⟩ = false := CI0.out.at_ 2 rfl; clear h1 h2)
  | (go_at_call 36; clear M3; replace CI0 := aM (CI0.out.put 2 (.int .i64 a2) (cs' := c45 [a0, a1, a2] (.slice .none 0 0) [] false (.slice .none 0 0) (.slice .none 0 0) (.slice .none 0 0) false) rfl rfl); refine (HC3.out _ CI0.out.src).mono ?_; rintro e wq3 ⟨vv, rfl, h0, h1, h2⟩; have H3 := aM (Kd.R_lower h0 CI0.out.fr.1); obtain ⟨A3, c3, ee⟩ := Kd.R_slice H3.out; subst ee; replace CI0 := aM (CI0.out.call h1 h2); have qc3 : wq3.cell? ⟨gc, 3, .none⟩ = some (.slice .none 0 0) ∧ wq3.frozen? ⟨gc, 3, .none⟩ = false := CI0.out.at_ 3 rfl; clear h1 h2 h0)
  | (go_at_call 35; clear M4; replace H3 := aM (CI0.out.R 3 (.slice A3 a3.length c3) H3.out (by decide)); replace CI0 := aM (CI0.out.put 3 (.slice A3 a3.length c3) (cs' := c45 [a0, a1, a2] (.slice A3 a3.length c3) [] false (.slice .none 0 0) (.slice .none 0 0) (.slice .none 0 0) false) rfl rfl); refine (HC4.out _ CI0.out.src).mono ?_; rintro e wq4 ⟨rfl, h1, h2⟩; replace H3 := aM (R_fr H3.out h2 (by decide)); replace CI0 := aM (CI0.out.call h1 h2); have qc4 : wq4.cell? ⟨gc, 4, .none⟩ = some (.int .i64 0) ∧ wq4.frozen? ⟨gc, 4, .none⟩ = false := CI0.out.at_ 4 rfl; clear h1 h2)
  | (go_at_call 35; clear M5; replace H3 := aM (CI0.out.R 4 (.int .i64 a4) H3.out (by decide)); replace CI0 := aM (CI0.out.put 4 (.int .i64 a4) (cs' := c45 [a0, a1, a2] (.slice A3 a3.length c3) [a4] false (.slice .none 0 0) (.slice .none 0 0) (.slice .none 0 0) false) rfl rfl); refine (HC5.out _ CI0.out.src).mono ?_; rintro e wq5 ⟨rfl, h1, h2⟩; replace H3 := aM (R_fr H3.out h2 (by decide)); replace CI0 := aM (CI0.out.call h1 h2); have qc5 : wq5.cell? ⟨gc, 5, .none⟩ = some (.int .i64 0) ∧ wq5.frozen? ⟨gc, 5, .none⟩ = false := CI0.out.at_ 5 rfl; clear h1 h2)
  | (go_at_call 35; clear M6; replace H3 := aM (CI0.out.R 5 (.int .i64 a5) H3.out (by decide)); replace CI0 := aM (CI0.out.put 5 (.int .i64 a5) (cs' := c45 [a0, a1, a2] (.slice A3 a3.length c3) [a4, a5] false (.slice .none 0 0) (.slice .none 0 0) (.slice .none 0 0) false) rfl rfl); refine (HC6.out _ CI0.out.src).mono ?_; rintro e wq6 ⟨rfl, h1, h2⟩; replace H3 := aM (R_fr H3.out h2 (by decide)); replace CI0 := aM (CI0.out.call h1 h2); have qc6 : wq6.cell? ⟨gc, 6, .none⟩ = some (.int .i64 0) ∧ wq6.frozen? ⟨gc, 6, .none⟩ = false := CI0.out.at_ 6 rfl; clear h1 h2)
  | (go_at_call 35; clear M7; replace H3 := aM (CI0.out.R 6 (.int .i64 a6) H3.out (by decide)); replace CI0 := aM (CI0.out.put 6 (.int .i64 a6) (cs' := c45 [a0, a1, a2] (.slice A3 a3.length c3) [a4, a5, a6] false (.slice .none 0 0) (.slice .none 0 0) (.slice .none 0 0) false) rfl rfl); refine (HC7.out _ CI0.out.src).mono ?_; rintro e wq7 ⟨rfl, h1, h2⟩; replace H3 := aM (R_fr H3.out h2 (by decide)); replace CI0 := aM (CI0.out.call h1 h2); have qc7 : wq7.cell? ⟨gc, 7, .none⟩ = some (.int .i64 0) ∧ wq7.frozen? ⟨gc, 7, .none⟩ = false := CI0.out.at_ 7 rfl; clear h1 h2)
  | (go_at_call 35; clear M8; replace H3 := aM (CI0.out.R 7 (.int .i64 a7) H3.out (by decide)); replace CI0 := aM (CI0.out.put 7 (.int .i64 a7) (cs' := c45 [a0, a1, a2] (.slice A3 a3.length c3) [a4, a5, a6, a7] false (.slice .none 0 0) (.slice .none 0 0) (.slice .none 0 0) false) rfl rfl); refine (HC8.out _ CI0.out.src).mono ?_; rintro e wq8 ⟨rfl, h1, h2⟩; replace H3 := aM (R_fr H3.out h2 (by decide)); replace CI0 := aM (CI0.out.call h1 h2); have qc8 : wq8.cell? ⟨gc, 8, .none⟩ = some (.int .i64 0) ∧ wq8.frozen? ⟨gc, 8, .none⟩ = false := CI0.out.at_ 8 rfl; clear h1 h2)
  | (go_at_call 35; clear M9; replace H3 := aM (CI0.out.R 8 (.int .i64 a8) H3.out (by decide)); replace CI0 := aM (CI0.out.put 8 (.int .i64 a8) (cs' := c45 [a0, a1, a2] (.slice A3 a3.length c3) [a4, a5, a6, a7, a8] false (.slice .none 0 0) (.slice .none 0 0) (.slice .none 0 0) false) rfl rfl); refine (HC9.out _ CI0.out.src).mono ?_; rintro e wq9 ⟨rfl, h1, h2⟩; replace H3 := aM (R_fr H3.out h2 (by decide)); replace CI0 := aM (CI0.out.call h1 h2); have qc9 : wq9.cell? ⟨gc, 9, .none⟩ = some (.int .i64 0) ∧ wq9.frozen? ⟨gc, 9, .none⟩ = false := CI0.out.at_ 9 rfl; clear h1 h2)
  | (go_at_call 35; clear M10; replace H3 := aM (CI0.out.R 9 (.int .i64 a9) H3.out (by decide)); replace CI0 := aM (CI0.out.put 9 (.int .i64 a9) (cs' := c45 [a0, a1, a2] (.slice A3 a3.length c3) [a4, a5, a6, a7, a8, a9] false (.slice .none 0 0) (.slice .none 0 0) (.slice .none 0 0) false) rfl rfl); refine (HC10.out _ CI0.out.src).mono ?_; rintro e wq10 ⟨rfl, h1, h2⟩; replace H3 := aM (R_fr H3.out h2 (by decide)); replace CI0 := aM (CI0.out.call h1 h2); have qc10 : wq10.cell? ⟨gc, 10, .none⟩ = some (.int .i64 0) ∧ wq10.frozen? ⟨gc, 10, .none⟩ = false := CI0.out.at_ 10 rfl; clear h1 h2)
  | (go_at_call 35; clear M11; replace H3 := aM (CI0.out.R 10 (.int .i64 a10) H3.out (by decide)); replace CI0 := aM (CI0.out.put 10 (.int .i64 a10) (cs' := c45 [a0, a1, a2] (.slice A3 a3.length c3) [a4, a5, a6, a7, a8, a9, a10] false (.slice .none 0 0) (.slice .none 0 0) (.slice .none 0 0) false) rfl rfl); refine (HC11.out _ CI0.out.src).mono ?_; rintro e wq11 ⟨rfl, h1, h2⟩; replace H3 := aM (R_fr H3.out h2 (by decide)); replace CI0 := aM (CI0.out.call h1 h2); have qc11 : wq11.cell? ⟨gc, 11, .none⟩ = some (.int .i64 0) ∧ wq11.frozen? ⟨gc, 11, .none⟩ = false := CI0.out.at_ 11 rfl; clear h1 h2)
  | (go_at_call 37; clear M12; replace H3 := aM (CI0.out.R 11 (.int .i64 a11) H3.out (by decide)); replace CI0 := aM (CI0.out.put 11 (.int .i64 a11) (cs' := c45 [a0, a1, a2] (.slice A3 a3.length c3) [a4, a5, a6, a7, a8, a9, a10, a11] false (.slice .none 0 0) (.slice .none 0 0) (.slice .none 0 0) false) rfl rfl); refine (HC12.out _ CI0.out.src).mono ?_; rintro e wq12 ⟨rfl, h1, h2⟩; replace H3 := aM (R_fr H3.out h2 (by decide)); replace CI0 := aM (CI0.out.call h1 h2); have qc12 : wq12.cell? ⟨gc, 12, .none⟩ = some (.bool false) ∧ wq12.frozen? ⟨gc, 12, .none⟩ = false := CI0.out.at_ 12 rfl; clear h1 h2)
  | (go_at_call 36; clear M13; replace H3 := aM (CI0.out.R 12 (.bool a12) H3.out (by decide)); replace CI0 := aM (CI0.out.put 12 (.bool a12) (cs' := c45 [a0, a1, a2] (.slice A3 a3.length c3) [a4, a5, a6, a7, a8, a9, a10, a11] a12 (.slice .none 0 0) (.slice .none 0 0) (.slice .none 0 0) false) rfl rfl); refine (HC13.out _ CI0.out.src).mono ?_; rintro e wq13 ⟨vv, rfl, h0, h1, h2⟩; have H13 := aM (Kd.R_lower h0 CI0.out.fr.1); obtain ⟨A13, c13, ee⟩ := Kd.R_slice H13.out; subst ee; replace H3 := aM (R_fr H3.out h2 (by decide)); replace CI0 := aM (CI0.out.call h1 h2); have qc13 : wq13.cell? ⟨gc, 13, .none⟩ = some (.slice .none 0 0) ∧ wq13.frozen? ⟨gc, 13, .none⟩ = false := CI0.out.at_ 13 rfl; clear h1 h2 h0)
  | (go_at_call 36; clear M14; replace H3 := aM (CI0.out.R 13 (.slice A13 a13.length c13) H3.out (by decide)); replace H13 := aM (CI0.out.R 13 (.slice A13 a13.length c13) H13.out (by decide)); replace CI0 := aM (CI0.out.put 13 (.slice A13 a13.length c13) (cs' := c45 [a0, a1, a2] (.slice A3 a3.length c3) [a4, a5, a6, a7, a8, a9, a10, a11] a12 (.slice A13 a13.length c13) (.slice .none 0 0) (.slice .none 0 0) false) rfl rfl); refine (HC14.out _ CI0.out.src).mono ?_; rintro e wq14 ⟨vv, rfl, h0, h1, h2⟩; have H14 := aM (Kd.R_lower h0 CI0.out.fr.1); obtain ⟨A14, c14, ee⟩ := Kd.R_slice H14.out; subst ee; replace H3 := aM (R_fr H3.out h2 (by decide)); replace H13 := aM (R_fr H13.out h2 (by decide)); replace CI0 := aM (CI0.out.call h1 h2); have qc14 : wq14.cell? ⟨gc, 14, .none⟩ = some (.slice .none 0 0) ∧ wq14.frozen? ⟨gc, 14, .none⟩ = false := CI0.out.at_ 14 rfl; clear h1 h2 h0)
  | (go_at_call 22; clear M15; replace H3 := aM (CI0.out.R 14 (.slice A14 a14.length c14) H3.out (by decide)); replace H13 := aM (CI0.out.R 14 (.slice A14 a14.length c14) H13.out (by decide)); replace H14 := aM (CI0.out.R 14 (.slice A14 a14.length c14) H14.out (by decide)); replace CI0 := aM (CI0.out.put 14 (.slice A14 a14.length c14) (cs' := c45 [a0, a1, a2] (.slice A3 a3.length c3) [a4, a5, a6, a7, a8, a9, a10, a11] a12 (.slice A13 a13.length c13) (.slice A14 a14.length c14) (.slice .none 0 0) false) rfl rfl); refine (HC15.out _ CI0.out.src).mono ?_; rintro e wq15 ⟨rfl, h1, h2⟩; replace H3 := aM (R_fr H3.out h2 (by decide)); replace H13 := aM (R_fr H13.out h2 (by decide)); replace H14 := aM (R_fr H14.out h2 (by decide)); replace CI0 := aM (CI0.out.call h1 h2); clear h1 h2))
 clear HC0 HC1 HC2 HC3 HC4 HC5 HC6 HC7 HC8 HC9 HC10 HC11 HC12 HC13 HC14 HC15 HS HF B2 G2 G3
 go_loopg [63] m (fun kq v63 w' => ∃ (i : Nat) (ts : List S71) (st : RS) (v15 : Value), v63 = .int .i64 (i : Int) ∧ Aside0 (i + kq = m) ∧ Aside0 (ts.length = i) ∧ Aside0 ((ts ++ (tsn kq st).1, (tsn kq st).2) = (tl, s17)) ∧ Aside0 (CQ W w w' gr g2 gc (c45 [a0, a1, a2] (.slice A3 a3.length c3) [a4, a5, a6, a7, a8, a9, a10, a11] a12 (.slice A13 a13.length c13) (.slice A14 a14.length c14) (v15) false) st) ∧ Aside0 (Kd.R (Kd.int .i64) 3 w' w.heap.size (fun _ => True) (.slice A3 a3.length c3) a3) ∧ Aside0 (Kd.R (Kd.int .i64) 3 w' w.heap.size (fun _ => True) (.slice A13 a13.length c13) a13) ∧ Aside0 (Kd.R (Kd.int .i64) 3 w' w.heap.size (fun _ => True) (.slice A14 a14.length c14) a14) ∧ Aside0 (Kd.R k71 71 w' w.heap.size (fun _ => True) v15 ts))
 case atStart => exact ⟨0, [], s16, .slice .none 0 0, rfl, ⟨by omega⟩, ⟨rfl⟩, ⟨HR.out⟩, CI0, H3, H13, H14, ⟨pN⟩⟩
 case round =>
  clear CI0 H3 H13 H14 HR
  obtain ⟨i, ts, st, v15, rfl, HI, HLN, HR, CI0, H3, H13, H14, H15⟩ := hrel
  obtain ⟨A15, c15, e15⟩ := Kd.R_slice H15.out
  subst e15
  cases gk with
  | succ kq =>
   have d1 : decide ((i : Int) < (m : Int)) = true := decide_eq_true (by have := HI.out; omega)
   have d2 : decide (i < m) = true := decide_eq_true (by have := HI.out; omega)
   have HR1 := HR.out
   rw [tsn] at HR1
   have hc0 := fun w_ => qnumber.calls gr st W w_
   rcases hq0 : nq st with ⟨pa, st1⟩
   rw [hq0] at hc0 HR1
   dsimp only at hc0 HR1
   have hc1 := fun w_ => qnumber.calls gr st1 W w_
   rcases hq1 : nq st1 with ⟨pb, st2⟩
   rw [hq1] at hc1 HR1
   dsimp only at hc1 HR1
   have hc2 := fun w_ => qword.calls gr st2 W w_
   rcases hq2 : ws st2 with ⟨pc, st3⟩
   rw [hq2] at hc2 HR1
   dsimp only at hc2 HR1
   have HC0 := aM hc0
   have HC1 := aM hc1
   have HC2 := aM hc2
   have HR2 := aM HR1
   clear hq0 hq1 hq2 hc0 hc1 hc2 HR1 HR
   have M0 : Aside0 True := ⟨trivial⟩
   have M1 : Aside0 True := ⟨trivial⟩
   have M2_ : Aside0 True := ⟨trivial⟩
   go_wp2_with (first
    | (go_at_call 35; clear M0; have HT := aM (blk_new wr (.cells #[.int .i64 0, .int .i64 0, .int .u64 0] 71 (0, 0))); have HAL := aM (below_alloc (Below.refl wr.heap.size wr) (.cells #[.int .i64 0, .int .i64 0, .int .u64 0] 71 (0, 0))); have HGT : Aside0 (w.heap.size ≤ wr.heap.size) := ⟨CI0.out.fr.1⟩; replace H15 : Aside0 (Kd.R k71 71 (wr.alloc (.cells #[.int .i64 0, .int .i64 0, .int .u64 0] 71 (0, 0))) w.heap.size (fun k => k ≠ wr.heap.size) (.slice A15 ts.length c15) ts) := ⟨Kd.R_below (Kd.R_mono (Kd.R_bound H15.out) (fun k hk => by have h1 := hk.2.2.1; omega)) HAL.out⟩; replace H3 := aM (Kd.R_below H3.out HAL.out); replace H13 := aM (Kd.R_below H13.out HAL.out); replace H14 := aM (Kd.R_below H14.out HAL.out); replace CI0 := aM (CI0.out.below HAL.out); clear HAL; generalize wr.alloc (.cells #[.int .i64 0, .int .i64 0, .int .u64 0] 71 (0, 0)) = wt at HT H3 H13 H14 H15 CI0 ⊢; generalize wr.heap.size = gt at HT HGT H15 ⊢; refine (HC0.out _ CI0.out.src).mono ?_; rintro e wv0 ⟨rfl, h1, h2⟩; replace H3 := aM (R_fr H3.out h2 (by decide)); replace H13 := aM (R_fr H13.out h2 (by decide)); replace H14 := aM (R_fr H14.out h2 (by decide)); replace H15 := aM (R_fr H15.out h2 (by decide)); replace HT := aM (h2.blk HT.out (by decide)); replace CI0 := aM (CI0.out.call h1 h2); have qt0 : wv0.cell? ⟨gt, 0, .none⟩ = some (.int .i64 0) ∧ wv0.frozen? ⟨gt, 0, .none⟩ = false := ⟨(blk_cell HT.out 0).trans rfl, blk_frozen HT.out 0⟩; clear h1 h2)
    | (go_at_call 35; clear M1; replace H3 := aM (R_fr H3.out (fr71 (j := 0) (v := .int .i64 pa) HT.out) (by decide)); replace H13 := aM (R_fr H13.out (fr71 (j := 0) (v := .int .i64 pa) HT.out) (by decide)); replace H14 := aM (R_fr H14.out (fr71 (j := 0) (v := .int .i64 pa) HT.out) (by decide)); replace H15 := aM (R_put H15.out 0 (.int .i64 pa)); replace CI0 := aM (CI0.out.tmp (j := 0) (v := .int .i64 pa) HT.out HGT.out); replace HT := aM (blk_put HT.out 0 (.int .i64 pa) rfl); refine (HC1.out _ CI0.out.src).mono ?_; rintro e wv1 ⟨rfl, h1, h2⟩; replace H3 := aM (R_fr H3.out h2 (by decide)); replace H13 := aM (R_fr H13.out h2 (by decide)); replace H14 := aM (R_fr H14.out h2 (by decide)); replace H15 := aM (R_fr H15.out h2 (by decide)); replace HT := aM (h2.blk HT.out (by decide)); replace CI0 := aM (CI0.out.call h1 h2); have qt1 : wv1.cell? ⟨gt, 1, .none⟩ = some (.int .i64 0) ∧ wv1.frozen? ⟨gt, 1, .none⟩ = false := ⟨(blk_cell HT.out 1).trans rfl, blk_frozen HT.out 1⟩; clear h1 h2)
    | (go_at_call 38; replace H3 := aM (R_fr H3.out (fr71 (j := 1) (v := .int .i64 pb) HT.out) (by decide)); replace H13 := aM (R_fr H13.out (fr71 (j := 1) (v := .int .i64 pb) HT.out) (by decide)); replace H14 := aM (R_fr H14.out (fr71 (j := 1) (v := .int .i64 pb) HT.out) (by decide)); replace H15 := aM (R_put H15.out 1 (.int .i64 pb)); replace CI0 := aM (CI0.out.tmp (j := 1) (v := .int .i64 pb) HT.out HGT.out); replace HT := aM (blk_put HT.out 1 (.int .i64 pb) rfl); refine (HC2.out _ CI0.out.src).mono ?_; rintro e wv2 ⟨rfl, h1, h2⟩; replace H3 := aM (R_fr H3.out h2 (by decide)); replace H13 := aM (R_fr H13.out h2 (by decide)); replace H14 := aM (R_fr H14.out h2 (by decide)); replace H15 := aM (R_fr H15.out h2 (by decide)); replace HT := aM (h2.blk HT.out (by decide)); replace CI0 := aM (CI0.out.call h1 h2); have qt2 : wv2.cell? ⟨gt, 2, .none⟩ = some (.int .u64 0) ∧ wv2.frozen? ⟨gt, 2, .none⟩ = false := ⟨(blk_cell HT.out 2).trans rfl, blk_frozen HT.out 2⟩; clear h1 h2)
    | ((with_reducible refine gate_dst (N := 75) rfl ?_); clear M2_; replace H3 := aM (R_fr H3.out (fr71 (j := 2) (v := .int .u64 pc) HT.out) (by decide)); replace H13 := aM (R_fr H13.out (fr71 (j := 2) (v := .int .u64 pc) HT.out) (by decide)); replace H14 := aM (R_fr H14.out (fr71 (j := 2) (v := .int .u64 pc) HT.out) (by decide)); replace H15 := aM (R_put H15.out 2 (.int .u64 pc)); replace CI0 := aM (CI0.out.tmp (j := 2) (v := .int .u64 pc) HT.out HGT.out); replace HT := aM (blk_put HT.out 2 (.int .u64 pc) rfl); generalize wv2.setCell ⟨gt, 2, .none⟩ (.int .u64 pc) = wx at CI0 H3 H13 H14 H15 HT ⊢; have qx := CI0.out.at_ 15 (v := .slice A15 ts.length c15) rfl; have ht0 : wx.cell? ⟨gt, 0, .none⟩ = some (.int .i64 pa) := (blk_cell HT.out 0).trans rfl; have ht1 : wx.cell? ⟨gt, 1, .none⟩ = some (.int .i64 pb) := (blk_cell HT.out 1).trans rfl; have ht2 : wx.cell? ⟨gt, 2, .none⟩ = some (.int .u64 pc) := (blk_cell HT.out 2).trans rfl)
    | ((with_reducible refine gate_builtin (b := .append) (xs := #[.tmp 76, .tmp 78]) rfl ?_); at_builtin; refine Kd.R_append k71 (w0 := wx) w.heap.size rfl (.tmp 76) (.tmp 78) 43 71 (.agg #[.int .i64 0, .int .i64 0, .int .u64 0]) 24 rfl Try.underlying43 info71 rfl (by show 0 < 3; decide) (by omega) (.slice A15 ts.length c15) ts (⟨pa, pb, pc⟩ : S71) [.int .i64 pa, .int .i64 pb, .int .u64 pc] (fun k => k ≠ gt) (fun _ => False) rfl rfl (k71_mkM _ _ _ (⟨pa, pb, pc⟩ : S71)) (fun _ h_ => h_.elim) ?aF H15.out (Below.refl _ _) CI0.out.fr.1 ?aL ?_; (case aF => intro k hk e_; have h1_ := blk_lt HT.out; rw [e_] at hk; exact absurd hk (Nat.not_le.mpr h1_)); (case aL => have := HLN.out; have := HI.out; have := HM.out; omega); intro v1 w6 ho hb hg hat; replace H3 := aM (R_fr H3.out (Fr.row (Q := [71]) H15.out hg (by simp)) (by decide)); replace H13 := aM (R_fr H13.out (Fr.row (Q := [71]) H15.out hg (by simp)) (by decide)); replace H14 := aM (R_fr H14.out (Fr.row (Q := [71]) H15.out hg (by simp)) (by decide)); replace CI0 := aM (CI0.out.row H15.out hg hb (by decide) (by decide) (by decide)); have h15 := Kd.R_mono (ok' := fun _ => True) ho (fun _ _ => trivial); obtain ⟨An, cn, en⟩ := Kd.R_slice h15; subst en; rw [List.length_append, List.length_singleton] at h15; replace H15 := aM h15; have qs := CI0.out.at_ 15 (v := .slice A15 ts.length c15) rfl; clear qx ht0 ht1 ht2))
   go_roundg kq
   case measure => omega
   case rel => exact ⟨i + 1, ts ++ [(⟨pa, pb, pc⟩ : S71)], st3, .slice An (ts.length + 1) cn, by first | rfl | (rw [w64o (by omega) (by have := HI.out; have := HM.out; omega)]; rfl), ⟨by have := HI.out; omega⟩, ⟨by rw [List.length_append, HLN.out]; rfl⟩, ⟨by rw [← HR2.out]; simp⟩, ⟨CI0.out.put 15 (.slice An (ts.length + 1) cn) rfl rfl⟩, ⟨CI0.out.R 15 _ H3.out (by decide)⟩, ⟨CI0.out.R 15 _ H13.out (by decide)⟩, ⟨CI0.out.R 15 _ H14.out (by decide)⟩, ⟨CI0.out.R 15 _ H15.out (by decide)⟩⟩
  | zero =>
   obtain rfl : i = m := by have := HI.out; omega
   have d1 : decide ((i : Int) < (i : Int)) = false := decide_eq_false (by omega)
   have d2 : decide (i < i) = false := decide_eq_false (by omega)
   have HR1 := HR.out
   rw [tsn, List.append_nil] at HR1
   obtain ⟨rfl, rfl⟩ := Prod.mk.inj HR1
   clear HR HR1 HI
   have M0 : Aside0 True := ⟨trivial⟩
   go_wp2_with (first
    | (go_at_call 37; refine (HC17.out _ CI0.out.src).mono ?_; rintro e w9 ⟨rfl, h1, h2⟩; replace H3 := aM (R_fr H3.out h2 (by decide)); replace H13 := aM (R_fr H13.out h2 (by decide)); replace H14 := aM (R_fr H14.out h2 (by decide)); replace H15 := aM (R_fr H15.out h2 (by decide)); replace CI0 := aM (CI0.out.call h1 h2); have qc : w9.cell? ⟨gc, 16, .none⟩ = some (.bool false) ∧ w9.frozen? ⟨gc, 16, .none⟩ = false := CI0.out.at_ 16 rfl; clear h1 h2)
    | ((with_reducible refine gate_dst (N := 85) rfl ?_); clear M0; replace H3 := aM (CI0.out.R 16 (.bool o) H3.out (by decide)); replace H13 := aM (CI0.out.R 16 (.bool o) H13.out (by decide)); replace H14 := aM (CI0.out.R 16 (.bool o) H14.out (by decide)); replace H15 := aM (CI0.out.R 16 (.bool o) H15.out (by decide)); replace CI0 := aM (CI0.out.put 16 (.bool o) (cs' := c45 [a0, a1, a2] (.slice A3 a3.length c3) [a4, a5, a6, a7, a8, a9, a10, a11] a12 (.slice A13 a13.length c13) (.slice A14 a14.length c14) (.slice A15 ts.length c15) o) rfl rfl); refine ev_load rfl 45 (.tmp 3) rfl ⟨gc, 0, .none⟩ ?hx [.int .i64 a0, .int .i64 a1, .int .i64 a2, .slice A3 a3.length c3, .int .i64 a4, .int .i64 a5, .int .i64 a6, .int .i64 a7, .int .i64 a8, .int .i64 a9, .int .i64 a10, .int .i64 a11, .bool a12, .slice A13 a13.length c13, .slice A14 a14.length c14, .slice A15 ts.length c15, .bool o] _ Try.underlying45 rfl (info45s.trans rfl) (row17 CI0.out.com) ?_; (case hx => first | rfl | (go_simp; done)); generalize w9.setCell ⟨gc, 16, .none⟩ (.bool o) = wz at CI0 H3 H13 H14 H15 ⊢)
    | ((with_reducible refine gate_store (x := .tmp 2) (y := .tmp 85) rfl ?_); refine wpList_store_row rfl 45 (.tmp 2) (.tmp 85) rfl ?hg ?hcs ?hx ?hy ?hty ?hold0 ?hbx ?hi ?hold ?h1 ?_; (case hbx => exact CI0.out.res); (case hx => rfl); (case hy => rfl); (case hold => rfl); (case hi => exact info45s.trans rfl); (case h1 => first | rfl | (simp [Value.oneCell']; done) | (go_simp; done))))
   have hfin := CI0.out.fin #[.int .i64 a0, .int .i64 a1, .int .i64 a2, .slice A3 a3.length c3, .int .i64 a4, .int .i64 a5, .int .i64 a6, .int .i64 a7, .int .i64 a8, .int .i64 a9, .int .i64 a10, .int .i64 a11, .bool a12, .slice A13 a13.length c13, .slice A14 a14.length c14, .slice A15 ts.length c15, .bool o]
   have BX := setRow_heap _ g2 _ #[.int .i64 a0, .int .i64 a1, .int .i64 a2, .slice A3 a3.length c3, .int .i64 a4, .int .i64 a5, .int .i64 a6, .int .i64 a7, .int .i64 a8, .int .i64 a9, .int .i64 a10, .int .i64 a11, .bool a12, .slice A13 a13.length c13, .slice A14 a14.length c14, .slice A15 ts.length c15, .bool o] _ _ CI0.out.res
   have hv := run_loadVar_at (P := Try.prog) _ 45 ⟨g2, 0, .none⟩ [.int .i64 a0, .int .i64 a1, .int .i64 a2, .slice A3 a3.length c3, .int .i64 a4, .int .i64 a5, .int .i64 a6, .int .i64 a7, .int .i64 a8, .int .i64 a9, .int .i64 a10, .int .i64 a11, .bool a12, .slice A13 a13.length c13, .slice A14 a14.length c14, .slice A15 ts.length c15, .bool o] _ Try.underlying45 rfl (info45s.trans rfl) (row17 BX)
   refine ⟨rfl, .agg #[.int .i64 a0, .int .i64 a1, .int .i64 a2, .slice A3 a3.length c3, .int .i64 a4, .int .i64 a5, .int .i64 a6, .int .i64 a7, .int .i64 a8, .int .i64 a9, .int .i64 a10, .int .i64 a11, .bool a12, .slice A13 a13.length c13, .slice A14 a14.length c14, .slice A15 ts.length c15, .bool o], ?_, _, rfl, ⟨[.int .i64 a0, .int .i64 a1, .int .i64 a2, .slice A3 a3.length c3, .int .i64 a4, .int .i64 a5, .int .i64 a6, .int .i64 a7, .int .i64 a8, .int .i64 a9, .int .i64 a10, .int .i64 a11, .bool a12, .slice A13 a13.length c13, .slice A14 a14.length c14, .slice A15 ts.length c15, .bool o], rfl, ?_⟩, hfin.2.1, hfin.2.2⟩
   ·exact results_cell rfl _ _ _ _ _ rfl hv
   ·exact k45_mkM _ _ _ ⟨a0, a1, a2, a3, ⟨a4, a5, a6, a7, a8, a9, a10, a11, a12, a13⟩, a14, ts, o⟩ (R_fr H3.out hfin.1 (by decide)) (R_fr H13.out hfin.1 (by decide)) (R_fr H14.out hfin.1 (by decide)) (R_fr H15.out hfin.1 (by decide))
end Pk
end Go.Proofs.Ytkohdojiockejaa.Q
