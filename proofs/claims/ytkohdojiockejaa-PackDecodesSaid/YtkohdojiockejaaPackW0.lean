/- The writer: a word, numbers. -/
import Derived.Test.YtkohdojiockejaaQxfPlainBytes
import Derived.Test.YtkohdojiockejaaQxfLaw45Many
import Derived.Test.YtkohdojiockejaaQxfRef45Encode
import Derived.Test.YtkohdojiockejaaPackBits
import Derived.Test.YtkohdojiockejaaPackBits
namespace Go.Proofs.Ytkohdojiockejaa.Q
open Go.RowKit Go.Proofs.YtkohdojiockejaaW.PrintWords Go.Proofs.YtkohdojiockejaaW.PrintLast Go.Proofs.YtkohdojiockejaaW.PrintMore
attribute [local go_sem] max2_int min2_int max_two min_two max_three min_three max_four min_four
set_option linter.unusedVariables false
set_option linter.unusedSimpArgs false
namespace Pk
/-- All blocks but those of some types are as they were. -/
def Fr (Q : List Nat) (w w' : World) : Prop := w.heap.size ≤ w'.heap.size ∧ ∀ (k : Nat) (cs : Array Value) (q : Nat), w.heap[k]? = some (Obj.cells cs q (0, 0)) → q ∉ Q → w'.heap[k]? = w.heap[k]?
theorem Fr.refl (Q : List Nat) (w : World) : Fr Q w w := ⟨Nat.le_refl _, fun _ _ _ _ _ => rfl⟩
theorem Fr.trans {Q : List Nat} {w w1 w2 : World} (h : Fr Q w w1) (h' : Fr Q w1 w2) : Fr Q w w2 :=
  ⟨Nat.le_trans h.1 h'.1, fun k cs q hk hq => (h'.2 k cs q ((h.2 k cs q hk hq).trans hk) hq).trans (h.2 k cs q hk hq)⟩
theorem Fr.of_below {Q : List Nat} {w w' : World} (h : Below w.heap.size w w') : Fr Q w w' := ⟨h.size, fun k _ _ hk _ => h.block k (blk_lt hk)⟩
theorem Fr.blk {Q : List Nat} {w w' : World} {g q : Nat} {cs : Array Value} (h : Fr Q w w') (hb : w.heap[g]? = some (.cells cs q (0, 0))) (hq : q ∉ Q) : w'.heap[g]? = some (.cells cs q (0, 0)) := (h.2 g cs q hb hq).trans hb
theorem Fr.set {Q : List Nat} {w w' : World} {g q j : Nat} {cs : Array Value} {v : Value} (h : Fr Q w w') (hb : w'.heap[g]? = some (.cells cs q (0, 0))) (hq : q ∈ Q) : Fr Q w (w'.setCell ⟨g, j, none⟩ v) :=
  ⟨by rw [World.size_setCell]; exact h.1, fun k cs' q' hk hq' => by
    have h1 := h.2 k cs' q' hk hq'
    rw [← h1]
    refine Below.heap_setCell _ ⟨g, j, none⟩ _ k (fun e => ?_)
    subst e
    rw [hk] at h1
    rw [h1] at hb
    cases hb
    exact hq' hq⟩
theorem Fr.row {Q : List Nat} {α : Type} {d : Kd α} {e b : Nat} {ok : Nat → Prop} {v : Value} {xs : List α} {w w' : World} (hr : d.R e w b ok v xs) (hg : w.grownBy w' v.ownBlock) (he : e ∈ Q) : Fr Q w w' :=
  ⟨hg.size, fun k cs q hk hq => hg.block k (blk_lt hk) (fun hz => by
    obtain ⟨cs', hc⟩ := Kd.R_typed hr k hz.symm
    rw [hc] at hk
    cases hk
    exact hq he)⟩
/-- What a writer has. -/
structure Wr (W w : World) (gw : Nat) (bs : List Int) (long : Bool) : Prop where
  ex : ∃ v, w.heap[gw]? = some (.cells #[v, .bool long] 48 (0, 0)) ∧ Kd.R (Kd.int .u8) 5 w W.heap.size (fun k => k ≠ gw) v bs
  ge : W.heap.size ≤ gw
  bel : Below W.heap.size W w
theorem Wr.step {W w w1 : World} {gw : Nat} {bs : List Int} {long : Bool} (h : Wr W w gw bs long) (hb : Below w.heap.size w w1) : Wr W w1 gw bs long := by
  obtain ⟨⟨v, h1, h2⟩, h3, h4⟩ := h
  exact ⟨⟨v, blk_below h1 hb, Kd.R_below h2 hb⟩, h3, below_step h4 hb⟩
theorem below_size_ok {W w : World} (h : Below W.heap.size W w) : Below W.heap.size W w := h
/-- A word as bytes. -/
def eW : Nat → Int → List Int
 | 0, _ => []
 | q + 1, x => if 128 ≤ x then (x % 128 + 128) :: eW q (x / 128) else [x]
theorem eW_more {q : Nat} {x : Int} (h : 128 ≤ x) : eW (q + 1) x = (x % 128 + 128) :: eW q (x / 128) := if_pos h
theorem eW_last {q : Nat} {x : Int} (h : ¬ 128 ≤ x) : eW (q + 1) x = [x] := if_neg h
set_option maxHeartbeats 8000000 in
set_option maxRecDepth 100000 in
theorem word.calls (gw : Nat) (bs : List Int) (long : Bool) (x : Int) (W w : World) (h : Wr W w gw bs long) (h0 : 0 ≤ x) (h1 : x < 18446744073709551616) (hl : bs.length ≤ 1000000000) :
  Calls Try.prog 25 #[.pointer (some ⟨gw, 0, none⟩), .int .u64 x] w fun e w' => e = .returned (.tuple #[]) ∧ Wr W w' gw (bs ++ eW 10 x) long ∧ Fr [48, 5] w w' := by
 have hu48 := Try.underlying48
 have HW := aM h
 have HL := aM hl
 have HX := aM (And.intro h0 h1)
 clear h hl h0 h1
 have HF := aM (Fr.refl [48, 5] w)
 obtain ⟨rs, hrs⟩ : ∃ r, bs ++ eW 10 x = r := ⟨_, rfl⟩
 rw [hrs]
 have HR := aM hrs
 clear hrs
 go_enter Try.func25, Try.ntmps25
 go_wp2
 go_loopg [1] 9 (fun kq v1 w' => ∃ (y : Int) (cs : List Int), v1 = .int .u64 y ∧ Aside0 (0 ≤ y ∧ y < 128 ^ (kq + 1)) ∧ Aside0 (cs ++ eW (kq + 1) y = rs) ∧ Aside0 (cs.length + kq ≤ 1000000100) ∧ Aside0 (Wr W w' gw cs long) ∧ Aside0 (Fr [48, 5] w w'))
 case atStart => exact ⟨x, bs, rfl, ⟨HX.out.1, Int.lt_of_lt_of_le HX.out.2 (by decide)⟩, HR, ⟨by have := HL.out; omega⟩, HW, HF⟩
 case round =>
  clear HW HF
  obtain ⟨y, cs, rfl, HY, HA, HC, HW, HF⟩ := hrel
  obtain ⟨⟨v, hb, hr⟩, hge, hbel⟩ := HW.out
  obtain ⟨A, c, rfl⟩ := Kd.R_slice hr
  have HB := aM hb
  have HO := aM hr
  have HG := aM (And.intro hge hbel)
  clear hb hr hge hbel HW
  have hczs := blk2 HB.out
  have NE := aM (Kd.R_away HO.out (fun _ h_ => h_) : some gw ≠ (Value.slice A cs.length c).ownBlock)
  by_cases hy : 128 ≤ y
  ·have e1 : decide (y ≥ 128) = true := decide_eq_true hy
   have e2 : decide (128 ≤ y) = true := decide_eq_true hy
   have e3 : bits BinOp.or IntKind.u8 (y % 256) 128 = y % 128 + 128 := or128 y (by omega)
   cases gk with
   | zero => exact absurd HY.out.2 (by have : ((128 : Int) ^ (0 + 1)) = 128 := by decide
                                       omega)
   | succ kq =>
    have HA2 := aM (show (cs ++ [y % 128 + 128]) ++ eW (kq + 1) (y / 128) = rs by rw [← HA.out, eW_more hy, List.append_assoc]; rfl)
    have HY2 := aM (show 0 ≤ y / 128 ∧ y / 128 < 128 ^ (kq + 1) by
      have h2 := HY.out.2
      rw [Int.pow_succ] at h2
      exact ⟨by omega, by omega⟩)
    clear hy HA
    go_wp2_with (first | ((with_reducible refine gate_builtin (b := .append) (xs := #[.tmp 10, .tmp 14]) rfl ?_); at_builtin; refine Kd.R_append (Kd.int .u8) (w0 := W) W.heap.size rfl (.tmp 10) (.tmp 14) 25 5 (.int .u8 0) 1 rfl Try.underlying25 info5 rfl (by decide) (by omega) (.slice A cs.length c) cs (y % 128 + 128) [.int .u8 (y % 128 + 128)] (fun k => k ≠ gw) (fun _ => False) rfl rfl rfl (fun _ hk => hk.elim) ?aF (pR HO.out) (below_size_ok HG.out.2) (below_size HG.out.2) ?aL ?_; (case aF => intro k hk e_; have h1 := blk_lt HB.out; subst e_; exact absurd hk (by simp; omega)); (case aL => have := HC.out; omega); intro v1 w1 ho hb hg _; obtain ⟨Ao, co, eo⟩ := Kd.R_slice ho; subst eo; rw [List.length_append, List.length_singleton] at ho; have HO1 := aM ho; have HB1 := aM (blk_grown HB.out hg NE.out); have HG1 := aM hb; have HF1 := aM (HF.out.trans (Fr.row (Q := [48, 5]) HO.out hg (by simp))); clear ho hb hg hczs; have hczs := blk2 HB1.out))
    go_roundg kq
    case measure => omega
    case rel => exact ⟨y / 128, cs ++ [y % 128 + 128], rfl, HY2, HA2, ⟨by have := HC.out; simp; omega⟩, ⟨⟨_, blk_put HB1.out 0 _ rfl, Kd.R_far HO1.out (p := ⟨gw, 0, none⟩) (fun _ h_ => h_) _⟩, HG.out.1, below_set HG1.out HG.out.1⟩, ⟨HF1.out.set HB1.out (by simp)⟩⟩
  ·have e1 : decide (y ≥ 128) = false := decide_eq_false hy
   have e2 : decide (128 ≤ y) = false := decide_eq_false hy
   have hA := HA.out
   rw [eW_last hy] at hA
   subst hA
   have e3 : y % 256 = y := by have := HY.out.1; omega
   clear HA HY HR hy
   go_wp2_with (first | ((with_reducible refine gate_builtin (b := .append) (xs := #[.tmp 24, .tmp 27]) rfl ?_); at_builtin; refine Kd.R_append (Kd.int .u8) (w0 := W) W.heap.size rfl (.tmp 24) (.tmp 27) 25 5 (.int .u8 0) 1 rfl Try.underlying25 info5 rfl (by decide) (by omega) (.slice A cs.length c) cs (y) [.int .u8 (y)] (fun k => k ≠ gw) (fun _ => False) rfl rfl rfl (fun _ hk => hk.elim) ?aF (pR HO.out) (below_size_ok HG.out.2) (below_size HG.out.2) ?aL ?_; (case aF => intro k hk e_; have h1 := blk_lt HB.out; subst e_; exact absurd hk (by simp; omega)); (case aL => have := HC.out; omega); intro v1 w1 ho hb hg _; obtain ⟨Ao, co, eo⟩ := Kd.R_slice ho; subst eo; rw [List.length_append, List.length_singleton] at ho; have HO1 := aM ho; have HB1 := aM (blk_grown HB.out hg NE.out); have HG1 := aM hb; have HF1 := aM (HF.out.trans (Fr.row (Q := [48, 5]) HO.out hg (by simp))); clear ho hb hg hczs; have hczs := blk2 HB1.out))
   refine bodyPost_end (results_none rfl _ _ _) rfl ?_
   exact ⟨rfl, ⟨⟨_, blk_put HB1.out 0 _ rfl, Kd.R_far HO1.out (p := ⟨gw, 0, none⟩) (fun _ h_ => h_) _⟩, HG.out.1, below_set HG1.out HG.out.1⟩, HF1.out.set HB1.out (by simp)⟩
end Pk
end Go.Proofs.Ytkohdojiockejaa.Q
