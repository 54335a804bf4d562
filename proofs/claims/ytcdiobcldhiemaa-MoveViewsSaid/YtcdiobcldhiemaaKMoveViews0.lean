/- Texts of the proof of MoveViews, part 0: what functions of the program compute, and that they compute it. -/
import Derived.Test.YtcdiobcldhiemaaWordsMore
import Derived.Test.YtcdiobcldhiemaaProg
import Derived.Below
import Derived.Deep.Draws
import Derived.Deep.AppendLies
import Derived.Maps.AppendAt
import Derived.OwnWalk
import Derived.Laws.BytesArg
import Derived.Laws.MakeOwn
import Derived.Laws.OwnMore
import Derived.Deep.OwnRows
import Derived.Tactics
import Derived.Lib.ConvBytes
import Derived.Laws.Slices
import Derived.WalkKit
import Derived.KernelRfl
import Derived.RowKit3
import Derived.Deep.LoopGhost
import Derived.Deep.QuietTactic
import Derived.BigQuiet
import Derived.WideLaws
import Derived.Deep.DeepCutAuto
import Derived.Deep.CutBlock
import Derived.Deep.RegionHeld3
import Derived.Laws.Rows
import Derived.Lib.AppendStr
import Derived.ArgAppend
import Derived.Laws.IdiomCopy
import Derived.OrdersHeld
import Derived.Laws.BitsLemmas
import Derived.RowKit
import Derived.WalkMore
import Derived.WalkSpells
namespace Gr
/-- The product of some numbers. -/
def prod : List Int → Int
  | [] => 1
  | x :: l => x * prod l
/-- What is wrong with dims (0: nothing). -/
def chk (d : List Int) : Int :=
  if 6 < d.length then 9 else if d.any (fun x => decide (x < 1)) then 8 else if 64 < prod d then 12 else 0
theorem prod_append (a b : List Int) : prod (a ++ b) = prod a * prod b := by
  induction a with
  | nil => simp [prod]
  | cons x a ih => simp [prod, ih, Int.mul_assoc]
theorem prod_pos (l : List Int) (h : ∀ x ∈ l, 1 ≤ x) : 1 ≤ prod l := by
  induction l with
  | nil => simp [prod]
  | cons x l ih =>
    have h1 := h x (by simp)
    have h2 := ih (fun y hy => h y (by simp [hy]))
    have h3 : 0 < x * prod l := Int.mul_pos (by omega) (by omega)
    simp only [prod]
    omega
theorem prod_take_succ (l : List Int) (k : Nat) (h : k < l.length) : prod (l.take (k + 1)) = prod (l.take k) * l[k] := by
  rw [List.take_succ_eq_append_getElem h, prod_append]
  simp [prod]
theorem prod_take_le (l : List Int) (h : ∀ x ∈ l, 1 ≤ x) (k : Nat) : prod (l.take k) ≤ prod l := by
  have e : prod l = prod (l.take k) * prod (l.drop k) := by
    rw [← prod_append, List.take_append_drop]
  have h1 := prod_pos (l.take k) (fun x hx => h x (List.mem_of_mem_take hx))
  have h2 := prod_pos (l.drop k) (fun x hx => h x (List.mem_of_mem_drop hx))
  rw [e]
  have h3 : prod (l.take k) * 1 ≤ prod (l.take k) * prod (l.drop k) := Int.mul_le_mul_of_nonneg_left h2 (by omega)
  omega
/-- The least cell, the greatest one, is there any: of how often each is one. -/
def spn : List Int → Int → Int → Int → Bool → Int × Int × Bool
  | [], _, lo, hi, sm => (lo, hi, sm)
  | x :: l, i, lo, hi, sm => if x = 0 then spn l (i + 1) lo hi sm else spn l (i + 1) (if sm = true then lo else i) i true
end Gr
namespace Go.Proofs.Ytcdiobcldhiemaa.Q
open Go.RowKit Go.Proofs.YtcdiobcldhiemaaW.PrintWords Go.Proofs.YtcdiobcldhiemaaW.PrintLast Go.Proofs.YtcdiobcldhiemaaW.PrintMore
attribute [local go_sem] max2_int min2_int max_two min_two max_three min_three max_four min_four   -- for this text's walks alone
set_option linter.unusedVariables false
set_option linter.unusedSimpArgs false
def errW : Option Int → Value
  | none => .nilIface
  | some c => .iface 0 (.int .i64 c)
theorem errW_none : errW none = .nilIface := rfl
theorem errW_some (c : Int) : errW (some c) = .iface 0 (.int .i64 c) := rfl
theorem info3 : (Try.prog.info? 3).map (fun i => (i.zero, i.size, i.bytes)) = some (some (.int .i64 0), 1, 8) := by kernel_rfl
theorem info4 : (Try.prog.info? 4).map (fun i => (i.zero, i.size, i.bytes)) = some (some (.bool false), 1, 1) := by kernel_rfl
theorem info22 : (Try.prog.info? 22).map (fun i => (i.zero, i.size, i.bytes)) = some (some (.slice none 0 0), 1, 24) := by kernel_rfl
-- the values' own types
def rd_L1 (xs : List (List Int)) (i : Int) : (List Int) := xs.getD i.toNat ([] : List Int)
theorem at_L1 {w : World} {A : Option Addr} {n : Nat} {xs : List (List Int)} (h : Kd.C (Kd.slice 3 (Kd.int .i64)) w A n xs) (i : Int) (h0 : 0 ≤ i) (h1 : i < n) : ∃ ad A0 c0, A = some ad ∧ w.cell? (ad.add i.toNat) = some (.slice A0 (rd_L1 xs i).length c0) ∧ (rd_L1 xs i).length ≤ c0 ∧ (Kd.int .i64).C w A0 (rd_L1 xs i).length (rd_L1 xs i) := by
  obtain ⟨ad, c, e, _, hK, hc0⟩ := Kd.C_get h ([] : List Int) i h0 h1
  have hc : ∀ j u, c[j]? = some u → w.cell? (ad.add (i.toNat * 1 + j)) = some u := hc0
  obtain ⟨A0, c0, rfl, l0, g0⟩ := hK
  exact ⟨ad, A0, c0, e, by have hq := hc 0 _ rfl; rwa [Nat.mul_one, Nat.add_zero] at hq, l0, g0⟩
/-! #### struct type 24 -/
structure S24 where
  f0 : Int
  f1 : Int
  f2 : Int
  f3 : Int
  f4 : Int
  f5 : Int
  f6 : Int
  f7 : Int
  f8 : Bool
  f9 : (List Int)
def z24 : S24 := ⟨(0 : Int), (0 : Int), (0 : Int), (0 : Int), (0 : Int), (0 : Int), (0 : Int), (0 : Int), false, ([] : List Int)⟩
def k24 : Kd S24 := Kd.iso (Kd.pair (Kd.int .i64) (Kd.pair (Kd.int .i64) (Kd.pair (Kd.int .i64) (Kd.pair (Kd.int .i64) (Kd.pair (Kd.int .i64) (Kd.pair (Kd.int .i64) (Kd.pair (Kd.int .i64) (Kd.pair (Kd.int .i64) (Kd.pair Kd.bool (Kd.slice 3 (Kd.int .i64))))))))))) (fun x : S24 => (x.f0, x.f1, x.f2, x.f3, x.f4, x.f5, x.f6, x.f7, x.f8, x.f9))
theorem k24_heap : Kd.Heap k24 := Kd.heap_iso _ (Kd.heap_pair (Kd.heap_int .i64) (Kd.heap_pair (Kd.heap_int .i64) (Kd.heap_pair (Kd.heap_int .i64) (Kd.heap_pair (Kd.heap_int .i64) (Kd.heap_pair (Kd.heap_int .i64) (Kd.heap_pair (Kd.heap_int .i64) (Kd.heap_pair (Kd.heap_int .i64) (Kd.heap_pair (Kd.heap_int .i64) (Kd.heap_pair Kd.heap_bool (Kd.heap_slice 3 (Kd.heap_int .i64)))))))))))
theorem k24_open {w : World} {x : S24} {cs : List Value} (h : k24.K w x cs) : ∃ A9 c9, cs = [.int .i64 x.f0, .int .i64 x.f1, .int .i64 x.f2, .int .i64 x.f3, .int .i64 x.f4, .int .i64 x.f5, .int .i64 x.f6, .int .i64 x.f7, .bool x.f8, .slice A9 x.f9.length c9] ∧ x.f9.length ≤ c9 ∧ (Kd.int .i64).C w A9 x.f9.length x.f9 := by
  obtain ⟨_, _, rfl, rfl, ⟨_, _, rfl, rfl, ⟨_, _, rfl, rfl, ⟨_, _, rfl, rfl, ⟨_, _, rfl, rfl, ⟨_, _, rfl, rfl, ⟨_, _, rfl, rfl, ⟨_, _, rfl, rfl, ⟨_, _, rfl, rfl, ⟨A9, c9, rfl, l9, g9⟩⟩⟩⟩⟩⟩⟩⟩⟩⟩ := h
  exact ⟨A9, c9, rfl, l9, g9⟩
theorem k24_openM {w : World} {base : Nat} {ok : Nat → Prop} {x : S24} {cs : List Value} (h : k24.M w base ok x cs) : ∃ v9, cs = [.int .i64 x.f0, .int .i64 x.f1, .int .i64 x.f2, .int .i64 x.f3, .int .i64 x.f4, .int .i64 x.f5, .int .i64 x.f6, .int .i64 x.f7, .bool x.f8, v9] ∧ (Kd.int .i64).R 3 w base ok v9 x.f9 := by
  obtain ⟨_, _, rfl, rfl, ⟨_, _, rfl, rfl, ⟨_, _, rfl, rfl, ⟨_, _, rfl, rfl, ⟨_, _, rfl, rfl, ⟨_, _, rfl, rfl, ⟨_, _, rfl, rfl, ⟨_, _, rfl, rfl, ⟨_, _, rfl, rfl, ⟨v9, rfl, g9⟩⟩⟩⟩⟩⟩⟩⟩⟩⟩ := h
  exact ⟨v9, rfl, g9⟩
theorem k24_mk (w : World) (x : S24) {A9 : Option Addr} {c9 : Nat} (l9 : x.f9.length ≤ c9) (g9 : (Kd.int .i64).C w A9 x.f9.length x.f9) : k24.K w x [.int .i64 x.f0, .int .i64 x.f1, .int .i64 x.f2, .int .i64 x.f3, .int .i64 x.f4, .int .i64 x.f5, .int .i64 x.f6, .int .i64 x.f7, .bool x.f8, .slice A9 x.f9.length c9] := ⟨[.int .i64 x.f0], [.int .i64 x.f1, .int .i64 x.f2, .int .i64 x.f3, .int .i64 x.f4, .int .i64 x.f5, .int .i64 x.f6, .int .i64 x.f7, .bool x.f8, .slice A9 x.f9.length c9], rfl, rfl, ⟨[.int .i64 x.f1], [.int .i64 x.f2, .int .i64 x.f3, .int .i64 x.f4, .int .i64 x.f5, .int .i64 x.f6, .int .i64 x.f7, .bool x.f8, .slice A9 x.f9.length c9], rfl, rfl, ⟨[.int .i64 x.f2], [.int .i64 x.f3, .int .i64 x.f4, .int .i64 x.f5, .int .i64 x.f6, .int .i64 x.f7, .bool x.f8, .slice A9 x.f9.length c9], rfl, rfl, ⟨[.int .i64 x.f3], [.int .i64 x.f4, .int .i64 x.f5, .int .i64 x.f6, .int .i64 x.f7, .bool x.f8, .slice A9 x.f9.length c9], rfl, rfl, ⟨[.int .i64 x.f4], [.int .i64 x.f5, .int .i64 x.f6, .int .i64 x.f7, .bool x.f8, .slice A9 x.f9.length c9], rfl, rfl, ⟨[.int .i64 x.f5], [.int .i64 x.f6, .int .i64 x.f7, .bool x.f8, .slice A9 x.f9.length c9], rfl, rfl, ⟨[.int .i64 x.f6], [.int .i64 x.f7, .bool x.f8, .slice A9 x.f9.length c9], rfl, rfl, ⟨[.int .i64 x.f7], [.bool x.f8, .slice A9 x.f9.length c9], rfl, rfl, ⟨[.bool x.f8], [.slice A9 x.f9.length c9], rfl, rfl, ⟨A9, c9, rfl, l9, g9⟩⟩⟩⟩⟩⟩⟩⟩⟩⟩
theorem k24_mkM (w : World) (base : Nat) (ok : Nat → Prop) (x : S24) {v9 : Value} (g9 : (Kd.int .i64).R 3 w base ok v9 x.f9) : k24.M w base ok x [.int .i64 x.f0, .int .i64 x.f1, .int .i64 x.f2, .int .i64 x.f3, .int .i64 x.f4, .int .i64 x.f5, .int .i64 x.f6, .int .i64 x.f7, .bool x.f8, v9] := ⟨[.int .i64 x.f0], [.int .i64 x.f1, .int .i64 x.f2, .int .i64 x.f3, .int .i64 x.f4, .int .i64 x.f5, .int .i64 x.f6, .int .i64 x.f7, .bool x.f8, v9], rfl, rfl, ⟨[.int .i64 x.f1], [.int .i64 x.f2, .int .i64 x.f3, .int .i64 x.f4, .int .i64 x.f5, .int .i64 x.f6, .int .i64 x.f7, .bool x.f8, v9], rfl, rfl, ⟨[.int .i64 x.f2], [.int .i64 x.f3, .int .i64 x.f4, .int .i64 x.f5, .int .i64 x.f6, .int .i64 x.f7, .bool x.f8, v9], rfl, rfl, ⟨[.int .i64 x.f3], [.int .i64 x.f4, .int .i64 x.f5, .int .i64 x.f6, .int .i64 x.f7, .bool x.f8, v9], rfl, rfl, ⟨[.int .i64 x.f4], [.int .i64 x.f5, .int .i64 x.f6, .int .i64 x.f7, .bool x.f8, v9], rfl, rfl, ⟨[.int .i64 x.f5], [.int .i64 x.f6, .int .i64 x.f7, .bool x.f8, v9], rfl, rfl, ⟨[.int .i64 x.f6], [.int .i64 x.f7, .bool x.f8, v9], rfl, rfl, ⟨[.int .i64 x.f7], [.bool x.f8, v9], rfl, rfl, ⟨[.bool x.f8], [v9], rfl, rfl, ⟨v9, rfl, g9⟩⟩⟩⟩⟩⟩⟩⟩⟩⟩
theorem k24_openF {W : World} {ok : Nat → Prop} {x : S24} {cs : List Value} (h : Kd.FK k24 W ok x cs) : ∃ A9 c9, cs = [.int .i64 x.f0, .int .i64 x.f1, .int .i64 x.f2, .int .i64 x.f3, .int .i64 x.f4, .int .i64 x.f5, .int .i64 x.f6, .int .i64 x.f7, .bool x.f8, .slice A9 x.f9.length c9] ∧ x.f9.length ≤ c9 ∧ Kd.F (Kd.int .i64) W ok A9 x.f9.length x.f9 := by
  obtain ⟨A9, c9, rfl, l9, _⟩ := k24_open (Kd.FK_now h)
  exact ⟨A9, c9, rfl, l9, (fun W' hW => by obtain ⟨A9_, c9_, he, l9_, g9_⟩ := k24_open (h W' hW); injection (Option.some.inj (show some (Value.slice A9 x.f9.length c9) = some (Value.slice A9_ x.f9.length c9_) from congrArg (fun l => l[9]?) he)) with ha_ _ _; rw [ha_]; exact g9_)⟩
theorem k24_mkF (W : World) (ok : Nat → Prop) (x : S24) {A9 : Option Addr} {c9 : Nat} (l9 : x.f9.length ≤ c9) (g9 : Kd.F (Kd.int .i64) W ok A9 x.f9.length x.f9) : Kd.FK k24 W ok x [.int .i64 x.f0, .int .i64 x.f1, .int .i64 x.f2, .int .i64 x.f3, .int .i64 x.f4, .int .i64 x.f5, .int .i64 x.f6, .int .i64 x.f7, .bool x.f8, .slice A9 x.f9.length c9] := fun W2 hW => k24_mk W2 x l9 (g9 W2 hW)
def rd_T24 (xs : List S24) (i : Int) : S24 := xs.getD i.toNat z24
theorem at_T24 {w : World} {A : Option Addr} {n : Nat} {xs : List S24} (h : Kd.C k24 w A n xs) (i : Int) (h0 : 0 ≤ i) (h1 : i < n) : ∃ ad A9 c9, A = some ad ∧ w.cell? (ad.add (i.toNat * 10)) = some (.int .i64 (rd_T24 xs i).f0) ∧ w.cell? ⟨(ad.add (i.toNat * 10)).block, (ad.add (i.toNat * 10)).off + 1, none⟩ = some (.int .i64 (rd_T24 xs i).f1) ∧ w.cell? ⟨(ad.add (i.toNat * 10)).block, (ad.add (i.toNat * 10)).off + 2, none⟩ = some (.int .i64 (rd_T24 xs i).f2) ∧ w.cell? ⟨(ad.add (i.toNat * 10)).block, (ad.add (i.toNat * 10)).off + 3, none⟩ = some (.int .i64 (rd_T24 xs i).f3) ∧ w.cell? ⟨(ad.add (i.toNat * 10)).block, (ad.add (i.toNat * 10)).off + 4, none⟩ = some (.int .i64 (rd_T24 xs i).f4) ∧ w.cell? ⟨(ad.add (i.toNat * 10)).block, (ad.add (i.toNat * 10)).off + 5, none⟩ = some (.int .i64 (rd_T24 xs i).f5) ∧ w.cell? ⟨(ad.add (i.toNat * 10)).block, (ad.add (i.toNat * 10)).off + 6, none⟩ = some (.int .i64 (rd_T24 xs i).f6) ∧ w.cell? ⟨(ad.add (i.toNat * 10)).block, (ad.add (i.toNat * 10)).off + 7, none⟩ = some (.int .i64 (rd_T24 xs i).f7) ∧ w.cell? ⟨(ad.add (i.toNat * 10)).block, (ad.add (i.toNat * 10)).off + 8, none⟩ = some (.bool (rd_T24 xs i).f8) ∧ w.cell? ⟨(ad.add (i.toNat * 10)).block, (ad.add (i.toNat * 10)).off + 9, none⟩ = some (.slice A9 (rd_T24 xs i).f9.length c9) ∧ (rd_T24 xs i).f9.length ≤ c9 ∧ (Kd.int .i64).C w A9 (rd_T24 xs i).f9.length (rd_T24 xs i).f9 := by
  obtain ⟨ad, c, e, _, hK, hc0⟩ := Kd.C_get h z24 i h0 h1
  have hc : ∀ j u, c[j]? = some u → w.cell? (ad.add (i.toNat * 10 + j)) = some u := hc0
  obtain ⟨A9, c9, rfl, l9, g9⟩ := k24_open hK
  exact ⟨ad, A9, c9, e, hc 0 _ rfl, by rw [← add_field _ _ 1 (by omega)]; exact hc 1 _ rfl, by rw [← add_field _ _ 2 (by omega)]; exact hc 2 _ rfl, by rw [← add_field _ _ 3 (by omega)]; exact hc 3 _ rfl, by rw [← add_field _ _ 4 (by omega)]; exact hc 4 _ rfl, by rw [← add_field _ _ 5 (by omega)]; exact hc 5 _ rfl, by rw [← add_field _ _ 6 (by omega)]; exact hc 6 _ rfl, by rw [← add_field _ _ 7 (by omega)]; exact hc 7 _ rfl, by rw [← add_field _ _ 8 (by omega)]; exact hc 8 _ rfl, by rw [← add_field _ _ 9 (by omega)]; exact hc 9 _ rfl, l9, g9⟩
theorem pB {p q : Prop} (x : q) (h : q → p := by intro h_; repeat (first | (with_reducible first | exact h_ | apply below_alloc | apply pw_below_drewN | apply below_drew1) | exact h_)) : p := h x
theorem pR {p q : Prop} (x : q) (h : q → p := by intro h_; (with_reducible repeat (first | apply Kd.R_alloc | apply Kd.R_drewN | apply Kd.R_drew)); exact h_) : p := h x
theorem pV {p q : Prop} (x : q) (h : q → p := by intro h_; (with_reducible repeat (first | apply Kd.V_alloc | apply Kd.V_drewN | apply Kd.V_drew)); exact h_) : p := h x
theorem pC {p q : Prop} (x : q) (h : q → p := by intro h_; repeat (first | exact h_ | (with_reducible refine Kd.C_alloc ?_ _) | (with_reducible refine Kd.C_drewN ?_ _) | (with_reducible refine Kd.C_drew ?_))) : p := h x
theorem pA {p : Prop} (h : p := by (try simp only [List.map_toArray, List.map_cons, List.map_nil]); first | done | rfl | (simp only [List.length_drop, List.length_take]; rfl)) : p := h
theorem pB1 {p q g0 : Prop} (x : q) (yg0 : g0) (h : q → g0 → p := by intro h_ hg0_; repeat (first | (with_reducible first | exact h_ | apply below_alloc | apply pw_below_drewN | apply below_drew1 | refine below_set ?_ hg0_) | exact h_)) : p := h x yg0
theorem pB2 {p q g0 g1 : Prop} (x : q) (yg0 : g0) (yg1 : g1) (h : q → g0 → g1 → p := by intro h_ hg0_ hg1_; repeat (first | (with_reducible first | exact h_ | apply below_alloc | apply pw_below_drewN | apply below_drew1 | refine below_set ?_ hg0_ | refine below_set ?_ hg1_) | exact h_)) : p := h x yg0 yg1
theorem pB3 {p q g0 g1 g2 : Prop} (x : q) (yg0 : g0) (yg1 : g1) (yg2 : g2) (h : q → g0 → g1 → g2 → p := by intro h_ hg0_ hg1_ hg2_; repeat (first | (with_reducible first | exact h_ | apply below_alloc | apply pw_below_drewN | apply below_drew1 | refine below_set ?_ hg0_ | refine below_set ?_ hg1_ | refine below_set ?_ hg2_) | exact h_)) : p := h x yg0 yg1 yg2
theorem pB4 {p q g0 g1 g2 g3 : Prop} (x : q) (yg0 : g0) (yg1 : g1) (yg2 : g2) (yg3 : g3) (h : q → g0 → g1 → g2 → g3 → p := by intro h_ hg0_ hg1_ hg2_ hg3_; repeat (first | (with_reducible first | exact h_ | apply below_alloc | apply pw_below_drewN | apply below_drew1 | refine below_set ?_ hg0_ | refine below_set ?_ hg1_ | refine below_set ?_ hg2_ | refine below_set ?_ hg3_) | exact h_)) : p := h x yg0 yg1 yg2 yg3
theorem pB5 {p q g0 g1 g2 g3 g4 : Prop} (x : q) (yg0 : g0) (yg1 : g1) (yg2 : g2) (yg3 : g3) (yg4 : g4) (h : q → g0 → g1 → g2 → g3 → g4 → p := by intro h_ hg0_ hg1_ hg2_ hg3_ hg4_; repeat (first | (with_reducible first | exact h_ | apply below_alloc | apply pw_below_drewN | apply below_drew1 | refine below_set ?_ hg0_ | refine below_set ?_ hg1_ | refine below_set ?_ hg2_ | refine below_set ?_ hg3_ | refine below_set ?_ hg4_) | exact h_)) : p := h x yg0 yg1 yg2 yg3 yg4
theorem bN {w : World} {g : Nat} {o : Obj} {n : Nat} (h : w.heap[g]? = some o) : (w.drewN n).heap[g]? = some o := blk_drewN h n
theorem bD {w : World} {g : Nat} {o : Obj} (h : w.heap[g]? = some o) : w.drew.heap[g]? = some o := blk_drew h
theorem bA {w : World} {g : Nat} {o o' : Obj} (h : w.heap[g]? = some o) : (w.alloc o').heap[g]? = some o := blk_alloc h o'
theorem pK {p q : Prop} (x : q) (h : q → p := by intro h_; (with_reducible repeat (first | apply bN | apply bD | apply bA)); exact h_) : p := h x
theorem pE {p : Prop} (h : p := by first | rfl | (simp [errW_none, errW_some] <;> rfl) | (simp [*, errW_none, errW_some] <;> rfl)) : p := h
theorem pF {p : Prop} (h : p := by first | rfl | (simp; done) | (simp [*]; done)) : p := h
section
variable {P : Program} {ops : Array Oper} {Q : Exit → Act → World → Prop} {md : Region.Mode} {S : World → Prop} {ds : List Nat} {T : Bool × List (List Nat × List Nat)} {i : Nat} {N : Option Tmp} {oi : Oper} {v : Value} {fuel : Nat} {l : Array Bool} {a a' : Act} {w : World}
theorem pP (l' : Array Bool) (hi : ops[i]? = some oi) (hN : oi.dst = N) (hT : rtab md ops = T) (h : wpAnyLast P md ops Q S ds fuel l' a' w) (hc : anyT T l.toList l'.toList i = true := by kernel_rfl) (hQ : ∀ c a w, Q (.panic c) (a.put oi.dst v) w → Q (.panic c) a w := by exact fun _ _ _ h => h)
  (hy : Yields P ops oi v a := by refine Or.inl ⟨by rfl, ?_⟩; intro w'; go_simp; with_reducible rfl) (ha : a.put N v = a' := by simp only [Act.put, List.setIfInBounds_toArray, List.set_cons_zero, List.set_cons_succ, i64_w, i32_w]; rfl) : wpAnyLast P md ops Q S ds (fuel + 1) l a w := pure_ l' hi hN (any_of hT hc) hQ hy ha h
theorem pT {B : List Nat} (l' : Array Bool) (hi : ops[i]? = some oi) (hN : oi.dst = N) (hT : rtab md ops = T) (hB : waitsOk T.2 B = true) (hS : S w) (hy : ∀ w', S w' → (execOp a.eval oi).run P w' = .ok (.value v) w') (h : wpAnyLast P md ops Q S ds fuel l' a' w) (hc : takeW T B ds l.toList l'.toList i = true := by kernel_rfl) (hQ : ∀ c a w, Q (.panic c) (a.put oi.dst v) w → Q (.panic c) a w := by exact fun _ _ _ h => h)
  (hw : Region.wanted oi (yielded ops a.tmps) = true := by rfl) (ha : a.put N v = a' := by simp only [Act.put, List.setIfInBounds_toArray, List.set_cons_zero, List.set_cons_succ, i64_w, i32_w]; rfl) : wpAnyLast P md ops Q S ds (fuel + 1) l a w := take_ l' hi hN (take_ofW hT hB hc) hQ (Or.inl ⟨hw, hy⟩) hS ha h
end
theorem pD {p : Prop} (h : p := by first | (with_reducible assumption) | assumption) : p := h
theorem aM {p : Prop} (h : p) : Aside0 p := ⟨h⟩
theorem pH {α : Type} {p q : Prop} {a b : α} (e : a = b) (x : q) (h : a = b → q → p := by intro hy_ H; first | (rw [hy_]; with_reducible exact H) | (have H2_ := (Option.bind_some _ _).symm.trans H; rw [hy_]; with_reducible exact H2_) | (have H2_ := (Option.bind_some _ _).symm.trans H; with_reducible exact H2_) | with_reducible exact H | (rw [hy_]; exact H) | exact H) : p := h e x
theorem pN {p : Prop} (h : p := by first | exact Kd.R_nil _ _ _ _ _ | exact Kd.N_nil _ _ _ _ _ | exact Kd.V_nil _ _ _ _ _ | exact Kd.Q_nil _ _ _ _ _ | exact Kd.S_nil _ _ _ _ _) : p := h
section
variable {α : Type} {d : Kd α} {e base : Nat} {ok : Nat → Prop} {w : World} {v : Value} {xs : List α}
theorem rA (h : d.R e w base ok v xs) (o : Obj) : d.R e (w.alloc o) base ok v xs := Kd.R_alloc h o
theorem rN (h : d.R e w base ok v xs) (m : Nat) : d.R e (w.drewN m) base ok v xs := Kd.R_drewN h m
theorem rD (h : d.R e w base ok v xs) : d.R e w.drew base ok v xs := Kd.R_drew h
end
theorem blk2 {w : World} {g : Nat} {t : TypeId} {a0 a1 : Value} (h : w.heap[g]? = some (.cells #[a0, a1] t (0, 0))) : w.cell? ⟨g, 0, none⟩ = some a0 ∧ w.cell? ⟨g, 1, none⟩ = some a1 ∧ w.frozen? ⟨g, 0, none⟩ = false ∧ w.frozen? ⟨g, 1, none⟩ = false := ⟨(blk_cell h 0).trans rfl, (blk_cell h 1).trans rfl, blk_frozen h 0, blk_frozen h 1⟩
theorem blk3 {w : World} {g : Nat} {t : TypeId} {a0 a1 a2 : Value} (h : w.heap[g]? = some (.cells #[a0, a1, a2] t (0, 0))) : w.cell? ⟨g, 0, none⟩ = some a0 ∧ w.cell? ⟨g, 1, none⟩ = some a1 ∧ w.cell? ⟨g, 2, none⟩ = some a2 ∧ w.frozen? ⟨g, 0, none⟩ = false ∧ w.frozen? ⟨g, 1, none⟩ = false ∧ w.frozen? ⟨g, 2, none⟩ = false := ⟨(blk_cell h 0).trans rfl, (blk_cell h 1).trans rfl, (blk_cell h 2).trans rfl, blk_frozen h 0, blk_frozen h 1, blk_frozen h 2⟩
theorem blk4 {w : World} {g : Nat} {t : TypeId} {a0 a1 a2 a3 : Value} (h : w.heap[g]? = some (.cells #[a0, a1, a2, a3] t (0, 0))) : w.cell? ⟨g, 0, none⟩ = some a0 ∧ w.cell? ⟨g, 1, none⟩ = some a1 ∧ w.cell? ⟨g, 2, none⟩ = some a2 ∧ w.cell? ⟨g, 3, none⟩ = some a3 ∧ w.frozen? ⟨g, 0, none⟩ = false ∧ w.frozen? ⟨g, 1, none⟩ = false ∧ w.frozen? ⟨g, 2, none⟩ = false ∧ w.frozen? ⟨g, 3, none⟩ = false := ⟨(blk_cell h 0).trans rfl, (blk_cell h 1).trans rfl, (blk_cell h 2).trans rfl, (blk_cell h 3).trans rfl, blk_frozen h 0, blk_frozen h 1, blk_frozen h 2, blk_frozen h 3⟩
theorem blk5 {w : World} {g : Nat} {t : TypeId} {a0 a1 a2 a3 a4 : Value} (h : w.heap[g]? = some (.cells #[a0, a1, a2, a3, a4] t (0, 0))) : w.cell? ⟨g, 0, none⟩ = some a0 ∧ w.cell? ⟨g, 1, none⟩ = some a1 ∧ w.cell? ⟨g, 2, none⟩ = some a2 ∧ w.cell? ⟨g, 3, none⟩ = some a3 ∧ w.cell? ⟨g, 4, none⟩ = some a4 ∧ w.frozen? ⟨g, 0, none⟩ = false ∧ w.frozen? ⟨g, 1, none⟩ = false ∧ w.frozen? ⟨g, 2, none⟩ = false ∧ w.frozen? ⟨g, 3, none⟩ = false ∧ w.frozen? ⟨g, 4, none⟩ = false := ⟨(blk_cell h 0).trans rfl, (blk_cell h 1).trans rfl, (blk_cell h 2).trans rfl, (blk_cell h 3).trans rfl, (blk_cell h 4).trans rfl, blk_frozen h 0, blk_frozen h 1, blk_frozen h 2, blk_frozen h 3, blk_frozen h 4⟩
theorem blk6 {w : World} {g : Nat} {t : TypeId} {a0 a1 a2 a3 a4 a5 : Value} (h : w.heap[g]? = some (.cells #[a0, a1, a2, a3, a4, a5] t (0, 0))) : w.cell? ⟨g, 0, none⟩ = some a0 ∧ w.cell? ⟨g, 1, none⟩ = some a1 ∧ w.cell? ⟨g, 2, none⟩ = some a2 ∧ w.cell? ⟨g, 3, none⟩ = some a3 ∧ w.cell? ⟨g, 4, none⟩ = some a4 ∧ w.cell? ⟨g, 5, none⟩ = some a5 ∧ w.frozen? ⟨g, 0, none⟩ = false ∧ w.frozen? ⟨g, 1, none⟩ = false ∧ w.frozen? ⟨g, 2, none⟩ = false ∧ w.frozen? ⟨g, 3, none⟩ = false ∧ w.frozen? ⟨g, 4, none⟩ = false ∧ w.frozen? ⟨g, 5, none⟩ = false := ⟨(blk_cell h 0).trans rfl, (blk_cell h 1).trans rfl, (blk_cell h 2).trans rfl, (blk_cell h 3).trans rfl, (blk_cell h 4).trans rfl, (blk_cell h 5).trans rfl, blk_frozen h 0, blk_frozen h 1, blk_frozen h 2, blk_frozen h 3, blk_frozen h 4, blk_frozen h 5⟩
theorem blk7 {w : World} {g : Nat} {t : TypeId} {a0 a1 a2 a3 a4 a5 a6 : Value} (h : w.heap[g]? = some (.cells #[a0, a1, a2, a3, a4, a5, a6] t (0, 0))) : w.cell? ⟨g, 0, none⟩ = some a0 ∧ w.cell? ⟨g, 1, none⟩ = some a1 ∧ w.cell? ⟨g, 2, none⟩ = some a2 ∧ w.cell? ⟨g, 3, none⟩ = some a3 ∧ w.cell? ⟨g, 4, none⟩ = some a4 ∧ w.cell? ⟨g, 5, none⟩ = some a5 ∧ w.cell? ⟨g, 6, none⟩ = some a6 ∧ w.frozen? ⟨g, 0, none⟩ = false ∧ w.frozen? ⟨g, 1, none⟩ = false ∧ w.frozen? ⟨g, 2, none⟩ = false ∧ w.frozen? ⟨g, 3, none⟩ = false ∧ w.frozen? ⟨g, 4, none⟩ = false ∧ w.frozen? ⟨g, 5, none⟩ = false ∧ w.frozen? ⟨g, 6, none⟩ = false := ⟨(blk_cell h 0).trans rfl, (blk_cell h 1).trans rfl, (blk_cell h 2).trans rfl, (blk_cell h 3).trans rfl, (blk_cell h 4).trans rfl, (blk_cell h 5).trans rfl, (blk_cell h 6).trans rfl, blk_frozen h 0, blk_frozen h 1, blk_frozen h 2, blk_frozen h 3, blk_frozen h 4, blk_frozen h 5, blk_frozen h 6⟩
theorem blk8 {w : World} {g : Nat} {t : TypeId} {a0 a1 a2 a3 a4 a5 a6 a7 : Value} (h : w.heap[g]? = some (.cells #[a0, a1, a2, a3, a4, a5, a6, a7] t (0, 0))) : w.cell? ⟨g, 0, none⟩ = some a0 ∧ w.cell? ⟨g, 1, none⟩ = some a1 ∧ w.cell? ⟨g, 2, none⟩ = some a2 ∧ w.cell? ⟨g, 3, none⟩ = some a3 ∧ w.cell? ⟨g, 4, none⟩ = some a4 ∧ w.cell? ⟨g, 5, none⟩ = some a5 ∧ w.cell? ⟨g, 6, none⟩ = some a6 ∧ w.cell? ⟨g, 7, none⟩ = some a7 ∧ w.frozen? ⟨g, 0, none⟩ = false ∧ w.frozen? ⟨g, 1, none⟩ = false ∧ w.frozen? ⟨g, 2, none⟩ = false ∧ w.frozen? ⟨g, 3, none⟩ = false ∧ w.frozen? ⟨g, 4, none⟩ = false ∧ w.frozen? ⟨g, 5, none⟩ = false ∧ w.frozen? ⟨g, 6, none⟩ = false ∧ w.frozen? ⟨g, 7, none⟩ = false := ⟨(blk_cell h 0).trans rfl, (blk_cell h 1).trans rfl, (blk_cell h 2).trans rfl, (blk_cell h 3).trans rfl, (blk_cell h 4).trans rfl, (blk_cell h 5).trans rfl, (blk_cell h 6).trans rfl, (blk_cell h 7).trans rfl, blk_frozen h 0, blk_frozen h 1, blk_frozen h 2, blk_frozen h 3, blk_frozen h 4, blk_frozen h 5, blk_frozen h 6, blk_frozen h 7⟩
theorem blk9 {w : World} {g : Nat} {t : TypeId} {a0 a1 a2 a3 a4 a5 a6 a7 a8 : Value} (h : w.heap[g]? = some (.cells #[a0, a1, a2, a3, a4, a5, a6, a7, a8] t (0, 0))) : w.cell? ⟨g, 0, none⟩ = some a0 ∧ w.cell? ⟨g, 1, none⟩ = some a1 ∧ w.cell? ⟨g, 2, none⟩ = some a2 ∧ w.cell? ⟨g, 3, none⟩ = some a3 ∧ w.cell? ⟨g, 4, none⟩ = some a4 ∧ w.cell? ⟨g, 5, none⟩ = some a5 ∧ w.cell? ⟨g, 6, none⟩ = some a6 ∧ w.cell? ⟨g, 7, none⟩ = some a7 ∧ w.cell? ⟨g, 8, none⟩ = some a8 ∧ w.frozen? ⟨g, 0, none⟩ = false ∧ w.frozen? ⟨g, 1, none⟩ = false ∧ w.frozen? ⟨g, 2, none⟩ = false ∧ w.frozen? ⟨g, 3, none⟩ = false ∧ w.frozen? ⟨g, 4, none⟩ = false ∧ w.frozen? ⟨g, 5, none⟩ = false ∧ w.frozen? ⟨g, 6, none⟩ = false ∧ w.frozen? ⟨g, 7, none⟩ = false ∧ w.frozen? ⟨g, 8, none⟩ = false := ⟨(blk_cell h 0).trans rfl, (blk_cell h 1).trans rfl, (blk_cell h 2).trans rfl, (blk_cell h 3).trans rfl, (blk_cell h 4).trans rfl, (blk_cell h 5).trans rfl, (blk_cell h 6).trans rfl, (blk_cell h 7).trans rfl, (blk_cell h 8).trans rfl, blk_frozen h 0, blk_frozen h 1, blk_frozen h 2, blk_frozen h 3, blk_frozen h 4, blk_frozen h 5, blk_frozen h 6, blk_frozen h 7, blk_frozen h 8⟩
theorem blk10 {w : World} {g : Nat} {t : TypeId} {a0 a1 a2 a3 a4 a5 a6 a7 a8 a9 : Value} (h : w.heap[g]? = some (.cells #[a0, a1, a2, a3, a4, a5, a6, a7, a8, a9] t (0, 0))) : w.cell? ⟨g, 0, none⟩ = some a0 ∧ w.cell? ⟨g, 1, none⟩ = some a1 ∧ w.cell? ⟨g, 2, none⟩ = some a2 ∧ w.cell? ⟨g, 3, none⟩ = some a3 ∧ w.cell? ⟨g, 4, none⟩ = some a4 ∧ w.cell? ⟨g, 5, none⟩ = some a5 ∧ w.cell? ⟨g, 6, none⟩ = some a6 ∧ w.cell? ⟨g, 7, none⟩ = some a7 ∧ w.cell? ⟨g, 8, none⟩ = some a8 ∧ w.cell? ⟨g, 9, none⟩ = some a9 ∧ w.frozen? ⟨g, 0, none⟩ = false ∧ w.frozen? ⟨g, 1, none⟩ = false ∧ w.frozen? ⟨g, 2, none⟩ = false ∧ w.frozen? ⟨g, 3, none⟩ = false ∧ w.frozen? ⟨g, 4, none⟩ = false ∧ w.frozen? ⟨g, 5, none⟩ = false ∧ w.frozen? ⟨g, 6, none⟩ = false ∧ w.frozen? ⟨g, 7, none⟩ = false ∧ w.frozen? ⟨g, 8, none⟩ = false ∧ w.frozen? ⟨g, 9, none⟩ = false := ⟨(blk_cell h 0).trans rfl, (blk_cell h 1).trans rfl, (blk_cell h 2).trans rfl, (blk_cell h 3).trans rfl, (blk_cell h 4).trans rfl, (blk_cell h 5).trans rfl, (blk_cell h 6).trans rfl, (blk_cell h 7).trans rfl, (blk_cell h 8).trans rfl, (blk_cell h 9).trans rfl, blk_frozen h 0, blk_frozen h 1, blk_frozen h 2, blk_frozen h 3, blk_frozen h 4, blk_frozen h 5, blk_frozen h 6, blk_frozen h 7, blk_frozen h 8, blk_frozen h 9⟩
theorem sP : (∀ {α : Type} (l : List α) (i : Nat) (a : α), l.toArray.setIfInBounds i a = (l.set i a).toArray) ∧ (∀ {α : Type} (a b : α) (l : List α), (a :: l).set 0 b = b :: l) ∧ (∀ {α : Type} (a b : α) (l : List α) (n : Nat), (a :: l).set (n + 1) b = a :: l.set n b) := ⟨fun _ _ _ => by simp, fun _ _ _ => rfl, fun _ _ _ _ => rfl⟩
abbrev bm (n m : Nat) : Array Bool := ((List.range n).map fun i => m.testBit i).toArray
section
variable {w W w1 : World} {g n : Nat} {o : Obj} {q : Prop}
theorem bK (x : Aside0 q) (hb : Below w.heap.size w w1) (h : q → w.heap[g]? = some o := by intro h_; (with_reducible repeat (first | apply bN | apply bD | apply bA)); exact h_) : Aside0 (w1.heap[g]? = some o) := ⟨blk_below (h x.out) hb⟩
theorem nL (hg : n = w.heap.size) (x : Aside0 q) (h : q → w.heap[g]? = some o := by intro h_; (with_reducible repeat (first | apply bN | apply bD | apply bA)); exact h_) : Aside0 (g ≠ n) := ⟨hg ▸ Nat.ne_of_lt (blk_lt (h x.out))⟩
theorem nG (hg : n = w.heap.size) (x : Aside0 q) (h : q → w.heap[g]? = some o := by intro h_; (with_reducible repeat (first | apply bN | apply bD | apply bA)); exact h_) : Aside0 (n ≠ g) := ⟨hg ▸ Nat.ne_of_gt (blk_lt (h x.out))⟩
theorem bS (h : Below w.heap.size w W) (k : Below W.heap.size W w1) : Aside0 (Below w.heap.size w w1) := ⟨below_step h k⟩
theorem gE (hg : g = W.heap.size) (h : Below w.heap.size w W) : Aside0 (w.heap.size ≤ g) := ⟨hg ▸ below_size h⟩
theorem qB {p : Prop} (x : Aside0 q) (h : q → p := by intro h_; repeat (first | (with_reducible first | exact h_ | apply below_alloc | apply pw_below_drewN | apply below_drew1) | exact h_)) : p := h x.out
theorem h3 {a0 a1 a2 : Value} {t : TypeId} (h : Aside0 (w.heap[g]? = some (.cells #[a0, a1, a2] t (0, 0)))) : w.cell? ⟨g, 0, none⟩ = some a0 ∧ w.cell? ⟨g, 1, none⟩ = some a1 ∧ w.cell? ⟨g, 2, none⟩ = some a2 := ⟨(blk_cell h.out 0).trans rfl, (blk_cell h.out 1).trans rfl, (blk_cell h.out 2).trans rfl⟩
theorem B3 {u0 u1 u2 : Value} {i0 i1 i2 : Nat} {g' : Nat} {t : TypeId} {cs : Array Value} (hne : Aside0 (g ≠ g')) (h : w.heap[g]? = some (.cells cs t (0, 0))) : (((w.setCell ⟨g', i0, none⟩ u0).setCell ⟨g', i1, none⟩ u1).setCell ⟨g', i2, none⟩ u2).heap[g]? = some (.cells cs t (0, 0)) := blk_far (blk_far (blk_far h hne.out _) hne.out _) hne.out _
theorem P3 {a0 a1 a2 u0 u1 u2 : Value} {t : TypeId} (h : Aside0 (w.heap[g]? = some (.cells #[a0, a1, a2] t (0, 0)))) : (((w.setCell ⟨g, 0, none⟩ u0).setCell ⟨g, 1, none⟩ u1).setCell ⟨g, 2, none⟩ u2).heap[g]? = some (.cells #[u0, u1, u2] t (0, 0)) := blk_put (cs := #[u0, u1, a2]) (blk_put (cs := #[u0, a1, a2]) (blk_put (cs := #[a0, a1, a2]) h.out 0 u0 rfl) 1 u1 rfl) 2 u2 rfl
section
variable {α β : Type} {d : Kd α} {e base : Nat} {ok ok' : Nat → Prop} {v : Value} {xs : List α}
theorem bR (x : Aside0 q) (hb : Below w.heap.size w w1) (h : q → d.R e w base ok v xs := by intro h_; (with_reducible repeat (first | apply Kd.R_alloc | apply Kd.R_drewN | apply Kd.R_drew)); exact h_) : Aside0 (d.R e w1 base ok v xs) := ⟨Kd.R_below (h x.out) hb⟩
theorem eR {u : Value} {ys : List β} {e' : Nat} {d' : Kd β} (x : Aside0 q) (ho : d'.R e' w1 W.heap.size ok' u ys) (hb : Below W.heap.size W w1) (h : q → d.R e W base ok v xs := by intro h_; (with_reducible repeat (first | apply Kd.R_alloc | apply Kd.R_drewN | apply Kd.R_drew)); exact h_) : Aside0 (d.R e w1 base (fun k => ok k ∧ some k ≠ u.ownBlock) v xs) := ⟨Kd.R_elder' (h x.out) (Kd.R_base ho) hb⟩
theorem eR2 {γ : Type} {u u' : Value} {ys : List β} {zs : List γ} {e' e'' : Nat} {ok'' : Nat → Prop} {d' : Kd β} {d'' : Kd γ} (x : Aside0 q) (ho : d'.R e' w1 W.heap.size ok' u ys) (ho' : d''.R e'' w1 W.heap.size ok'' u' zs) (hb : Below W.heap.size W w1) (h : q → d.R e W base ok v xs := by intro h_; (with_reducible repeat (first | apply Kd.R_alloc | apply Kd.R_drewN | apply Kd.R_drew)); exact h_) : Aside0 (d.R e w1 base (fun k => (ok k ∧ some k ≠ u.ownBlock) ∧ some k ≠ u'.ownBlock) v xs) := ⟨Kd.R_mono (Kd.R_told (Kd.R_told (Kd.R_old (h x.out) hb) (Kd.R_base ho)) (Kd.R_base ho')) (fun _ h_ => h_.1)⟩
theorem sR {A : Option Addr} {m c : Nat} {p : Prop} (x : Aside0 (d.R e w base ok (.slice A m c) xs)) (h : d.C w A xs.length xs → p := by intro h_; repeat (first | exact h_ | (with_reducible refine Kd.C_alloc ?_ _) | (with_reducible refine Kd.C_drewN ?_ _) | (with_reducible refine Kd.C_drew ?_))) : p := h (Kd.R_reads' x.out).2.2
theorem sL {A : Option Addr} {m c : Nat} (x : Aside0 (d.R e w base ok (.slice A m c) xs)) : m ≤ c := (Kd.R_reads' x.out).2.1
theorem sC {A : Option Addr} {m : Nat} {p : Prop} (x : Aside0 (d.C w A m xs)) (hb : Aside0 (Below w.heap.size w w1)) (h : d.C w1 A m xs → p := by intro h_; repeat (first | exact h_ | (with_reducible refine Kd.C_alloc ?_ _) | (with_reducible refine Kd.C_drewN ?_ _) | (with_reducible refine Kd.C_drew ?_))) : p := h (Kd.C_below x.out hb.out)
theorem F3 {cells : Array Value} {t : TypeId} {u0 u1 u2 : Value} (h : Aside0 (d.R e w base ok v xs)) (hb : Aside0 (w.heap[g]? = some (.cells cells t (0, 0)))) (hk : ∀ k, ok k ∧ k ≠ g → ok' k) (ht : ∀ q, q ∈ e :: d.E → q ≠ t := by decide) : d.R e (((w.setCell ⟨g, 0, none⟩ u0).setCell ⟨g, 1, none⟩ u1).setCell ⟨g, 2, none⟩ u2) base ok' v xs := Kd.R_mono (Kd.R_far (p := ⟨g, 2, none⟩) (Kd.R_far (p := ⟨g, 1, none⟩) (Kd.R_far (p := ⟨g, 0, none⟩) (Kd.R_types h.out hb.out ht) (fun _ h => h.2) u0) (fun _ h => h.2) u1) (fun _ h => h.2) u2) hk
end
end
theorem qB1 {p q g0 : Prop} (x : Aside0 q) (yg0 : Aside0 g0) (h : q → g0 → p := by intro h_ hg0_; repeat (first | (with_reducible first | exact h_ | apply below_alloc | apply pw_below_drewN | apply below_drew1 | refine below_set ?_ hg0_) | exact h_)) : p := h x.out yg0.out
theorem qB2 {p q g0 g1 : Prop} (x : Aside0 q) (yg0 : Aside0 g0) (yg1 : Aside0 g1) (h : q → g0 → g1 → p := by intro h_ hg0_ hg1_; repeat (first | (with_reducible first | exact h_ | apply below_alloc | apply pw_below_drewN | apply below_drew1 | refine below_set ?_ hg0_ | refine below_set ?_ hg1_) | exact h_)) : p := h x.out yg0.out yg1.out
theorem qB3 {p q g0 g1 g2 : Prop} (x : Aside0 q) (yg0 : Aside0 g0) (yg1 : Aside0 g1) (yg2 : Aside0 g2) (h : q → g0 → g1 → g2 → p := by intro h_ hg0_ hg1_ hg2_; repeat (first | (with_reducible first | exact h_ | apply below_alloc | apply pw_below_drewN | apply below_drew1 | refine below_set ?_ hg0_ | refine below_set ?_ hg1_ | refine below_set ?_ hg2_) | exact h_)) : p := h x.out yg0.out yg1.out yg2.out
theorem qB4 {p q g0 g1 g2 g3 : Prop} (x : Aside0 q) (yg0 : Aside0 g0) (yg1 : Aside0 g1) (yg2 : Aside0 g2) (yg3 : Aside0 g3) (h : q → g0 → g1 → g2 → g3 → p := by intro h_ hg0_ hg1_ hg2_ hg3_; repeat (first | (with_reducible first | exact h_ | apply below_alloc | apply pw_below_drewN | apply below_drew1 | refine below_set ?_ hg0_ | refine below_set ?_ hg1_ | refine below_set ?_ hg2_ | refine below_set ?_ hg3_) | exact h_)) : p := h x.out yg0.out yg1.out yg2.out yg3.out
theorem qB5 {p q g0 g1 g2 g3 g4 : Prop} (x : Aside0 q) (yg0 : Aside0 g0) (yg1 : Aside0 g1) (yg2 : Aside0 g2) (yg3 : Aside0 g3) (yg4 : Aside0 g4) (h : q → g0 → g1 → g2 → g3 → g4 → p := by intro h_ hg0_ hg1_ hg2_ hg3_ hg4_; repeat (first | (with_reducible first | exact h_ | apply below_alloc | apply pw_below_drewN | apply below_drew1 | refine below_set ?_ hg0_ | refine below_set ?_ hg1_ | refine below_set ?_ hg2_ | refine below_set ?_ hg3_ | refine below_set ?_ hg4_) | exact h_)) : p := h x.out yg0.out yg1.out yg2.out yg3.out yg4.out
theorem w64o {x : Int} (h0 : -9223372036854775808 ≤ x) (h1 : x < 9223372036854775808) : wrap64 x = x := by unfold Go.RowKit.wrap64; omega
def vals (l : List Int) : Array Value := (l.map (Value.int .i64)).toArray
def zeros : List Int := List.replicate 64 0
theorem vals_cell {w : World} {g t : Nat} {s : List Int} (h : w.heap[g]? = some (.cells (vals s) t (0, 0))) (i : Int) (h0 : 0 ≤ i) (h1 : i < s.length) : w.cell? ⟨g, i.toNat, none⟩ = some (.int .i64 (rd s i)) := by
  rw [blk_cell h]
  have hi : i.toNat < s.length := by omega
  simp [vals, rd, List.getD_eq_getElem?_getD, List.getElem?_eq_getElem hi]
theorem vals_size (s : List Int) (h : s.length = 64) : (vals s).size = 64 := by simp [vals, h]
theorem vals_one (s : List Int) : (vals s).all (·.oneCell') = true := by simp [vals, Value.oneCell']
theorem bRow {B g : Nat} {w0 w : World} (hb : Below B w0 w) (hBg : B ≤ g) (cs : Array Value) : Below B w0 (w.setRow g cs) := hb.trans ⟨rfl, rfl, rfl, by simp, fun k hk => setRow_other _ _ _ _ (by omega)⟩
theorem vals_set (s : List Int) (i : Nat) (x : Int) : (vals s).setIfInBounds i (.int .i64 x) = vals (s.set i x) := by
  simp [vals, List.map_set]
theorem vals_get (s : List Int) (i : Nat) (h : i < s.length) : (vals s)[i]? = some (.int .i64 (rd s (i : Int))) := by
  simp [vals, rd, List.getD_eq_getElem?_getD, List.getElem?_eq_getElem h]
def gradinelaw29_many.l0 : Nat → List (List Int) → Int → Int → Int → Int → Int → Int → Int → Int → Int → Int → Bool → List Int → Option (Bool)
 | 0, _, _, _, _, _, _, _, _, _, _, _, _, _ => none
 | k + 1, x1, x7, x8, x102000, x102001, x102002, x102003, x102004, x102005, x102006, x102007, x102008, zc => if x8 < x7 then (if 0 ≤ x8 then (if x8 < (x1.length : Int) then (if ((rd_L1 x1 x8).length : Int) > 20 then (some true) else (gradinelaw29_many.l0 k x1 x7 (wrap64 (x8 + 1)) x102000 x102001 x102002 x102003 x102004 x102005 x102006 x102007 x102008 zc)) else (none)) else (none)) else (if (zc.length : Int) > 80 then (some true) else (some (decide ((x1.length : Int) > 10))))
def gradinelaw29_many.f (k : Nat) (a0_0 : Int) (a0_1 : Int) (a0_2 : Int) (a0_3 : Int) (a0_4 : Int) (a0_5 : Int) (a0_6 : Int) (a0_7 : Int) (a0_8 : Bool) (l0_9 : List Int) (l1 : List (List Int)) : Option (Bool) := gradinelaw29_many.l0 k l1 (l1.length : Int) 0 a0_0 a0_1 a0_2 a0_3 a0_4 a0_5 a0_6 a0_7 a0_8 l0_9
set_option maxHeartbeats 8000000 in
set_option maxRecDepth 100000 in
theorem gradinelaw29_many.calls (k : Nat) (a0_0 : Int) (a0_1 : Int) (a0_2 : Int) (a0_3 : Int) (a0_4 : Int) (a0_5 : Int) (a0_6 : Int) (a0_7 : Int) (a0_8 : Bool) (A0_9 : Option Addr) (c0_9 : Nat) (l0_9 : List Int) (A1 : Option Addr) (c1 : Nat) (l1 : List (List Int)) (r : Bool) (w : World) (hr0_9 : Kd.C (Kd.int .i64) w A0_9 l0_9.length l0_9) (hc0_9 : l0_9.length ≤ c0_9) (hr1 : Kd.C (Kd.slice 3 (Kd.int .i64)) w A1 l1.length l1) (hc1 : l1.length ≤ c1) (h : gradinelaw29_many.f k a0_0 a0_1 a0_2 a0_3 a0_4 a0_5 a0_6 a0_7 a0_8 l0_9 l1 = some r) :
  Calls Try.prog 8 #[.agg #[.int .i64 a0_0, .int .i64 a0_1, .int .i64 a0_2, .int .i64 a0_3, .int .i64 a0_4, .int .i64 a0_5, .int .i64 a0_6, .int .i64 a0_7, .bool a0_8, .slice A0_9 l0_9.length c0_9], .slice A1 l1.length c1] w fun e w' => e = .returned (.bool r) ∧ Below w.heap.size w w' := by
 have hu24 := Try.underlying24
 have HR0_9 := aM hr0_9
 have HC0_9 := aM hc0_9
 clear hr0_9 hc0_9
 have HR1 := aM hr1
 have HC1 := aM hc1
 clear hr1 hc1
 have HB := aM (Below.refl w.heap.size w)
 have H : (gradinelaw29_many.l0 k l1 (l1.length : Int) 0 a0_0 a0_1 a0_2 a0_3 a0_4 a0_5 a0_6 a0_7 a0_8 l0_9) = some r := h
 clear h
 have H' := aM H
 clear H
 go_enter Try.func8, Try.ntmps8
 go_wp2_with (first | ((with_reducible refine gate_dst (N := 2) rfl ?_); (try (refine gate_guard (by rfl) ?_; dsimp only)); refine box_event ?hg (N := 2) ?hd (cs := #[.int .i64 a0_0, .int .i64 a0_1, .int .i64 a0_2, .int .i64 a0_3, .int .i64 a0_4, .int .i64 a0_5, .int .i64 a0_6, .int .i64 a0_7, .bool a0_8, .slice A0_9 l0_9.length c0_9]) (t := 24) ?hr ?_; (case hd => rfl); (case hg => rfl); (case hr => first | (go_simp; done) | (go_simp; rfl)); intro gb101 hg w3 hbox hb; have za := aM (hbox); have GW101 := gE (w := w) hg (qB HB); have zb := GW101; replace HB := bS (qB HB) hb; clear hb hbox hg))
 go_loopg [8] k (fun kq v8 w' => ∃ (x8_1 : Int), v8 = .int .i64 x8_1 ∧ Aside0 (gradinelaw29_many.l0 kq l1 (l1.length : Int) x8_1 a0_0 a0_1 a0_2 a0_3 a0_4 a0_5 a0_6 a0_7 a0_8 l0_9 = some r) ∧ Aside0 (kq ≤ k) ∧ Aside0 (w'.heap[gb101]? = some (.cells #[.int .i64 a0_0, .int .i64 a0_1, .int .i64 a0_2, .int .i64 a0_3, .int .i64 a0_4, .int .i64 a0_5, .int .i64 a0_6, .int .i64 a0_7, .bool a0_8, (.slice A0_9 l0_9.length c0_9)] 24 (0, 0))) ∧ Aside0 (Below w.heap.size w w'))
 case atStart => exact ⟨(0), (pF), H', ⟨Nat.le_refl _⟩, ⟨pK za.out⟩, ⟨qB1 HB zb⟩⟩
 case round =>
  clear H'
  try clear c1
  obtain ⟨x8_1, rfl, HA, HK1, za, HB⟩ := hrel
  cases gk with
  | zero => exact absurd HA.out (by simp [gradinelaw29_many.l0])
  | succ k1 =>
   have H := HA.out
   clear HA
   simp only [gradinelaw29_many.l0] at H
   by_cases c4 : x8_1 < (l1.length : Int)
   rotate_left
   ·rw [if_neg c4] at H
    have c4b0 : decide (x8_1 < (l1.length : Int)) = false := decide_eq_false c4
    clear c4
    by_cases c8 : (l0_9.length : Int) > 80
    ·rw [if_pos c8] at H
     have c8b0 : decide (80 < (l0_9.length : Int)) = true := decide_eq_true c8
     have c8b1 : decide (80 < l0_9.length) = true := decide_eq_true (by omega)
     clear c8
     obtain rfl := Option.some.inj H
     obtain ⟨hcz9_0, hcz9_1, hcz9_2, hcz9_3, hcz9_4, hcz9_5, hcz9_6, hcz9_7, hcz9_8, hcz9_9, hfz9_0, hfz9_1, hfz9_2, hfz9_3, hfz9_4, hfz9_5, hfz9_6, hfz9_7, hfz9_8, hfz9_9⟩ := blk10 za.out
     go_wp2
     go_ret
     exact ⟨pE, qB1 HB zb⟩
    rw [if_neg c8] at H
    have c8b0 : decide (80 < (l0_9.length : Int)) = false := decide_eq_false c8
    have c8b1 : decide (80 < l0_9.length) = false := decide_eq_false (by omega)
    clear c8
    obtain rfl := Option.some.inj H
    obtain ⟨hcz10_0, hcz10_1, hcz10_2, hcz10_3, hcz10_4, hcz10_5, hcz10_6, hcz10_7, hcz10_8, hcz10_9, hfz10_0, hfz10_1, hfz10_2, hfz10_3, hfz10_4, hfz10_5, hfz10_6, hfz10_7, hfz10_8, hfz10_9⟩ := blk10 za.out
    go_wp2
    go_ret
    exact ⟨pE, qB1 HB zb⟩
   rw [if_pos c4] at H
   have c4b0 : decide (x8_1 < (l1.length : Int)) = true := decide_eq_true c4
   clear c4
   by_cases c5 : 0 ≤ x8_1
   rotate_left
   ·rw [if_neg c5] at H
    exact absurd H (by simp)
   rw [if_pos c5] at H
   have c5b0 : decide (0 ≤ x8_1) = true := decide_eq_true c5
   clear c5
   by_cases c6 : x8_1 < (l1.length : Int)
   rotate_left
   ·rw [if_neg c6] at H
    exact absurd H (by simp)
   rw [if_pos c6] at H
   have c6b0 : decide (x8_1 < (l1.length : Int)) = true := decide_eq_true c6
   clear c6
   by_cases c7 : ((rd_L1 l1 x8_1).length : Int) > 20
   ·rw [if_pos c7] at H
    have c7b0 : decide (20 < ((rd_L1 l1 x8_1).length : Int)) = true := decide_eq_true c7
    have c7b1 : decide (20 < (rd_L1 l1 x8_1).length) = true := decide_eq_true (by omega)
    clear c7
    obtain rfl := Option.some.inj H
    have p102 : 0 ≤ (x8_1 : Int) := of_decide_eq_true pD
    have q102 : x8_1 < (l1.length : Int) := of_decide_eq_true pD
    obtain ⟨ad102, A102_0, c102_0, e102, hx102_0, hl102_0, hi102_0⟩ := at_L1 HR1.out x8_1 p102 q102
    cases e102
    replace hx102_0 := (HB.out.cell (World.block_lt_of_cell? w _ hx102_0)).trans hx102_0
    have HR102_0 := aM hi102_0
    have HC102_0 := aM hl102_0
    clear hi102_0 hl102_0
    replace p102 := eq_true p102
    replace q102 := eq_true q102
    go_wp2
    go_ret
    exact ⟨pE, qB1 HB zb⟩
   rw [if_neg c7] at H
   have c7b0 : decide (20 < ((rd_L1 l1 x8_1).length : Int)) = false := decide_eq_false c7
   have c7b1 : decide (20 < (rd_L1 l1 x8_1).length) = false := decide_eq_false (by omega)
   clear c7
   have H' := aM H
   clear H
   have p102 : 0 ≤ (x8_1 : Int) := of_decide_eq_true pD
   have q102 : x8_1 < (l1.length : Int) := of_decide_eq_true pD
   obtain ⟨ad102, A102_0, c102_0, e102, hx102_0, hl102_0, hi102_0⟩ := at_L1 HR1.out x8_1 p102 q102
   cases e102
   replace hx102_0 := (HB.out.cell (World.block_lt_of_cell? w _ hx102_0)).trans hx102_0
   have HR102_0 := aM hi102_0
   have HC102_0 := aM hl102_0
   clear hi102_0 hl102_0
   replace p102 := eq_true p102
   replace q102 := eq_true q102
   go_wp2
   go_roundg k1
   case measure => have := HK1.out; omega
   case rel => exact ⟨(wrap64 (x8_1 + 1)), (pF), H', ⟨by have := HK1.out; omega⟩, ⟨pK za.out⟩, ⟨qB1 HB zb⟩⟩
def move_Is.f (a0 : Int) : Option (Bool) := if a0 ≥ 33 then (some (decide (a0 ≤ 40))) else (some false)
set_option maxHeartbeats 8000000 in
set_option maxRecDepth 100000 in
theorem move_Is.calls (a0 : Int) (r : Bool) (w : World) (h : move_Is.f a0 = some r) :
  Calls Try.prog 13 #[.int .i64 a0] w fun e w' => e = .returned (.bool r) ∧ Drawn0 w w' := by
 have H : (if a0 ≥ 33 then (some (decide (a0 ≤ 40))) else (some false)) = some r := h
 clear h
 by_cases c2 : a0 ≥ 33
 ·rw [if_pos c2] at H
  have c2b0 : decide (33 ≤ a0) = true := decide_eq_true c2
  clear c2
  obtain rfl := Option.some.inj H
  go_enter Try.func13, Try.ntmps13
  go_wp2
  go_ret
  exact ⟨pF, by repeat (first | exact Drawn0.refl _ | apply Drawn0.step)⟩
 rw [if_neg c2] at H
 have c2b0 : decide (33 ≤ a0) = false := decide_eq_false c2
 clear c2
 obtain rfl := Option.some.inj H
 go_enter Try.func13, Try.ntmps13
 go_wp2
 go_ret
 exact ⟨pF, by repeat (first | exact Drawn0.refl _ | apply Drawn0.step)⟩
theorem GrW.rd_get (l : List Int) (k : Nat) (h : k < l.length) : rd l (k : Int) = l[k] := by
  simp [rd, List.getD_eq_getElem?_getD, List.getElem?_eq_getElem h]
theorem GrW.rd_pos (l : List Int) (k : Nat) (h : k < l.length) (hp : ∀ x ∈ l, 1 ≤ x) : 1 ≤ rd l (k : Int) := by
  rw [GrW.rd_get l k h]; exact hp _ (List.getElem_mem h)
theorem GrW.chk_8 (l : List Int) (h6 : ¬ 6 < l.length) (k : Nat) (h : k < l.length) (h1 : rd l (k : Int) < 1) : Gr.chk l = 8 := by
  rw [GrW.rd_get l k h] at h1
  unfold Gr.chk
  rw [if_neg h6, if_pos]
  rw [List.any_eq_true]
  exact ⟨l[k], List.getElem_mem h, by simpa using h1⟩
theorem GrW.all_succ (l : List Int) (k : Nat) (h : k < l.length) (ha : ∀ x ∈ l.take k, 1 ≤ x) (h1 : ¬ rd l (k : Int) < 1) : ∀ x ∈ l.take (k + 1), 1 ≤ x := by
  rw [GrW.rd_get l k h] at h1
  intro x hx
  rw [List.take_succ_eq_append_getElem h, List.mem_append] at hx
  rcases hx with hx | hx
  · exact ha x hx
  · simp at hx; omega
theorem GrW.prod_take_rd (l : List Int) (k : Nat) (h : k < l.length) : Gr.prod (l.take (k + 1)) = Gr.prod (l.take k) * rd l (k : Int) := by
  rw [GrW.rd_get l k h]; exact Gr.prod_take_succ l k h
theorem GrW.any_false (l : List Int) (hp : ∀ x ∈ l, 1 ≤ x) : (l.any fun x => decide (x < 1)) = false := by
  rw [List.any_eq_false]
  intro x hx
  have := hp x hx
  simp; omega
theorem GrW.chk_0 (l : List Int) (h6 : ¬ 6 < l.length) (hp : ∀ x ∈ l, 1 ≤ x) (h : Gr.prod l ≤ 64) : Gr.chk l = 0 := by
  unfold Gr.chk
  rw [if_neg h6, GrW.any_false l hp, if_neg (by simp), if_neg (by omega)]
theorem GrW.chk_12 (l : List Int) (h6 : ¬ 6 < l.length) (hp : ∀ x ∈ l, 1 ≤ x) (k : Nat) (h : k < l.length) (h2 : 64 / Gr.prod (l.take k) < rd l (k : Int)) : Gr.chk l = 12 := by
  have h1 := Gr.prod_pos (l.take k) (fun x hx => hp x (List.mem_of_mem_take hx))
  have h3 : 64 < rd l (k : Int) * Gr.prod (l.take k) := (Int.ediv_lt_iff_lt_mul (by omega)).1 h2
  have h4 := Gr.prod_take_le l hp (k + 1)
  rw [GrW.prod_take_rd l k h, Int.mul_comm] at h4
  unfold Gr.chk
  rw [if_neg h6, GrW.any_false l hp, if_neg (by simp), if_pos (by omega)]
theorem GrW.mul_le_of_div (l : List Int) (k : Nat) (h1 : 1 ≤ Gr.prod (l.take k)) (h : rd l (k : Int) ≤ 64 / Gr.prod (l.take k)) : Gr.prod (l.take k) * rd l (k : Int) ≤ 64 := by
  have := (Int.le_ediv_iff_mul_le (by omega)).1 h
  rw [Int.mul_comm]; exact this
def shape_Check.f (l0 : List Int) : Option Int := some (Gr.chk l0)
set_option maxHeartbeats 400000 in
set_option maxRecDepth 100000 in
theorem shape_Check.calls (A0 : Option Addr) (c0 : Nat) (l0 : List Int) (r : Int) (w : World) (hr0 : Kd.C (Kd.int .i64) w A0 l0.length l0) (hc0 : l0.length ≤ c0) (h : shape_Check.f l0 = some r) :
    Calls Try.prog 31 #[.slice A0 l0.length c0] w fun e w' => e = .returned (.int .i64 r) ∧ Drawn0 w w' := by
  have HR0 := Aside0.mk hr0
  clear hr0 hc0
  obtain rfl := Option.some.inj h
  clear h
  by_cases h6 : 6 < l0.length
  · have h6b : decide (6 < l0.length) = true := decide_eq_true h6
    have h6c : decide (6 < (l0.length : Int)) = true := decide_eq_true (by omega)
    have hr : Gr.chk l0 = 9 := by simp [Gr.chk, h6]
    have HH := Aside0.mk hr
    clear hr
    go_enter Try.func31, Try.ntmps31
    go_wp2
    go_step3
    go_wp2
    try rw [Exit.noGoto_ret]
    go_ret
    exact ⟨by rw [HH.out]; rfl, Drawn0.refl _⟩
  · have h6b : decide (6 < l0.length) = false := decide_eq_false h6
    have h6c : decide (6 < (l0.length : Int)) = false := decide_eq_false (by omega)
    have hlen : (l0.length : Int) ≤ 6 := by omega
    go_enter Try.func31, Try.ntmps31
    go_wp2
    go_step3
    go_wp2
    go_loop [13] (fun i => ∃ k : Nat, k ≤ l0.length ∧ i = .int .i64 k ∧ Aside0 (∀ x ∈ l0.take k, 1 ≤ x)) (fun i => l0.length - (intOf i).toNat)
    case atStart => exact ⟨0, by omega, rfl, ⟨by simp⟩⟩
    case round =>
      obtain ⟨k, hk, rfl, HA⟩ := hrel
      by_cases hlt : k < l0.length
      · have hb : decide ((k : Int) < (l0.length : Int)) = true := decide_eq_true (by omega)
        obtain ⟨ad, e, hx⟩ := Kd.at_int HR0.out (k : Int) (by omega) (by omega)
        cases e
        rw [Int.toNat_natCast] at hx
        by_cases h1 : rd l0 (k : Int) < 1
        · have h1b : decide (rd l0 (k : Int) < 1) = true := decide_eq_true h1
          have HH : Aside0 (Gr.chk l0 = 8) := Aside0.mk (GrW.chk_8 l0 h6 k hlt h1)
          go_wp2
          try rw [Exit.noGoto_ret]
          go_ret
          exact ⟨by rw [HH.out]; rfl, Drawn0.refl _⟩
        · have h1b : decide (rd l0 (k : Int) < 1) = false := decide_eq_false h1
          have HA1 := Aside0.mk (GrW.all_succ l0 k hlt HA.out h1)
          go_wp2
          go_round
          case measure => simp [intOf]; omega
          case rel => exact ⟨k + 1, by omega, by go_num, HA1⟩
      · have hb : decide ((k : Int) < (l0.length : Int)) = false := decide_eq_false (by omega)
        have HP : Aside0 (∀ x ∈ l0, 1 ≤ x) := ⟨by have := HA.out; rwa [List.take_of_length_le (by omega)] at this⟩
        clear HA
        go_wp2
        go_step3
        go_wp2
        go_loop [5, 22] (fun n i => ∃ k : Nat, k ≤ l0.length ∧ i = .int .i64 k ∧ n = .int .i64 (Gr.prod (l0.take k)) ∧ Gr.prod (l0.take k) ≤ 64) (fun n i => l0.length - (intOf i).toNat)
        case atStart => exact ⟨0, by omega, rfl, rfl, by simp [Gr.prod]⟩
        case round =>
          obtain ⟨k, hk, rfl, rfl, h64⟩ := hrel
          have hp1 := Gr.prod_pos (l0.take k) (fun x hx => HP.out x (List.mem_of_mem_take hx))
          by_cases hlt : k < l0.length
          · have hb : decide ((k : Int) < (l0.length : Int)) = true := decide_eq_true (by omega)
            obtain ⟨ad, e, hx⟩ := Kd.at_int HR0.out (k : Int) (by omega) (by omega)
            cases e
            rw [Int.toNat_natCast] at hx
            have hs := Aside0.mk (GrW.prod_take_rd l0 k hlt)
            have hx1 : 1 ≤ rd l0 (k : Int) := GrW.rd_pos l0 k hlt HP.out
            by_cases h1 : rd l0 (k : Int) = 1
            · have h1b : (rd l0 (k : Int) == 1) = true := by rw [h1]; rfl
              have hs2 : Aside0 (Gr.prod (l0.take (k + 1)) = Gr.prod (l0.take k)) := Aside0.mk (by rw [hs.out, h1]; omega)
              clear h1
              go_wp2
              go_round
              case measure => simp [intOf]; omega
              case rel => exact ⟨k + 1, by omega, by go_num, by rw [hs2.out], by rw [hs2.out]; exact h64⟩
            · have h1b : (rd l0 (k : Int) == 1) = false := beq_eq_false_iff_ne.mpr h1
              by_cases h2 : 64 / Gr.prod (l0.take k) < rd l0 (k : Int)
              · have h2b : decide (64 / Gr.prod (l0.take k) < rd l0 (k : Int)) = true := decide_eq_true h2
                have HH : Aside0 (Gr.chk l0 = 12) := Aside0.mk (GrW.chk_12 l0 h6 HP.out k hlt h2)
                go_wp2
                try rw [Exit.noGoto_ret]
                go_ret
                exact ⟨by rw [HH.out]; rfl, Drawn0.refl _⟩
              · have h2b : decide (64 / Gr.prod (l0.take k) < rd l0 (k : Int)) = false := decide_eq_false h2
                have h3 := GrW.mul_le_of_div l0 k hp1 (by omega : rd l0 (k : Int) ≤ 64 / Gr.prod (l0.take k))
                have h4 : 0 ≤ Gr.prod (l0.take k) * rd l0 (k : Int) := Int.mul_nonneg (by omega) (by omega)
                go_wp2
                go_round
                case measure => simp [intOf]; omega
                case rel => exact ⟨k + 1, by omega, by go_num, by rw [hs.out], by rw [hs.out]; exact h3⟩
          · have hb : decide ((k : Int) < (l0.length : Int)) = false := decide_eq_false (by omega)
            have HH : Aside0 (Gr.chk l0 = 0) := Aside0.mk (GrW.chk_0 l0 h6 HP.out (by rwa [List.take_of_length_le (by omega)] at h64))
            go_wp2
            try rw [Exit.noGoto_ret]
            go_ret
            exact ⟨by rw [HH.out]; rfl, Drawn0.refl _⟩
def slices_Clone_int_int.f (l0 : List Int) : Option (List Int) := if l0.length < 17592186044416 then some l0 else none
set_option maxHeartbeats 1000000 in
set_option maxRecDepth 100000 in
theorem slices_Clone_int_int.calls (A0 : Option Addr) (c0 : Nat) (l0 : List Int) (r1 : List Int) (w : World) (hr0 : Kd.C (Kd.int .i64) w A0 l0.length l0) (hc0 : l0.length ≤ c0) (h : slices_Clone_int_int.f l0 = some r1) :
    Calls Try.prog 42 #[.slice A0 l0.length c0] w fun e w' => ∃ v0_ : Value, e = .returned v0_ ∧ Kd.R (Kd.int .i64) 3 w' w.heap.size (fun _ => True) v0_ r1 ∧ Below w.heap.size w w' := by
  unfold slices_Clone_int_int.f at h
  split at h
  · rename_i hlen
    obtain rfl := Option.some.inj h
    clear h
    have LM := Aside0.mk hlen
    clear hlen
    have HB := Aside0.mk (Below.refl w.heap.size w)
    cases A0 with
    | none =>
      have hz : l0.length = 0 := by
        rcases Nat.eq_zero_or_pos l0.length with h0 | h0
        · exact h0
        · obtain ⟨ad, e, _⟩ := Kd.at_int hr0 0 (by omega) (by omega)
          cases e
      obtain rfl : l0 = [] := List.eq_nil_of_length_eq_zero hz
      clear hz hr0 hc0
      have hnil := fun (W : World) => Lib.run_eql_slice_nil (P := Try.prog) W 22 3 none 0 c0 0 0 Try.underlying22
      go_enter Try.func42, Try.ntmps42
      go_wp2
      go_ret
      exact ⟨_, rfl, Kd.R_nil _ _ _ _ _, HB.out⟩
    | some ad =>
      have hnil := fun (W : World) => Lib.run_eql_slice_nil (P := Try.prog) W 22 3 (some ad) l0.length c0 0 0 Try.underlying22
      have HR1 := Aside0.mk hr0
      clear hr0 hc0
      obtain ⟨y323, hy323⟩ : ∃ y_ : List Int, y_ = (([] : List Int)) := ⟨_, rfl⟩
      have LMc5 : Aside0 (y323.length + l0.length < 17592186044416) := ⟨by rw [hy323]; simpa using LM.out⟩
      have Ny323 := Aside0.mk hy323
      clear hy323
      obtain ⟨y326, hy326⟩ : ∃ y_ : List Int, y_ = (y323 ++ l0) := ⟨_, rfl⟩
      have hfin : Aside0 (y326 = l0) := ⟨by rw [hy326, Ny323.out]; rfl⟩
      have Ny326 := Aside0.mk hy326
      clear hy326
      go_enter Try.func42, Try.ntmps42
      go_wp2_with (first | ((with_reducible refine gate_dst (N := 5) rfl ?_); refine Kd.R_lit (Kd.int .i64) _ 3 ?hg (N := 5) ?hd (xs := ([] : List Int)) (inner := []) (ok := fun _ => True) (okp := fun _ => True) ?hr ?hp (fun _ hk => hk) trivial (Below.refl _ _) (Nat.le_refl _) (by simp) ?_; (case hd => rfl); (case hg => rfl); (case hr => first | (go_simp; done) | (go_simp; rfl)); (case hp => exact (Reps.none _ _)); intro v324 w6 ho7 hb hg_ hnew_; clear hg_ hnew_; (first | rw [← Ny323.out] at ho7 | (simp only [Int.reduceToNat] at ho7; rw [← Ny323.out] at ho7)); have n0_ := Aside0.mk (Kd.R_lower ho7 (below_size (by repeat (first | (with_reducible first | exact HB.out | apply below_alloc | apply pw_below_drewN | apply below_drew1) | exact HB.out)))); have n1_ := Aside0.mk (below_step (by repeat (first | (with_reducible first | exact HB.out | apply below_alloc | apply pw_below_drewN | apply below_drew1) | exact HB.out)) hb); clear HB; have HO325 := n0_; have HB := n1_; clear n0_ n1_; clear hb ho7) | ((with_reducible refine gate_builtin (b := .append) (xs := #[.tmp 5, .tmp 6]) rfl ?_); at_builtin; refine Kd.R_append_rows (Kd.int .i64) (w0 := w) w.heap.size rfl (.tmp 5) (.tmp 6) 22 3 (.int .i64 0) 8 rfl Try.underlying22 info3 rfl (by decide) (by omega) v324 y323 l0 _ _ _ (fun _ => True) (fun _ => False) rfl rfl ?aO ?aR (fun _ _ h => h) (fun _ h => h.elim) ?aF ?aB ?aS ?aL ?_; (case aR => repeat (first | exact (Kd.C_below HR1.out HB.out) | (with_reducible refine Kd.C_alloc ?_ _) | (with_reducible refine Kd.C_drewN ?_ _) | (with_reducible refine Kd.C_drew ?_))); (case aB => exact (by repeat (first | (with_reducible first | exact HB.out | apply below_alloc | apply pw_below_drewN | apply below_drew1) | exact HB.out))); (case aF => exact (fun _ _ => trivial)); (case aO => exact (by (with_reducible repeat (first | apply Kd.R_alloc | apply Kd.R_drewN | apply Kd.R_drew)); exact HO325.out)); (case aS => exact (below_size (by repeat (first | (with_reducible first | exact HB.out | apply below_alloc | apply pw_below_drewN | apply below_drew1) | exact HB.out)))); (case aL => have := LMc5.out; omega); intro v327 w8 ho hb hg hat; rw [← Ny326.out] at ho; have n0_ := Aside0.mk (hb); have n1_ := Aside0.mk (ho); clear HB; clear HO325; have HB := n0_; have HO328 := n1_; clear n0_ n1_; clear ho hb hg hat))
      go_ret
      exact ⟨_, rfl, by rw [← hfin.out]; exact HO328.out, HB.out⟩
  · cases h
def shape_With.j0 : Nat → List Int → Int → Int → Bool → Option (List Int × Int)
 | 0, _, _, _, _ => none
 | k + 1, x0, x1, x2, x23 => if x23 = true then (some (([] : List Int), 10)) else ((slices_Clone_int_int.f x0).bind fun zb => (if 0 ≤ x1 then (if x1 < (zb.length : Int) then ((some (zb.set (x1 : Int).toNat x2 : List Int)).bind fun zc => ((shape_Check.f zc).bind fun zd => (if zd = 0 then (some (zc, 0)) else (some (([] : List Int), zd))))) else (none)) else (none)))
def shape_With.f (k : Nat) (l0 : List Int) (a1 : Int) (a2 : Int) : Option (List Int × Int) := (shape_Check.f l0).bind fun ze => (if ze = 0 then (if a1 < 0 then (shape_With.j0 k l0 a1 a2 true) else (shape_With.j0 k l0 a1 a2 (decide (a1 ≥ (l0.length : Int))))) else (some (([] : List Int), ze)))
set_option maxHeartbeats 8000000 in
set_option maxRecDepth 100000 in
theorem shape_With.calls (k : Nat) (A0 : Option Addr) (c0 : Nat) (l0 : List Int) (a1 : Int) (a2 : Int) (r1 : List Int) (r2 : Int) (w : World) (hr0 : Kd.C (Kd.int .i64) w A0 l0.length l0) (hc0 : l0.length ≤ c0) (h : shape_With.f k l0 a1 a2 = some (r1, r2)) :
  Calls Try.prog 61 #[.slice A0 l0.length c0, .int .i64 a1, .int .i64 a2] w fun e w' => ∃ v0_ : Value, e = .returned (.tuple #[v0_, .int .i64 r2]) ∧ Kd.R (Kd.int .i64) 3 w' w.heap.size (fun _ => True) v0_ r1 ∧ Below w.heap.size w w' := by
 have HR0 := aM hr0
 have HC0 := aM hc0
 clear hr0 hc0
 have HB := aM (Below.refl w.heap.size w)
 have H : ((shape_Check.f l0).bind fun ze => (if ze = 0 then (if a1 < 0 then (shape_With.j0 k l0 a1 a2 true) else (shape_With.j0 k l0 a1 a2 (decide (a1 ≥ (l0.length : Int))))) else (some (([] : List Int), ze)))) = some (r1, r2) := h
 clear h
 replace H := Option.bind_eq_some_iff.mp H
 obtain ⟨ze, A40, H⟩ := H
 try dsimp only at H
 have A4 := aM A40
 clear A40
 by_cases c5 : ze = 0
 rotate_left
 ·rw [if_neg c5] at H
  have zl : (ze == 0) = false := beq_eq_false_iff_ne.mpr c5
  have zm : (ze != 0) = true := bne_iff_ne.mpr c5
  simp only [Option.some.injEq, Prod.mk.injEq] at H
  obtain ⟨rfl, rfl⟩ := H
  go_enter Try.func61, Try.ntmps61
  go_wp2_with (first | ((with_reducible refine gate_callee (f := 31) rfl ?_); refine goesL_ (some 12) rfl rfl Try.func31 (by kernel_rfl) rfl #[.slice A0 l0.length c0] rfl pA ?_; (with_reducible refine (shape_Check.calls _ _ l0 ze _ ?s1 ?s2 A4.out).mono ?_); (case s1 => exact pC HR0.out); (case s2 => exact HC0.out); rintro e w' ⟨rfl, ⟨nd, rfl⟩⟩; refine ⟨_, rfl, ?_⟩))
  go_ret2
  exact ⟨_, pE, pN, qB HB⟩
 rw [if_pos c5] at H
 have zl : (ze == 0) = true := beq_iff_eq.mpr c5
 have zm : (ze != 0) = false := bne_eq_false_iff_eq.mpr c5
 clear c5
 have HC6 := aM H
 clear H
 go_enter Try.func61, Try.ntmps61
 go_upto_region 4 with (first | ((with_reducible refine gate_callee (f := 31) rfl ?_); refine goesL_ (some 12) rfl rfl Try.func31 (by kernel_rfl) rfl #[.slice A0 l0.length c0] rfl pA ?_; (with_reducible refine (shape_Check.calls _ _ l0 ze _ ?s1 ?s2 A4.out).mono ?_); (case s1 => exact pC HR0.out); (case s2 => exact HC0.out); rintro e w' ⟨rfl, ⟨nd, rfl⟩⟩; refine ⟨_, rfl, ?_⟩))
 (try simp only [Act.put, sP])
 go_cut [23] (fun v23 wc => ∃ (kq : Nat) (x23_5 : Bool), v23 = .bool x23_5 ∧ Aside0 (shape_With.j0 kq l0 a1 a2 x23_5 = some (r1, r2)) ∧ Aside0 (kq ≤ k) ∧ Aside0 (Below w.heap.size w wc))
 case first =>
  have H := HC6.out
  clear HC6
  by_cases c7 : a1 < 0
  ·rw [if_pos c7] at H
   have zf : decide (a1 < 0) = true := decide_eq_true c7
   clear c7
   (first | rw [zf] | (simp only [i64_w, i32_w]; rw [zf]) | skip)
   have H' := aM H
   clear H
   go_wp2
   go_meet
   case rel => exact ⟨_, (true), (pF), H', ⟨by first | omega | exact Nat.le_refl _⟩, ⟨qB HB⟩⟩
  rw [if_neg c7] at H
  have zf : decide (a1 < 0) = false := decide_eq_false c7
  clear c7
  (first | rw [zf] | (simp only [i64_w, i32_w]; rw [zf]) | skip)
  have H' := aM H
  clear H
  go_wp2
  go_meet
  case rel => exact ⟨_, (decide (a1 ≥ (l0.length : Int))), (pF), H', ⟨by first | omega | exact Nat.le_refl _⟩, ⟨qB HB⟩⟩
 case rest =>
  clear HC6
  try clear zl
  try clear zm
  obtain ⟨kq, x23_5, rfl, HA, HJ5, HB⟩ := hcut
  cases kq with
  | zero => exact absurd HA.out (by simp [shape_With.j0])
  | succ kj5 =>
   have H := HA.out
   clear HA
   simp only [shape_With.j0] at H
   by_cases c8 : x23_5 = true
   ·subst c8
    rw [if_pos rfl] at H
    simp only [Option.some.injEq, Prod.mk.injEq] at H
    obtain ⟨rfl, rfl⟩ := H
    go_wp2
    go_ret2
    exact ⟨_, pE, pN, qB HB⟩
   replace c8 := Bool.eq_false_iff.mpr c8
   subst c8
   rw [if_neg (show ¬ (false = true) by decide)] at H
   replace H := Option.bind_eq_some_iff.mp H
   obtain ⟨zb, A90, H⟩ := H
   try dsimp only at H
   have A9 := aM A90
   clear A90
   by_cases c10 : 0 ≤ a1
   rotate_left
   ·rw [if_neg c10] at H
    exact absurd H (by simp)
   rw [if_pos c10] at H
   have c10b0 : decide (0 ≤ a1) = true := decide_eq_true c10
   clear c10
   by_cases c11 : a1 < (zb.length : Int)
   rotate_left
   ·rw [if_neg c11] at H
    exact absurd H (by simp)
   rw [if_pos c11] at H
   have c11b0 : decide (a1 < (zb.length : Int)) = true := decide_eq_true c11
   clear c11
   obtain ⟨zc, zg⟩ : ∃ y_ : List Int, y_ = (zb.set (a1 : Int).toNat a2) := ⟨_, rfl⟩
   replace H : ((shape_Check.f zc).bind fun zd => (if zd = 0 then (some (zc, 0)) else (some (([] : List Int), zd)))) = some (r1, r2) := pH zg H
   have zk := aM zg
   clear zg
   replace H := Option.bind_eq_some_iff.mp H
   obtain ⟨zd, zn, H⟩ := H
   try dsimp only at H
   have A13 := aM zn
   clear zn
   by_cases c14 : zd = 0
   rotate_left
   ·rw [if_neg c14] at H
    have c14b0 : (zd == 0) = false := beq_eq_false_iff_ne.mpr c14
    have c14b1 : (zd != 0) = true := bne_iff_ne.mpr c14
    simp only [Option.some.injEq, Prod.mk.injEq] at H
    obtain ⟨rfl, rfl⟩ := H
    go_wp2_with (first | ((with_reducible refine gate_callee (f := 42) rfl ?_); refine goesL_ (some 25) rfl rfl Try.func42 (by kernel_rfl) rfl #[.slice A0 l0.length c0] rfl pA ?_; (with_reducible refine (slices_Clone_int_int.calls _ _ l0 zb _ ?s1 ?s2 A9.out).mono ?_); (case s1 => exact sC HR0 HB); (case s2 => exact HC0.out); rintro e w18 ⟨v292, rfl, ho0, hb⟩; refine ⟨_, rfl, ?_⟩; have za := aM (Kd.R_lower ho0 (below_size (qB HB))); replace HB := bS (qB HB) hb; (try clear hb); (try clear hk); (try clear hi); (try clear ho0); have p12 : 0 ≤ (a1 : Int) := of_decide_eq_true pD; have q12 : (a1 : Int) < ((zb.length : Int) : Int) := of_decide_eq_true pD; obtain ⟨go12, zh, zi, zj, gl12, cl12, HG12⟩ := Kd.R_form za.out (by omega); (first | cases zi | (injection zi with ea_ en_ ec_; (first | subst ea_ | (injection ea_ with ea_; subst ea_)); subst ec_; clear en_)); have GB12 := aM zj; have GG12 := aM HG12; clear zj gl12 HG12; obtain ⟨hx12_0, hf12_0⟩ := Kd.R_celln 0 za.out (a1 : Int) p12 q12; replace p12 := eq_true p12; replace q12 := eq_true q12; obtain ⟨hy19_, hz19_⟩ := Kd.R_celln 0 za.out (a1 : Int) (of_decide_eq_true pD) (of_decide_eq_true pD); have HP19 := Kd.R_putg za.out (a1 : Int) a2) | ((with_reducible refine gate_store (t := 3) (p := 29) rfl ?_); refine store_event (t := 3) (p := 29) (v := ?vo_w20) (w1 := (w18.setCell ⟨go12, (a1 : Int).toNat, none⟩ (.int .i64 a2))) ?hg ?ho ?hn ?hr ?_; (case ho => rfl); (case hg => rfl); (case hn => rfl); (case hr => first | (go_simp; done) | (go_simp; rfl)); intro w20 hw; have hg : w18.grownBy w20 (some go12) := (by rw [hw]; exact HP19.2); have hp_ : Kd.R (Kd.int .i64) 3 w20 w.heap.size (fun _ => True) (.slice (some ⟨go12, 0, none⟩) zb.length zh) zc := (by rw [hw, zk.out]; exact HP19.1); clear HP19; replace za := aM (hp_); replace HB := aM ((by rw [hw]; exact below_set (HB.out) GB12.out : Below w.heap.size w w20)); clear hg hw hp_) | ((with_reducible refine gate_callee (f := 31) rfl ?_); refine goesL_ (some 31) rfl rfl Try.func31 (by kernel_rfl) rfl #[.slice (some ⟨go12, 0, none⟩) zc.length zh] rfl (by (try simp only [List.map_toArray, List.map_cons, List.map_nil]); first | done | (rw [show zc.length = zb.length from (Kd.R_reads' za.out).1.symm] <;> rfl) | rfl | (simp only [List.length_drop, List.length_take]; rfl)) ?_; (with_reducible refine (shape_Check.calls _ _ zc zd _ ?s1 ?s2 A13.out).mono ?_); (case s1 => exact sR za); (case s2 => rw [show zc.length = zb.length from (Kd.R_reads' za.out).1.symm]; exact sL za); rintro e w' ⟨rfl, ⟨nd, rfl⟩⟩; refine ⟨_, rfl, ?_⟩))
    go_ret2
    exact ⟨_, pE, pN, qB HB⟩
   rw [if_pos c14] at H
   have c14b0 : (zd == 0) = true := beq_iff_eq.mpr c14
   have c14b1 : (zd != 0) = false := bne_eq_false_iff_eq.mpr c14
   clear c14
   simp only [Option.some.injEq, Prod.mk.injEq] at H
   obtain ⟨rfl, rfl⟩ := H
   go_wp2_with (first | ((with_reducible refine gate_callee (f := 42) rfl ?_); refine goesL_ (some 25) rfl rfl Try.func42 (by kernel_rfl) rfl #[.slice A0 l0.length c0] rfl pA ?_; (with_reducible refine (slices_Clone_int_int.calls _ _ l0 zb _ ?s1 ?s2 A9.out).mono ?_); (case s1 => exact sC HR0 HB); (case s2 => exact HC0.out); rintro e w15 ⟨v292, rfl, ho0, hb⟩; refine ⟨_, rfl, ?_⟩; have za := aM (Kd.R_lower ho0 (below_size (qB HB))); replace HB := bS (qB HB) hb; (try clear hb); (try clear hk); (try clear hi); (try clear ho0); have p12 : 0 ≤ (a1 : Int) := of_decide_eq_true pD; have q12 : (a1 : Int) < ((zb.length : Int) : Int) := of_decide_eq_true pD; obtain ⟨go12, zh, zi, zj, gl12, cl12, HG12⟩ := Kd.R_form za.out (by omega); (first | cases zi | (injection zi with ea_ en_ ec_; (first | subst ea_ | (injection ea_ with ea_; subst ea_)); subst ec_; clear en_)); have GB12 := aM zj; have GG12 := aM HG12; clear zj gl12 HG12; obtain ⟨hx12_0, hf12_0⟩ := Kd.R_celln 0 za.out (a1 : Int) p12 q12; replace p12 := eq_true p12; replace q12 := eq_true q12; obtain ⟨hy16_, hz16_⟩ := Kd.R_celln 0 za.out (a1 : Int) (of_decide_eq_true pD) (of_decide_eq_true pD); have HP16 := Kd.R_putg za.out (a1 : Int) a2) | ((with_reducible refine gate_store (t := 3) (p := 29) rfl ?_); refine store_event (t := 3) (p := 29) (v := ?vo_w17) (w1 := (w15.setCell ⟨go12, (a1 : Int).toNat, none⟩ (.int .i64 a2))) ?hg ?ho ?hn ?hr ?_; (case ho => rfl); (case hg => rfl); (case hn => rfl); (case hr => first | (go_simp; done) | (go_simp; rfl)); intro w17 hw; have hg : w15.grownBy w17 (some go12) := (by rw [hw]; exact HP16.2); have hp_ : Kd.R (Kd.int .i64) 3 w17 w.heap.size (fun _ => True) (.slice (some ⟨go12, 0, none⟩) zb.length zh) zc := (by rw [hw, zk.out]; exact HP16.1); clear HP16; replace za := aM (hp_); replace HB := aM ((by rw [hw]; exact below_set (HB.out) GB12.out : Below w.heap.size w w17)); clear hg hw hp_) | ((with_reducible refine gate_callee (f := 31) rfl ?_); refine goesL_ (some 31) rfl rfl Try.func31 (by kernel_rfl) rfl #[.slice (some ⟨go12, 0, none⟩) zc.length zh] rfl (by (try simp only [List.map_toArray, List.map_cons, List.map_nil]); first | done | (rw [show zc.length = zb.length from (Kd.R_reads' za.out).1.symm] <;> rfl) | rfl | (simp only [List.length_drop, List.length_take]; rfl)) ?_; (with_reducible refine (shape_Check.calls _ _ zc zd _ ?s1 ?s2 A13.out).mono ?_); (case s1 => exact sR za); (case s2 => rw [show zc.length = zb.length from (Kd.R_reads' za.out).1.symm]; exact sL za); rintro e w' ⟨rfl, ⟨nd, rfl⟩⟩; refine ⟨_, rfl, ?_⟩))
   go_ret2
   exact ⟨_, pE, pR za.out, qB HB⟩
mutual
def move_joined.j0 : Nat → List Int → List Int → Int → Bool → Option (List Int × Int)
 | 0, _, _, _, _ => none
 | k + 1, x0, x1, x2, x17 => if x17 = true then (some (([] : List Int), 10)) else (if (x0.length : Int) = (x1.length : Int) then (move_joined.l0 k x0 x1 x2 x0 (x0.length : Int) 0) else (some (([] : List Int), 8)))
def move_joined.l0 : Nat → List Int → List Int → Int → List Int → Int → Int → Option (List Int × Int)
 | 0, _, _, _, _, _, _ => none
 | k + 1, x0, x1, x2, x23, x24, x25 => if x25 < x24 then (if 0 ≤ x25 then (if x25 < (x23.length : Int) then (if x25 = x2 then (move_joined.l0 k x0 x1 x2 x23 x24 (wrap64 (x25 + 1))) else (if x25 < (x1.length : Int) then (if (rd x23 x25) = (rd x1 x25) then (move_joined.l0 k x0 x1 x2 x23 x24 (wrap64 (x25 + 1))) else (some (([] : List Int), 8))) else (none))) else (none)) else (none)) else (if 0 ≤ x2 then (if x2 < (x0.length : Int) then (if x2 < (x1.length : Int) then ((shape_With.f k x0 x2 (wrap64 ((rd x0 x2) + (rd x1 x2)))).bind fun bt314 => (some (bt314.1, bt314.2))) else (none)) else (none)) else (none))
end
def move_joined.f (k : Nat) (l0 : List Int) (l1 : List Int) (a2 : Int) : Option (List Int × Int) := if a2 < 0 then (move_joined.j0 k l0 l1 a2 true) else (move_joined.j0 k l0 l1 a2 (decide (a2 ≥ (l0.length : Int))))
def move_joined.T11 : Bool × List (List Nat × List Nat) := (true, [([], []), ([], []), ([], []), ([], []), ([2, 3], [2, 3]), ([4], [4]), ([], []), ([], []), ([6, 7], [6, 7]), ([8], [8]), ([5, 9], [5, 9]), ([0, 1, 10], [0, 1, 10]), ([11], [11]), ([11], [11]), ([12, 11, 0, 1, 2, 3, 4, 5, 6, 7, 8, 9, 10, 11, 12, 13], [12]), ([13, 14, 0, 1, 2, 3, 4, 5, 6, 7, 8, 9, 10, 11, 12, 13, 14], [13])])
def move_joined.B11 : List Nat := [0, 0, 0, 0, 12, 28, 0, 0, 192, 448, 1020, 2047, 4095, 4095, 16383, 32767]
theorem move_joined.tab11 : rtab .any (opsOf Try.f34 11) = move_joined.T11 := by kernel_rfl
theorem move_joined.bits11 : waitsOk move_joined.T11.2 move_joined.B11 = true := by kernel_rfl
set_option maxHeartbeats 8000000 in
set_option maxRecDepth 100000 in
theorem move_joined.calls (k : Nat) (A0 : Option Addr) (c0 : Nat) (l0 : List Int) (A1 : Option Addr) (c1 : Nat) (l1 : List Int) (a2 : Int) (r1 : List Int) (r2 : Int) (w : World) (hr0 : Kd.C (Kd.int .i64) w A0 l0.length l0) (hc0 : l0.length ≤ c0) (hr1 : Kd.C (Kd.int .i64) w A1 l1.length l1) (hc1 : l1.length ≤ c1) (h : move_joined.f k l0 l1 a2 = some (r1, r2)) :
  Calls Try.prog 34 #[.slice A0 l0.length c0, .slice A1 l1.length c1, .int .i64 a2] w fun e w' => ∃ v0_ : Value, e = .returned (.tuple #[v0_, .int .i64 r2]) ∧ Kd.R (Kd.int .i64) 3 w' w.heap.size (fun _ => True) v0_ r1 ∧ Below w.heap.size w w' := by
 have HR0 := aM hr0
 have HC0 := aM hc0
 clear hr0 hc0
 have HR1 := aM hr1
 have HC1 := aM hc1
 clear hr1 hc1
 have HB := aM (Below.refl w.heap.size w)
 have H : (if a2 < 0 then (move_joined.j0 k l0 l1 a2 true) else (move_joined.j0 k l0 l1 a2 (decide (a2 ≥ (l0.length : Int))))) = some (r1, r2) := h
 clear h
 have HC4 := aM H
 clear H
 go_enter Try.func34, Try.ntmps34
 go_upto_region 1 with (fail)
 go_cut [17] (fun v17 wc => ∃ (kq : Nat) (x17_3 : Bool), v17 = .bool x17_3 ∧ Aside0 (move_joined.j0 kq l0 l1 a2 x17_3 = some (r1, r2)) ∧ Aside0 (kq ≤ k) ∧ Aside0 (Below w.heap.size w wc))
 case first =>
  have H := HC4.out
  clear HC4
  by_cases c5 : a2 < 0
  ·rw [if_pos c5] at H
   have za : decide (a2 < 0) = true := decide_eq_true c5
   clear c5
   (first | rw [za] | (simp only [i64_w, i32_w]; rw [za]) | skip)
   have H' := aM H
   clear H
   go_wp2
   go_meet
   case rel => exact ⟨_, (true), (pF), H', ⟨by first | omega | exact Nat.le_refl _⟩, ⟨qB HB⟩⟩
  rw [if_neg c5] at H
  have za : decide (a2 < 0) = false := decide_eq_false c5
  clear c5
  (first | rw [za] | (simp only [i64_w, i32_w]; rw [za]) | skip)
  have H' := aM H
  clear H
  go_wp2
  go_meet
  case rel => exact ⟨_, (decide (a2 ≥ (l0.length : Int))), (pF), H', ⟨by first | omega | exact Nat.le_refl _⟩, ⟨qB HB⟩⟩
 case rest =>
  clear HC4
  try clear c1
  obtain ⟨kq, x17_3, rfl, HA, HJ3, HB⟩ := hcut
  cases kq with
  | zero => exact absurd HA.out (by simp [move_joined.j0])
  | succ kj3 =>
   have H := HA.out
   clear HA
   simp only [move_joined.j0] at H
   by_cases c6 : x17_3 = true
   ·subst c6
    rw [if_pos rfl] at H
    simp only [Option.some.injEq, Prod.mk.injEq] at H
    obtain ⟨rfl, rfl⟩ := H
    go_wp2
    go_ret2
    exact ⟨_, pE, pN, qB HB⟩
   replace c6 := Bool.eq_false_iff.mpr c6
   subst c6
   rw [if_neg (show ¬ (false = true) by decide)] at H
   by_cases c7 : (l0.length : Int) = (l1.length : Int)
   rotate_left
   ·rw [if_neg c7] at H
    have zb : ((l0.length : Int) == (l1.length : Int)) = false := beq_eq_false_iff_ne.mpr c7
    have zc : ((l0.length : Int) != (l1.length : Int)) = true := bne_iff_ne.mpr c7
    have zd : (l0.length == l1.length) = false := by first | simpa using c7 | (simp at c7 ⊢; omega)
    simp only [Option.some.injEq, Prod.mk.injEq] at H
    obtain ⟨rfl, rfl⟩ := H
    go_wp2
    go_ret2
    exact ⟨_, pE, pN, qB HB⟩
   rw [if_pos c7] at H
   have zb : ((l0.length : Int) == (l1.length : Int)) = true := beq_iff_eq.mpr c7
   have zc : ((l0.length : Int) != (l1.length : Int)) = false := bne_eq_false_iff_eq.mpr c7
   have zd : (l0.length == l1.length) = true := by first | simpa using c7 | (simp at c7 ⊢; omega)
   clear c7
   have H' := aM H
   clear H
   go_wp2
   go_loopg [25] kj3 (fun kq v25 w' => ∃ (x25_2 : Int), v25 = .int .i64 x25_2 ∧ Aside0 (move_joined.l0 kq l0 l1 a2 l0 (l0.length : Int) x25_2 = some (r1, r2)) ∧ Aside0 (kq ≤ kj3) ∧ Aside0 (Below w.heap.size w w'))
   case atStart => exact ⟨(0), (pF), H', ⟨Nat.le_refl _⟩, ⟨qB HB⟩⟩
   case round =>
    clear H'
    try clear c6
    try clear zb
    try clear zc
    try clear zd
    obtain ⟨x25_2, rfl, HA, HK2, HB⟩ := hrel
    cases gk with
    | zero => exact absurd HA.out (by simp [move_joined.l0])
    | succ k2 =>
     have H := HA.out
     clear HA
     simp only [move_joined.l0] at H
     by_cases c8 : x25_2 < (l0.length : Int)
     ·rw [if_pos c8] at H
      have c8b0 : decide (x25_2 < (l0.length : Int)) = true := decide_eq_true c8
      clear c8
      by_cases c9 : 0 ≤ x25_2
      rotate_left
      ·rw [if_neg c9] at H
       exact absurd H (by simp)
      rw [if_pos c9] at H
      have c9b0 : decide (0 ≤ x25_2) = true := decide_eq_true c9
      clear c9
      by_cases c10 : x25_2 < (l0.length : Int)
      rotate_left
      ·rw [if_neg c10] at H
       exact absurd H (by simp)
      rw [if_pos c10] at H
      have c10b0 : decide (x25_2 < (l0.length : Int)) = true := decide_eq_true c10
      clear c10
      by_cases c11 : x25_2 = a2
      ·rw [if_pos c11] at H
       have c11b0 : (x25_2 == a2) = true := beq_iff_eq.mpr c11
       have c11b1 : (x25_2 != a2) = false := bne_eq_false_iff_eq.mpr c11
       clear c11
       have H' := aM H
       clear H
       have p310 : 0 ≤ (x25_2 : Int) := of_decide_eq_true pD
       have q310 : x25_2 < (l0.length : Int) := of_decide_eq_true pD
       obtain ⟨ad310, e310, hx310_0⟩ := Kd.at_int HR0.out x25_2 p310 q310
       cases e310
       replace hx310_0 := (HB.out.cell (World.block_lt_of_cell? w _ hx310_0)).trans hx310_0
       replace p310 := eq_true p310
       replace q310 := eq_true q310
       go_wp2
       go_roundg k2
       case measure => have := HJ3.out; have := HK2.out; omega
       case rel => exact ⟨(wrap64 (x25_2 + 1)), (pF), H', ⟨by have := HJ3.out; have := HK2.out; omega⟩, ⟨qB HB⟩⟩
      rw [if_neg c11] at H
      have c11b0 : (x25_2 == a2) = false := beq_eq_false_iff_ne.mpr c11
      have c11b1 : (x25_2 != a2) = true := bne_iff_ne.mpr c11
      by_cases c12 : x25_2 < (l1.length : Int)
      rotate_left
      ·rw [if_neg c12] at H
       exact absurd H (by simp)
      rw [if_pos c12] at H
      have c12b0 : decide (x25_2 < (l1.length : Int)) = true := decide_eq_true c12
      clear c12
      by_cases c13 : (rd l0 x25_2) = (rd l1 x25_2)
      rotate_left
      ·rw [if_neg c13] at H
       have c13b0 : ((rd l0 x25_2) == (rd l1 x25_2)) = false := beq_eq_false_iff_ne.mpr c13
       have c13b1 : ((rd l0 x25_2) != (rd l1 x25_2)) = true := bne_iff_ne.mpr c13
       simp only [Option.some.injEq, Prod.mk.injEq] at H
       obtain ⟨rfl, rfl⟩ := H
       have p310 : 0 ≤ (x25_2 : Int) := of_decide_eq_true pD
       have q310 : x25_2 < (l0.length : Int) := of_decide_eq_true pD
       obtain ⟨ad310, e310, hx310_0⟩ := Kd.at_int HR0.out x25_2 p310 q310
       cases e310
       replace hx310_0 := (HB.out.cell (World.block_lt_of_cell? w _ hx310_0)).trans hx310_0
       replace p310 := eq_true p310
       replace q310 := eq_true q310
       have p311 : 0 ≤ (x25_2 : Int) := of_decide_eq_true pD
       have q311 : x25_2 < (l1.length : Int) := of_decide_eq_true pD
       obtain ⟨ad311, e311, hx311_0⟩ := Kd.at_int HR1.out x25_2 p311 q311
       cases e311
       replace hx311_0 := (HB.out.cell (World.block_lt_of_cell? w _ hx311_0)).trans hx311_0
       replace p311 := eq_true p311
       replace q311 := eq_true q311
       go_wp2
       go_ret2
       exact ⟨_, pE, pN, qB HB⟩
      rw [if_pos c13] at H
      have c13b0 : ((rd l0 x25_2) == (rd l1 x25_2)) = true := beq_iff_eq.mpr c13
      have c13b1 : ((rd l0 x25_2) != (rd l1 x25_2)) = false := bne_eq_false_iff_eq.mpr c13
      clear c13
      have H' := aM H
      clear H
      have p310 : 0 ≤ (x25_2 : Int) := of_decide_eq_true pD
      have q310 : x25_2 < (l0.length : Int) := of_decide_eq_true pD
      obtain ⟨ad310, e310, hx310_0⟩ := Kd.at_int HR0.out x25_2 p310 q310
      cases e310
      replace hx310_0 := (HB.out.cell (World.block_lt_of_cell? w _ hx310_0)).trans hx310_0
      replace p310 := eq_true p310
      replace q310 := eq_true q310
      have p311 : 0 ≤ (x25_2 : Int) := of_decide_eq_true pD
      have q311 : x25_2 < (l1.length : Int) := of_decide_eq_true pD
      obtain ⟨ad311, e311, hx311_0⟩ := Kd.at_int HR1.out x25_2 p311 q311
      cases e311
      replace hx311_0 := (HB.out.cell (World.block_lt_of_cell? w _ hx311_0)).trans hx311_0
      replace p311 := eq_true p311
      replace q311 := eq_true q311
      go_wp2
      go_roundg k2
      case measure => have := HJ3.out; have := HK2.out; omega
      case rel => exact ⟨(wrap64 (x25_2 + 1)), (pF), H', ⟨by have := HJ3.out; have := HK2.out; omega⟩, ⟨qB HB⟩⟩
     rw [if_neg c8] at H
     have c8b0 : decide (x25_2 < (l0.length : Int)) = false := decide_eq_false c8
     clear c8
     by_cases c14 : 0 ≤ a2
     rotate_left
     ·rw [if_neg c14] at H
      exact absurd H (by simp)
     rw [if_pos c14] at H
     have c14b0 : decide (0 ≤ a2) = true := decide_eq_true c14
     clear c14
     by_cases c15 : a2 < (l0.length : Int)
     rotate_left
     ·rw [if_neg c15] at H
      exact absurd H (by simp)
     rw [if_pos c15] at H
     have c15b0 : decide (a2 < (l0.length : Int)) = true := decide_eq_true c15
     clear c15
     by_cases c16 : a2 < (l1.length : Int)
     rotate_left
     ·rw [if_neg c16] at H
      exact absurd H (by simp)
     rw [if_pos c16] at H
     have c16b0 : decide (a2 < (l1.length : Int)) = true := decide_eq_true c16
     clear c16
     replace H := Option.bind_eq_some_iff.mp H
     obtain ⟨⟨t314, t315⟩, ze, H⟩ := H
     try dsimp only at H
     have A17 := aM ze
     clear ze
     simp only [Option.some.injEq, Prod.mk.injEq] at H
     obtain ⟨rfl, rfl⟩ := H
     try go_wp2
     replace HB := aM (below_drew1 HB.out)
     have p312 : 0 ≤ (a2 : Int) := of_decide_eq_true pD
     have q312 : a2 < (l0.length : Int) := of_decide_eq_true pD
     obtain ⟨ad312, e312, hx312_0⟩ := Kd.at_int HR0.out a2 p312 q312
     have hw312_0 := hx312_0
     cases e312
     replace hx312_0 := (HB.out.cell (World.block_lt_of_cell? w _ hx312_0)).trans hx312_0
     replace p312 := eq_true p312
     replace q312 := eq_true q312
     have p313 : 0 ≤ (a2 : Int) := of_decide_eq_true pD
     have q313 : a2 < (l1.length : Int) := of_decide_eq_true pD
     obtain ⟨ad313, e313, hx313_0⟩ := Kd.at_int HR1.out a2 p313 q313
     have hw313_0 := hx313_0
     cases e313
     replace hx313_0 := (HB.out.cell (World.block_lt_of_cell? w _ hx313_0)).trans hx313_0
     replace p313 := eq_true p313
     replace q313 := eq_true q313
     refine start_ (n := 16) (S := fun w' => w'.cell? (ad312.add (a2).toNat) = some (.int .i64 (rd l0 a2)) ∧ w'.cell? (ad313.add (a2).toNat) = some (.int .i64 (rd l1 a2))) (ds := []) (bm 16 0) (by kernel_rfl) rfl rfl ⟨((HB.out.cell (World.block_lt_of_cell? w _ hw312_0)).trans hw312_0), ((HB.out.cell (World.block_lt_of_cell? w _ hw313_0)).trans hw313_0)⟩ (fun hHeld => ?_); refine with_tabW move_joined.tab11 move_joined.bits11 (fun HT_ HW_ => ?_)
     generalize wr.drew = w18 at HB hx312_0 hx313_0 hHeld ⊢
     refine pP (i := 0) (N := some 42) (bm 16 1) rfl rfl HT_.out ?_
     refine pP (i := 1) (N := some 43) (bm 16 3) rfl rfl HT_.out ?_
     refine pP (i := 2) (N := some 44) (bm 16 7) rfl rfl HT_.out ?_
     refine pP (i := 3) (N := some 45) (bm 16 15) rfl rfl HT_.out ?_
     refine pP (i := 4) (N := some 46) (bm 16 31) rfl rfl HT_.out ?_
     refine pP (i := 6) (N := some 48) (bm 16 95) rfl rfl HT_.out ?_
     refine pP (i := 7) (N := some 49) (bm 16 223) rfl rfl HT_.out ?_
     refine pP (i := 8) (N := some 50) (bm 16 479) rfl rfl HT_.out ?_
     refine pT (i := 5) (N := some 47) (bm 16 511) rfl rfl HT_.out HW_.out hHeld (by rintro w' ⟨s0, s1⟩; go_simp; with_reducible rfl) ?_
     refine pT (i := 9) (N := some 51) (bm 16 1023) rfl rfl HT_.out HW_.out hHeld (by rintro w' ⟨s0, s1⟩; go_simp; with_reducible rfl) ?_
     refine pP (i := 10) (N := some 52) (bm 16 2047) rfl rfl HT_.out ?_
     refine one_ (i := 11) (N := some 53) (bm 16 4095) rfl rfl (one_of HT_.out (by kernel_rfl)) (by decide) (fun K hK => ?_)
     refine goes_ Try.func61 (by kernel_rfl) rfl #[.slice (some ad312) l0.length c0, .int .i64 a2, .int .i64 (wrap64 ((rd l0 a2) + (rd l1 a2)))] (by rfl) rfl rfl pA ?_
     with_reducible refine (shape_With.calls k2 _ _ l0 a2 (wrap64 ((rd l0 a2) + (rd l1 a2))) t314 t315 _ ?s1 ?s2 A17.out).mono ?_
     (case s1 => exact sC HR0 HB)
     (case s2 => exact HC0.out)
     rintro e w19 ⟨v316, rfl, ho0, hb⟩
     refine ⟨_, rfl, ?_⟩
     have HO317 := aM (Kd.R_lower ho0 (below_size (qB HB)))
     replace HB := bS (qB HB) hb
     (try clear hb)
     (try clear ho0)
     refine hK.out _ _ ⟨((HB.out.cell (World.block_lt_of_cell? w _ hw312_0)).trans hw312_0), ((HB.out.cell (World.block_lt_of_cell? w _ hw313_0)).trans hw313_0)⟩ (fun hHeld => ?_)
     clear hK K
     refine norm_ (a' := ?_) ?_ ?_
     rotate_left
     ·show Act.put _ (some 53) _ = _
      simp only [Act.put, sP, i64_w, i32_w]
      rfl
     refine pP (i := 12) (N := some 54) (bm 16 8191) rfl rfl HT_.out ?_
     refine pP (i := 13) (N := some 55) (bm 16 16383) rfl rfl HT_.out ?_
     refine pP (i := 14) (N := some 6) (bm 16 32767) rfl rfl HT_.out ?_
     refine pP (i := 15) (N := some 7) (bm 16 65535) rfl rfl HT_.out ?_
     refine done_ (done_of HT_.out (by kernel_rfl)) ?_
     try go_wp2
     go_ret2
     exact ⟨_, pE, pR HO317.out, qB HB⟩
def move_put.l0 : Nat → List Int → List Int → Int → Int → Int → Int → Int → Int → Int → Int → Int → Int → Bool → List Int → Option (List Int × Int)
 | 0, _, _, _, _, _, _, _, _, _, _, _, _, _, _ => none
 | k + 1, x6, x34, x35, x36, x304000, zam, x304002, x304003, x304004, x304005, x304006, x304007, x304008, x304009 => if x36 < x35 then (if 0 ≤ x36 then (if x36 < (x34.length : Int) then (if (rd x34 x36) < 0 then (some (([] : List Int), 11)) else (if (rd x34 x36) ≥ zam then (some (([] : List Int), 11)) else (move_put.l0 k x6 x34 x35 (wrap64 (x36 + 1)) x304000 zam x304002 x304003 x304004 x304005 x304006 x304007 x304008 x304009))) else (none)) else (none)) else (some (x6, 0))
def move_put.f (k : Nat) (l0 : List Int) (a1_0 : Int) (a1_1 : Int) (a1_2 : Int) (a1_3 : Int) (a1_4 : Int) (a1_5 : Int) (a1_6 : Int) (a1_7 : Int) (a1_8 : Bool) (l1_9 : List Int) : Option (List Int × Int) := (shape_With.f k l0 a1_0 a1_1).bind fun bt304 => (if bt304.2 = 0 then (if 0 ≤ a1_0 then (if a1_0 < (l0.length : Int) then (if (l1_9.length : Int) = (rd l0 a1_0) then (move_put.l0 k bt304.1 l1_9 (l1_9.length : Int) 0 a1_0 a1_1 a1_2 a1_3 a1_4 a1_5 a1_6 a1_7 a1_8 l1_9) else (some (([] : List Int), 8))) else (none)) else (none)) else (some (([] : List Int), bt304.2)))
set_option maxHeartbeats 8000000 in
set_option maxRecDepth 100000 in
theorem move_put.calls (k : Nat) (A0 : Option Addr) (c0 : Nat) (l0 : List Int) (a1_0 : Int) (a1_1 : Int) (a1_2 : Int) (a1_3 : Int) (a1_4 : Int) (a1_5 : Int) (a1_6 : Int) (a1_7 : Int) (a1_8 : Bool) (A1_9 : Option Addr) (c1_9 : Nat) (l1_9 : List Int) (r1 : List Int) (r2 : Int) (w : World) (hr0 : Kd.C (Kd.int .i64) w A0 l0.length l0) (hc0 : l0.length ≤ c0) (hr1_9 : Kd.C (Kd.int .i64) w A1_9 l1_9.length l1_9) (hc1_9 : l1_9.length ≤ c1_9) (h : move_put.f k l0 a1_0 a1_1 a1_2 a1_3 a1_4 a1_5 a1_6 a1_7 a1_8 l1_9 = some (r1, r2)) :
  Calls Try.prog 33 #[.slice A0 l0.length c0, .agg #[.int .i64 a1_0, .int .i64 a1_1, .int .i64 a1_2, .int .i64 a1_3, .int .i64 a1_4, .int .i64 a1_5, .int .i64 a1_6, .int .i64 a1_7, .bool a1_8, .slice A1_9 l1_9.length c1_9]] w fun e w' => ∃ v0_ : Value, e = .returned (.tuple #[v0_, .int .i64 r2]) ∧ Kd.R (Kd.int .i64) 3 w' w.heap.size (fun _ => True) v0_ r1 ∧ Below w.heap.size w w' := by
 have hu24 := Try.underlying24
 have HR0 := aM hr0
 have HC0 := aM hc0
 clear hr0 hc0
 have zcb := aM hr1_9
 have HC1_9 := aM hc1_9
 clear hr1_9 hc1_9
 have HB := aM (Below.refl w.heap.size w)
 have H : ((shape_With.f k l0 a1_0 a1_1).bind fun bt304 => (if bt304.2 = 0 then (if 0 ≤ a1_0 then (if a1_0 < (l0.length : Int) then (if (l1_9.length : Int) = (rd l0 a1_0) then (move_put.l0 k bt304.1 l1_9 (l1_9.length : Int) 0 a1_0 a1_1 a1_2 a1_3 a1_4 a1_5 a1_6 a1_7 a1_8 l1_9) else (some (([] : List Int), 8))) else (none)) else (none)) else (some (([] : List Int), bt304.2)))) = some (r1, r2) := h
 clear h
 replace H := Option.bind_eq_some_iff.mp H
 obtain ⟨⟨zg, zd⟩, A30, H⟩ := H
 try dsimp only at H
 have A3 := aM A30
 clear A30
 by_cases c4 : zd = 0
 rotate_left
 ·rw [if_neg c4] at H
  have zcc : (zd == 0) = false := beq_eq_false_iff_ne.mpr c4
  have zcd : (zd != 0) = true := bne_iff_ne.mpr c4
  simp only [Option.some.injEq, Prod.mk.injEq] at H
  obtain ⟨rfl, rfl⟩ := H
  go_enter Try.func33, Try.ntmps33
  go_wp2_with (first | ((with_reducible refine gate_dst (N := 3) rfl ?_); refine box_event ?hg (N := 3) ?hd (cs := #[.int .i64 a1_0, .int .i64 a1_1, .int .i64 a1_2, .int .i64 a1_3, .int .i64 a1_4, .int .i64 a1_5, .int .i64 a1_6, .int .i64 a1_7, .bool a1_8, .slice A1_9 l1_9.length c1_9]) (t := 24) ?hr ?_; (case hd => rfl); (case hg => rfl); (case hr => first | (go_simp; done) | (go_simp; rfl)); intro ze hg w23 hbox hb; have za := aM (hbox); have zc := gE (w := w) hg (qB HB); have zb := zc; replace HB := bS (qB HB) hb; clear hb hbox hg; obtain ⟨zan, zao, zap, zaq, zar, zas, zat, zau, zav, zaw, zax, zay, zaz, za0, za1, za2, za3, za4, za5, za6⟩ := blk10 za.out) | (go_at_call 61; (with_reducible refine (shape_With.calls k _ _ l0 a1_0 a1_1 zg zd _ ?s1 ?s2 A3.out).mono ?_); (case s1 => exact sC HR0 HB); (case s2 => exact HC0.out); rintro e w25 ⟨zh, rfl, ho0, hb⟩; have zf := aM (Kd.R_lower ho0 (below_size (qB1 HB zb))); replace za := bK za hb; replace HB := bS (qB1 HB zb) hb; (try clear hb); (try clear hk); (try clear hi); (try clear ho0)))
  repeat (go_quiet (first | ((with_reducible refine gate_dst (N := 3) rfl ?_); refine box_event ?hg (N := 3) ?hd (cs := #[.int .i64 a1_0, .int .i64 a1_1, .int .i64 a1_2, .int .i64 a1_3, .int .i64 a1_4, .int .i64 a1_5, .int .i64 a1_6, .int .i64 a1_7, .bool a1_8, .slice A1_9 l1_9.length c1_9]) (t := 24) ?hr ?_; (case hd => rfl); (case hg => rfl); (case hr => first | (go_simp; done) | (go_simp; rfl)); intro ze hg w23 hbox hb; have za := aM (hbox); have zc := gE (w := w) hg (qB HB); have zb := zc; replace HB := bS (qB HB) hb; clear hb hbox hg; obtain ⟨zan, zao, zap, zaq, zar, zas, zat, zau, zav, zaw, zax, zay, zaz, za0, za1, za2, za3, za4, za5, za6⟩ := blk10 za.out) | (go_at_call 61; (with_reducible refine (shape_With.calls k _ _ l0 a1_0 a1_1 zg zd _ ?s1 ?s2 A3.out).mono ?_); (case s1 => exact sC HR0 HB); (case s2 => exact HC0.out); rintro e w25 ⟨zh, rfl, ho0, hb⟩; have zf := aM (Kd.R_lower ho0 (below_size (qB1 HB zb))); replace za := bK za hb; replace HB := bS (qB1 HB zb) hb; (try clear hb); (try clear hk); (try clear hi); (try clear ho0))); try go_wp2_with (first | ((with_reducible refine gate_dst (N := 3) rfl ?_); refine box_event ?hg (N := 3) ?hd (cs := #[.int .i64 a1_0, .int .i64 a1_1, .int .i64 a1_2, .int .i64 a1_3, .int .i64 a1_4, .int .i64 a1_5, .int .i64 a1_6, .int .i64 a1_7, .bool a1_8, .slice A1_9 l1_9.length c1_9]) (t := 24) ?hr ?_; (case hd => rfl); (case hg => rfl); (case hr => first | (go_simp; done) | (go_simp; rfl)); intro ze hg w23 hbox hb; have za := aM (hbox); have zc := gE (w := w) hg (qB HB); have zb := zc; replace HB := bS (qB HB) hb; clear hb hbox hg; obtain ⟨zan, zao, zap, zaq, zar, zas, zat, zau, zav, zaw, zax, zay, zaz, za0, za1, za2, za3, za4, za5, za6⟩ := blk10 za.out) | (go_at_call 61; (with_reducible refine (shape_With.calls k _ _ l0 a1_0 a1_1 zg zd _ ?s1 ?s2 A3.out).mono ?_); (case s1 => exact sC HR0 HB); (case s2 => exact HC0.out); rintro e w25 ⟨zh, rfl, ho0, hb⟩; have zf := aM (Kd.R_lower ho0 (below_size (qB1 HB zb))); replace za := bK za hb; replace HB := bS (qB1 HB zb) hb; (try clear hb); (try clear hk); (try clear hi); (try clear ho0))))
  go_ret2
  exact ⟨_, pE, pN, qB1 HB zb⟩
 rw [if_pos c4] at H
 have zcc : (zd == 0) = true := beq_iff_eq.mpr c4
 have zcd : (zd != 0) = false := bne_eq_false_iff_eq.mpr c4
 clear c4
 by_cases c5 : 0 ≤ a1_0
 rotate_left
 ·rw [if_neg c5] at H
  exact absurd H (by simp)
 rw [if_pos c5] at H
 have c5b0 : decide (0 ≤ a1_0) = true := decide_eq_true c5
 clear c5
 by_cases c6 : a1_0 < (l0.length : Int)
 rotate_left
 ·rw [if_neg c6] at H
  exact absurd H (by simp)
 rw [if_pos c6] at H
 have c6b0 : decide (a1_0 < (l0.length : Int)) = true := decide_eq_true c6
 clear c6
 by_cases c7 : (l1_9.length : Int) = (rd l0 a1_0)
 rotate_left
 ·rw [if_neg c7] at H
  have zce : ((l1_9.length : Int) == (rd l0 a1_0)) = false := beq_eq_false_iff_ne.mpr c7
  have zcf : ((l1_9.length : Int) != (rd l0 a1_0)) = true := bne_iff_ne.mpr c7
  simp only [Option.some.injEq, Prod.mk.injEq] at H
  obtain ⟨rfl, rfl⟩ := H
  go_enter Try.func33, Try.ntmps33
  go_wp2_with (first | ((with_reducible refine gate_dst (N := 3) rfl ?_); refine box_event ?hg (N := 3) ?hd (cs := #[.int .i64 a1_0, .int .i64 a1_1, .int .i64 a1_2, .int .i64 a1_3, .int .i64 a1_4, .int .i64 a1_5, .int .i64 a1_6, .int .i64 a1_7, .bool a1_8, .slice A1_9 l1_9.length c1_9]) (t := 24) ?hr ?_; (case hd => rfl); (case hg => rfl); (case hr => first | (go_simp; done) | (go_simp; rfl)); intro ze hg w19 hbox hb; have za := aM (hbox); have zc := gE (w := w) hg (qB HB); have zb := zc; replace HB := bS (qB HB) hb; clear hb hbox hg; obtain ⟨za7, za8, za9, zba, zbb, zbc, zbd, zbe, zbf, zbg, zbh, zbi, zbj, zbk, zbl, zbm, zbn, zbo, zbp, zbq⟩ := blk10 za.out) | (go_at_call 61; (with_reducible refine (shape_With.calls k _ _ l0 a1_0 a1_1 zg zd _ ?s1 ?s2 A3.out).mono ?_); (case s1 => exact sC HR0 HB); (case s2 => exact HC0.out); rintro e w21 ⟨zh, rfl, ho0, hb⟩; have zf := aM (Kd.R_lower ho0 (below_size (qB1 HB zb))); replace za := bK za hb; replace HB := bS (qB1 HB zb) hb; (try clear hb); (try clear hk); (try clear hi); (try clear ho0); obtain ⟨zbr, zbs, zbt, zbu, zbv, zbw, zbx, zby, zbz, zb0, zb1, zb2, zb3, zb4, zb5, zb6, zb7, zb8, zb9, zca⟩ := blk10 za.out; have p308 : 0 ≤ (a1_0 : Int) := of_decide_eq_true pD; have q308 : a1_0 < (l0.length : Int) := of_decide_eq_true pD; obtain ⟨ad308, e308, hx308_0⟩ := Kd.at_int HR0.out a1_0 p308 q308; cases e308; replace hx308_0 := (HB.out.cell (World.block_lt_of_cell? w _ hx308_0)).trans hx308_0; replace p308 := eq_true p308; replace q308 := eq_true q308))
  repeat (go_quiet (first | ((with_reducible refine gate_dst (N := 3) rfl ?_); refine box_event ?hg (N := 3) ?hd (cs := #[.int .i64 a1_0, .int .i64 a1_1, .int .i64 a1_2, .int .i64 a1_3, .int .i64 a1_4, .int .i64 a1_5, .int .i64 a1_6, .int .i64 a1_7, .bool a1_8, .slice A1_9 l1_9.length c1_9]) (t := 24) ?hr ?_; (case hd => rfl); (case hg => rfl); (case hr => first | (go_simp; done) | (go_simp; rfl)); intro ze hg w19 hbox hb; have za := aM (hbox); have zc := gE (w := w) hg (qB HB); have zb := zc; replace HB := bS (qB HB) hb; clear hb hbox hg; obtain ⟨za7, za8, za9, zba, zbb, zbc, zbd, zbe, zbf, zbg, zbh, zbi, zbj, zbk, zbl, zbm, zbn, zbo, zbp, zbq⟩ := blk10 za.out) | (go_at_call 61; (with_reducible refine (shape_With.calls k _ _ l0 a1_0 a1_1 zg zd _ ?s1 ?s2 A3.out).mono ?_); (case s1 => exact sC HR0 HB); (case s2 => exact HC0.out); rintro e w21 ⟨zh, rfl, ho0, hb⟩; have zf := aM (Kd.R_lower ho0 (below_size (qB1 HB zb))); replace za := bK za hb; replace HB := bS (qB1 HB zb) hb; (try clear hb); (try clear hk); (try clear hi); (try clear ho0); obtain ⟨zbr, zbs, zbt, zbu, zbv, zbw, zbx, zby, zbz, zb0, zb1, zb2, zb3, zb4, zb5, zb6, zb7, zb8, zb9, zca⟩ := blk10 za.out; have p308 : 0 ≤ (a1_0 : Int) := of_decide_eq_true pD; have q308 : a1_0 < (l0.length : Int) := of_decide_eq_true pD; obtain ⟨ad308, e308, hx308_0⟩ := Kd.at_int HR0.out a1_0 p308 q308; cases e308; replace hx308_0 := (HB.out.cell (World.block_lt_of_cell? w _ hx308_0)).trans hx308_0; replace p308 := eq_true p308; replace q308 := eq_true q308)); try go_wp2_with (first | ((with_reducible refine gate_dst (N := 3) rfl ?_); refine box_event ?hg (N := 3) ?hd (cs := #[.int .i64 a1_0, .int .i64 a1_1, .int .i64 a1_2, .int .i64 a1_3, .int .i64 a1_4, .int .i64 a1_5, .int .i64 a1_6, .int .i64 a1_7, .bool a1_8, .slice A1_9 l1_9.length c1_9]) (t := 24) ?hr ?_; (case hd => rfl); (case hg => rfl); (case hr => first | (go_simp; done) | (go_simp; rfl)); intro ze hg w19 hbox hb; have za := aM (hbox); have zc := gE (w := w) hg (qB HB); have zb := zc; replace HB := bS (qB HB) hb; clear hb hbox hg; obtain ⟨za7, za8, za9, zba, zbb, zbc, zbd, zbe, zbf, zbg, zbh, zbi, zbj, zbk, zbl, zbm, zbn, zbo, zbp, zbq⟩ := blk10 za.out) | (go_at_call 61; (with_reducible refine (shape_With.calls k _ _ l0 a1_0 a1_1 zg zd _ ?s1 ?s2 A3.out).mono ?_); (case s1 => exact sC HR0 HB); (case s2 => exact HC0.out); rintro e w21 ⟨zh, rfl, ho0, hb⟩; have zf := aM (Kd.R_lower ho0 (below_size (qB1 HB zb))); replace za := bK za hb; replace HB := bS (qB1 HB zb) hb; (try clear hb); (try clear hk); (try clear hi); (try clear ho0); obtain ⟨zbr, zbs, zbt, zbu, zbv, zbw, zbx, zby, zbz, zb0, zb1, zb2, zb3, zb4, zb5, zb6, zb7, zb8, zb9, zca⟩ := blk10 za.out; have p308 : 0 ≤ (a1_0 : Int) := of_decide_eq_true pD; have q308 : a1_0 < (l0.length : Int) := of_decide_eq_true pD; obtain ⟨ad308, e308, hx308_0⟩ := Kd.at_int HR0.out a1_0 p308 q308; cases e308; replace hx308_0 := (HB.out.cell (World.block_lt_of_cell? w _ hx308_0)).trans hx308_0; replace p308 := eq_true p308; replace q308 := eq_true q308)))
  go_ret2
  exact ⟨_, pE, pN, qB1 HB zb⟩
 rw [if_pos c7] at H
 have zce : ((l1_9.length : Int) == (rd l0 a1_0)) = true := beq_iff_eq.mpr c7
 have zcf : ((l1_9.length : Int) != (rd l0 a1_0)) = false := bne_eq_false_iff_eq.mpr c7
 clear c7
 have H' := aM H
 clear H
 go_enter Try.func33, Try.ntmps33
 go_wp2_with (first | ((with_reducible refine gate_dst (N := 3) rfl ?_); refine box_event ?hg (N := 3) ?hd (cs := #[.int .i64 a1_0, .int .i64 a1_1, .int .i64 a1_2, .int .i64 a1_3, .int .i64 a1_4, .int .i64 a1_5, .int .i64 a1_6, .int .i64 a1_7, .bool a1_8, .slice A1_9 l1_9.length c1_9]) (t := 24) ?hr ?_; (case hd => rfl); (case hg => rfl); (case hr => first | (go_simp; done) | (go_simp; rfl)); intro ze hg w8 hbox hb; have za := aM (hbox); have zc := gE (w := w) hg (qB HB); have zb := zc; replace HB := bS (qB HB) hb; clear hb hbox hg; obtain ⟨z2, z3, z4, z5, z6, z7, z8, z9, zaa, zab, zac, zad, zae, zaf, zag, zah, zai, zaj, zak, zal⟩ := blk10 za.out) | (go_at_call 61; (with_reducible refine (shape_With.calls k _ _ l0 a1_0 a1_1 zg zd _ ?s1 ?s2 A3.out).mono ?_); (case s1 => exact sC HR0 HB); (case s2 => exact HC0.out); rintro e w10 ⟨zh, rfl, ho0, hb⟩; have zf := aM (Kd.R_lower ho0 (below_size (qB1 HB zb))); replace za := bK za hb; replace HB := bS (qB1 HB zb) hb; (try clear hb); (try clear hk); (try clear hi); (try clear ho0); obtain ⟨zi, zj, zk, zl, zm, zn, zo, zp, zq, zr, zs, zt, zu, zv, zw, zx, zy, zz, z0, z1⟩ := blk10 za.out; have p308 : 0 ≤ (a1_0 : Int) := of_decide_eq_true pD; have q308 : a1_0 < (l0.length : Int) := of_decide_eq_true pD; obtain ⟨ad308, e308, hx308_0⟩ := Kd.at_int HR0.out a1_0 p308 q308; cases e308; replace hx308_0 := (HB.out.cell (World.block_lt_of_cell? w _ hx308_0)).trans hx308_0; replace p308 := eq_true p308; replace q308 := eq_true q308))
 repeat (go_quiet (first | ((with_reducible refine gate_dst (N := 3) rfl ?_); refine box_event ?hg (N := 3) ?hd (cs := #[.int .i64 a1_0, .int .i64 a1_1, .int .i64 a1_2, .int .i64 a1_3, .int .i64 a1_4, .int .i64 a1_5, .int .i64 a1_6, .int .i64 a1_7, .bool a1_8, .slice A1_9 l1_9.length c1_9]) (t := 24) ?hr ?_; (case hd => rfl); (case hg => rfl); (case hr => first | (go_simp; done) | (go_simp; rfl)); intro ze hg w8 hbox hb; have za := aM (hbox); have zc := gE (w := w) hg (qB HB); have zb := zc; replace HB := bS (qB HB) hb; clear hb hbox hg; obtain ⟨z2, z3, z4, z5, z6, z7, z8, z9, zaa, zab, zac, zad, zae, zaf, zag, zah, zai, zaj, zak, zal⟩ := blk10 za.out) | (go_at_call 61; (with_reducible refine (shape_With.calls k _ _ l0 a1_0 a1_1 zg zd _ ?s1 ?s2 A3.out).mono ?_); (case s1 => exact sC HR0 HB); (case s2 => exact HC0.out); rintro e w10 ⟨zh, rfl, ho0, hb⟩; have zf := aM (Kd.R_lower ho0 (below_size (qB1 HB zb))); replace za := bK za hb; replace HB := bS (qB1 HB zb) hb; (try clear hb); (try clear hk); (try clear hi); (try clear ho0); obtain ⟨zi, zj, zk, zl, zm, zn, zo, zp, zq, zr, zs, zt, zu, zv, zw, zx, zy, zz, z0, z1⟩ := blk10 za.out; have p308 : 0 ≤ (a1_0 : Int) := of_decide_eq_true pD; have q308 : a1_0 < (l0.length : Int) := of_decide_eq_true pD; obtain ⟨ad308, e308, hx308_0⟩ := Kd.at_int HR0.out a1_0 p308 q308; cases e308; replace hx308_0 := (HB.out.cell (World.block_lt_of_cell? w _ hx308_0)).trans hx308_0; replace p308 := eq_true p308; replace q308 := eq_true q308)); try go_wp2_with (first | ((with_reducible refine gate_dst (N := 3) rfl ?_); refine box_event ?hg (N := 3) ?hd (cs := #[.int .i64 a1_0, .int .i64 a1_1, .int .i64 a1_2, .int .i64 a1_3, .int .i64 a1_4, .int .i64 a1_5, .int .i64 a1_6, .int .i64 a1_7, .bool a1_8, .slice A1_9 l1_9.length c1_9]) (t := 24) ?hr ?_; (case hd => rfl); (case hg => rfl); (case hr => first | (go_simp; done) | (go_simp; rfl)); intro ze hg w8 hbox hb; have za := aM (hbox); have zc := gE (w := w) hg (qB HB); have zb := zc; replace HB := bS (qB HB) hb; clear hb hbox hg; obtain ⟨z2, z3, z4, z5, z6, z7, z8, z9, zaa, zab, zac, zad, zae, zaf, zag, zah, zai, zaj, zak, zal⟩ := blk10 za.out) | (go_at_call 61; (with_reducible refine (shape_With.calls k _ _ l0 a1_0 a1_1 zg zd _ ?s1 ?s2 A3.out).mono ?_); (case s1 => exact sC HR0 HB); (case s2 => exact HC0.out); rintro e w10 ⟨zh, rfl, ho0, hb⟩; have zf := aM (Kd.R_lower ho0 (below_size (qB1 HB zb))); replace za := bK za hb; replace HB := bS (qB1 HB zb) hb; (try clear hb); (try clear hk); (try clear hi); (try clear ho0); obtain ⟨zi, zj, zk, zl, zm, zn, zo, zp, zq, zr, zs, zt, zu, zv, zw, zx, zy, zz, z0, z1⟩ := blk10 za.out; have p308 : 0 ≤ (a1_0 : Int) := of_decide_eq_true pD; have q308 : a1_0 < (l0.length : Int) := of_decide_eq_true pD; obtain ⟨ad308, e308, hx308_0⟩ := Kd.at_int HR0.out a1_0 p308 q308; cases e308; replace hx308_0 := (HB.out.cell (World.block_lt_of_cell? w _ hx308_0)).trans hx308_0; replace p308 := eq_true p308; replace q308 := eq_true q308)))
 go_loopg [36] k (fun kq v36 w' => ∃ (x36_1 : Int), v36 = .int .i64 x36_1 ∧ Aside0 (move_put.l0 kq zg l1_9 (l1_9.length : Int) x36_1 a1_0 a1_1 a1_2 a1_3 a1_4 a1_5 a1_6 a1_7 a1_8 l1_9 = some (r1, r2)) ∧ Aside0 (kq ≤ k) ∧ Aside0 (Kd.R (Kd.int .i64) 3 w' w.heap.size (fun _ => True) zh zg) ∧ Aside0 (w'.heap[ze]? = some (.cells #[.int .i64 a1_0, .int .i64 a1_1, .int .i64 a1_2, .int .i64 a1_3, .int .i64 a1_4, .int .i64 a1_5, .int .i64 a1_6, .int .i64 a1_7, .bool a1_8, (.slice A1_9 l1_9.length c1_9)] 24 (0, 0))) ∧ Aside0 (Below w.heap.size w w'))
 case atStart => exact ⟨(0), (pF), H', ⟨Nat.le_refl _⟩, ⟨pR zf.out⟩, ⟨pK za.out⟩, ⟨qB1 HB zb⟩⟩
 case round =>
  clear H'
  try clear zcc
  try clear zcd
  try clear c5b0
  try clear c6b0
  try clear zce
  try clear zcf
  try clear zi zj zk zl zm zn zo zp zq zr z2 z3 z4 z5 z6 z7 z8 z9 zaa zab zs zt zu zv zw zx zy zz z0 z1 zac zad zae zaf zag zah zai zaj zak zal
  try clear hx308_0
  try clear p308
  try clear q308
  obtain ⟨x36_1, rfl, HA, HK1, zcg, za, HB⟩ := hrel
  cases gk with
  | zero => exact absurd HA.out (by simp [move_put.l0])
  | succ k1 =>
   have H := HA.out
   clear HA
   simp only [move_put.l0] at H
   by_cases c12 : x36_1 < (l1_9.length : Int)
   rotate_left
   ·rw [if_neg c12] at H
    have c12b0 : decide (x36_1 < (l1_9.length : Int)) = false := decide_eq_false c12
    clear c12
    simp only [Option.some.injEq, Prod.mk.injEq] at H
    obtain ⟨rfl, rfl⟩ := H
    go_wp2
    repeat (go_quiet (fail); try go_wp2)
    go_ret2
    exact ⟨_, pE, pR zcg.out, qB1 HB zb⟩
   rw [if_pos c12] at H
   have c12b0 : decide (x36_1 < (l1_9.length : Int)) = true := decide_eq_true c12
   clear c12
   by_cases c13 : 0 ≤ x36_1
   rotate_left
   ·rw [if_neg c13] at H
    exact absurd H (by simp)
   rw [if_pos c13] at H
   have c13b0 : decide (0 ≤ x36_1) = true := decide_eq_true c13
   clear c13
   by_cases c14 : x36_1 < (l1_9.length : Int)
   rotate_left
   ·rw [if_neg c14] at H
    exact absurd H (by simp)
   rw [if_pos c14] at H
   have c14b0 : decide (x36_1 < (l1_9.length : Int)) = true := decide_eq_true c14
   clear c14
   by_cases c15 : (rd l1_9 x36_1) < 0
   ·rw [if_pos c15] at H
    have c15b0 : decide ((rd l1_9 x36_1) < 0) = true := decide_eq_true c15
    clear c15
    simp only [Option.some.injEq, Prod.mk.injEq] at H
    obtain ⟨rfl, rfl⟩ := H
    have p309 : 0 ≤ (x36_1 : Int) := of_decide_eq_true pD
    have q309 : x36_1 < (l1_9.length : Int) := of_decide_eq_true pD
    obtain ⟨ad309, e309, hx309_0⟩ := Kd.at_int zcb.out x36_1 p309 q309
    cases e309
    replace hx309_0 := (HB.out.cell (World.block_lt_of_cell? w _ hx309_0)).trans hx309_0
    replace p309 := eq_true p309
    replace q309 := eq_true q309
    go_wp2
    repeat (go_quiet (fail); try go_wp2)
    go_ret2
    exact ⟨_, pE, pN, qB1 HB zb⟩
   rw [if_neg c15] at H
   have c15b0 : decide ((rd l1_9 x36_1) < 0) = false := decide_eq_false c15
   clear c15
   by_cases c16 : (rd l1_9 x36_1) ≥ a1_1
   ·rw [if_pos c16] at H
    have c16b0 : decide (a1_1 ≤ (rd l1_9 x36_1)) = true := decide_eq_true c16
    clear c16
    simp only [Option.some.injEq, Prod.mk.injEq] at H
    obtain ⟨rfl, rfl⟩ := H
    have p309 : 0 ≤ (x36_1 : Int) := of_decide_eq_true pD
    have q309 : x36_1 < (l1_9.length : Int) := of_decide_eq_true pD
    obtain ⟨ad309, e309, hx309_0⟩ := Kd.at_int zcb.out x36_1 p309 q309
    cases e309
    replace hx309_0 := (HB.out.cell (World.block_lt_of_cell? w _ hx309_0)).trans hx309_0
    replace p309 := eq_true p309
    replace q309 := eq_true q309
    obtain ⟨hcz17_0, hcz17_1, hcz17_2, hcz17_3, hcz17_4, hcz17_5, hcz17_6, hcz17_7, hcz17_8, hcz17_9, hfz17_0, hfz17_1, hfz17_2, hfz17_3, hfz17_4, hfz17_5, hfz17_6, hfz17_7, hfz17_8, hfz17_9⟩ := blk10 za.out
    go_wp2
    repeat (go_quiet (fail); try go_wp2)
    go_ret2
    exact ⟨_, pE, pN, qB1 HB zb⟩
   rw [if_neg c16] at H
   have c16b0 : decide (a1_1 ≤ (rd l1_9 x36_1)) = false := decide_eq_false c16
   clear c16
   have H' := aM H
   clear H
   have p309 : 0 ≤ (x36_1 : Int) := of_decide_eq_true pD
   have q309 : x36_1 < (l1_9.length : Int) := of_decide_eq_true pD
   obtain ⟨ad309, e309, hx309_0⟩ := Kd.at_int zcb.out x36_1 p309 q309
   cases e309
   replace hx309_0 := (HB.out.cell (World.block_lt_of_cell? w _ hx309_0)).trans hx309_0
   replace p309 := eq_true p309
   replace q309 := eq_true q309
   obtain ⟨hcz18_0, hcz18_1, hcz18_2, hcz18_3, hcz18_4, hcz18_5, hcz18_6, hcz18_7, hcz18_8, hcz18_9, hfz18_0, hfz18_1, hfz18_2, hfz18_3, hfz18_4, hfz18_5, hfz18_6, hfz18_7, hfz18_8, hfz18_9⟩ := blk10 za.out
   go_wp2
   repeat (go_quiet (fail); try go_wp2)
   go_roundg k1
   case measure => have := HK1.out; omega
   case rel => exact ⟨(wrap64 (x36_1 + 1)), (pF), H', ⟨by have := HK1.out; omega⟩, ⟨pR zcg.out⟩, ⟨pK za.out⟩, ⟨qB1 HB zb⟩⟩
mutual
def move_taken.j0 : Nat → List Int → Bool → Int → Int → Int → Int → Int → Int → Int → Int → Bool → List Int → Option (List Int × Int)
 | 0, _, _, _, _, _, _, _, _, _, _, _, _ => none
 | k + 1, x0, x17, zb, ze, zf, zg, zh, zi, zj, zk, zl, zc => if x17 = true then (some (([] : List Int), 10)) else (move_taken.l0 k x0 zc (zc.length : Int) 0 zb ze zf zg zh zi zj zk zl zc)
def move_taken.l0 : Nat → List Int → List Int → Int → Int → Int → Int → Int → Int → Int → Int → Int → Int → Bool → List Int → Option (List Int × Int)
 | 0, _, _, _, _, _, _, _, _, _, _, _, _, _, _ => none
 | k + 1, x0, x19, x20, x21, zb, ze, zf, zg, zh, zi, zj, zk, zl, zc => if x21 < x20 then (if 0 ≤ x21 then (if x21 < (x19.length : Int) then (if (rd x19 x21) < 0 then (some (([] : List Int), 11)) else (if 0 ≤ zb then (if zb < (x0.length : Int) then (if (rd x19 x21) ≥ (rd x0 zb) then (some (([] : List Int), 11)) else (move_taken.l0 k x0 x19 x20 (wrap64 (x21 + 1)) zb ze zf zg zh zi zj zk zl zc)) else (none)) else (none))) else (none)) else (none)) else ((shape_With.f k x0 zb (zc.length : Int)).bind fun bt299 => (some (bt299.1, bt299.2)))
end
def move_taken.f (k : Nat) (l0 : List Int) (a1_0 : Int) (a1_1 : Int) (a1_2 : Int) (a1_3 : Int) (a1_4 : Int) (a1_5 : Int) (a1_6 : Int) (a1_7 : Int) (a1_8 : Bool) (l1_9 : List Int) : Option (List Int × Int) := if a1_0 < 0 then (move_taken.j0 k l0 true a1_0 a1_1 a1_2 a1_3 a1_4 a1_5 a1_6 a1_7 a1_8 l1_9) else (move_taken.j0 k l0 (decide (a1_0 ≥ (l0.length : Int))) a1_0 a1_1 a1_2 a1_3 a1_4 a1_5 a1_6 a1_7 a1_8 l1_9)
set_option maxHeartbeats 8000000 in
set_option maxRecDepth 100000 in
theorem move_taken.calls (k : Nat) (A0 : Option Addr) (c0 : Nat) (l0 : List Int) (a1_0 : Int) (a1_1 : Int) (a1_2 : Int) (a1_3 : Int) (a1_4 : Int) (a1_5 : Int) (a1_6 : Int) (a1_7 : Int) (a1_8 : Bool) (A1_9 : Option Addr) (c1_9 : Nat) (l1_9 : List Int) (r1 : List Int) (r2 : Int) (w : World) (hr0 : Kd.C (Kd.int .i64) w A0 l0.length l0) (hc0 : l0.length ≤ c0) (hr1_9 : Kd.C (Kd.int .i64) w A1_9 l1_9.length l1_9) (hc1_9 : l1_9.length ≤ c1_9) (h : move_taken.f k l0 a1_0 a1_1 a1_2 a1_3 a1_4 a1_5 a1_6 a1_7 a1_8 l1_9 = some (r1, r2)) :
  Calls Try.prog 32 #[.slice A0 l0.length c0, .agg #[.int .i64 a1_0, .int .i64 a1_1, .int .i64 a1_2, .int .i64 a1_3, .int .i64 a1_4, .int .i64 a1_5, .int .i64 a1_6, .int .i64 a1_7, .bool a1_8, .slice A1_9 l1_9.length c1_9]] w fun e w' => ∃ v0_ : Value, e = .returned (.tuple #[v0_, .int .i64 r2]) ∧ Kd.R (Kd.int .i64) 3 w' w.heap.size (fun _ => True) v0_ r1 ∧ Below w.heap.size w w' := by
 have hu24 := Try.underlying24
 have HR0 := aM hr0
 have HC0 := aM hc0
 clear hr0 hc0
 have zm := aM hr1_9
 have HC1_9 := aM hc1_9
 clear hr1_9 hc1_9
 have HB := aM (Below.refl w.heap.size w)
 have H : (if a1_0 < 0 then (move_taken.j0 k l0 true a1_0 a1_1 a1_2 a1_3 a1_4 a1_5 a1_6 a1_7 a1_8 l1_9) else (move_taken.j0 k l0 (decide (a1_0 ≥ (l0.length : Int))) a1_0 a1_1 a1_2 a1_3 a1_4 a1_5 a1_6 a1_7 a1_8 l1_9)) = some (r1, r2) := h
 clear h
 have HC3 := aM H
 clear H
 go_enter Try.func32, Try.ntmps32
 go_upto_region 1 with (first | ((with_reducible refine gate_dst (N := 3) rfl ?_); (try (refine gate_guard (by rfl) ?_; dsimp only)); refine box_event ?hg (N := 3) ?hd (cs := #[.int .i64 a1_0, .int .i64 a1_1, .int .i64 a1_2, .int .i64 a1_3, .int .i64 a1_4, .int .i64 a1_5, .int .i64 a1_6, .int .i64 a1_7, .bool a1_8, .slice A1_9 l1_9.length c1_9]) (t := 24) ?hr ?_; (case hd => rfl); (case hg => rfl); (case hr => first | (go_simp; done) | (go_simp; rfl)); intro zo hg w4 hbox hb; have za := aM (hbox); have GW296 := gE (w := w) hg (qB HB); have zd := GW296; replace HB := bS (qB HB) hb; clear hb hbox hg))
 (try simp only [Act.put, sP])
 go_cut [17] (fun v17 wc => ∃ (kq : Nat) (x17_2 : Bool), v17 = .bool x17_2 ∧ Aside0 (move_taken.j0 kq l0 x17_2 a1_0 a1_1 a1_2 a1_3 a1_4 a1_5 a1_6 a1_7 a1_8 l1_9 = some (r1, r2)) ∧ Aside0 (kq ≤ k) ∧ Aside0 (wc.heap[zo]? = some (.cells #[.int .i64 a1_0, .int .i64 a1_1, .int .i64 a1_2, .int .i64 a1_3, .int .i64 a1_4, .int .i64 a1_5, .int .i64 a1_6, .int .i64 a1_7, .bool a1_8, (.slice A1_9 l1_9.length c1_9)] 24 (0, 0))) ∧ Aside0 (Below w.heap.size w wc))
 case first =>
  have H := HC3.out
  clear HC3
  by_cases c5 : a1_0 < 0
  ·rw [if_pos c5] at H
   have zn : decide (a1_0 < 0) = true := decide_eq_true c5
   clear c5
   (first | rw [zn] | (simp only [i64_w, i32_w]; rw [zn]) | skip)
   have H' := aM H
   clear H
   obtain ⟨hcz6_0, hcz6_1, hcz6_2, hcz6_3, hcz6_4, hcz6_5, hcz6_6, hcz6_7, hcz6_8, hcz6_9, hfz6_0, hfz6_1, hfz6_2, hfz6_3, hfz6_4, hfz6_5, hfz6_6, hfz6_7, hfz6_8, hfz6_9⟩ := blk10 za.out
   go_wp2
   go_meet
   case rel => exact ⟨_, (true), (pF), H', ⟨by first | omega | exact Nat.le_refl _⟩, ⟨pK za.out⟩, ⟨qB1 HB zd⟩⟩
  rw [if_neg c5] at H
  have zn : decide (a1_0 < 0) = false := decide_eq_false c5
  clear c5
  (first | rw [zn] | (simp only [i64_w, i32_w]; rw [zn]) | skip)
  have H' := aM H
  clear H
  obtain ⟨hcz7_0, hcz7_1, hcz7_2, hcz7_3, hcz7_4, hcz7_5, hcz7_6, hcz7_7, hcz7_8, hcz7_9, hfz7_0, hfz7_1, hfz7_2, hfz7_3, hfz7_4, hfz7_5, hfz7_6, hfz7_7, hfz7_8, hfz7_9⟩ := blk10 za.out
  go_wp2
  go_meet
  case rel => exact ⟨_, (decide (a1_0 ≥ (l0.length : Int))), (pF), H', ⟨by first | omega | exact Nat.le_refl _⟩, ⟨pK za.out⟩, ⟨qB1 HB zd⟩⟩
 case rest =>
  clear HC3
  obtain ⟨kq, x17_2, rfl, HA, HJ2, za, HB⟩ := hcut
  cases kq with
  | zero => exact absurd HA.out (by simp [move_taken.j0])
  | succ kj2 =>
   have H := HA.out
   clear HA
   simp only [move_taken.j0] at H
   by_cases c8 : x17_2 = true
   ·subst c8
    rw [if_pos rfl] at H
    simp only [Option.some.injEq, Prod.mk.injEq] at H
    obtain ⟨rfl, rfl⟩ := H
    go_wp2
    go_ret2
    exact ⟨_, pE, pN, qB1 HB zd⟩
   replace c8 := Bool.eq_false_iff.mpr c8
   subst c8
   rw [if_neg (show ¬ (false = true) by decide)] at H
   have H' := aM H
   clear H
   obtain ⟨hcz9_0, hcz9_1, hcz9_2, hcz9_3, hcz9_4, hcz9_5, hcz9_6, hcz9_7, hcz9_8, hcz9_9, hfz9_0, hfz9_1, hfz9_2, hfz9_3, hfz9_4, hfz9_5, hfz9_6, hfz9_7, hfz9_8, hfz9_9⟩ := blk10 za.out
   go_wp2
   go_loopg [21] kj2 (fun kq v21 w' => ∃ (x21_2 : Int), v21 = .int .i64 x21_2 ∧ Aside0 (move_taken.l0 kq l0 l1_9 (l1_9.length : Int) x21_2 a1_0 a1_1 a1_2 a1_3 a1_4 a1_5 a1_6 a1_7 a1_8 l1_9 = some (r1, r2)) ∧ Aside0 (kq ≤ kj2) ∧ Aside0 (w'.heap[zo]? = some (.cells #[.int .i64 a1_0, .int .i64 a1_1, .int .i64 a1_2, .int .i64 a1_3, .int .i64 a1_4, .int .i64 a1_5, .int .i64 a1_6, .int .i64 a1_7, .bool a1_8, (.slice A1_9 l1_9.length c1_9)] 24 (0, 0))) ∧ Aside0 (Below w.heap.size w w'))
   case atStart => exact ⟨(0), (pF), H', ⟨Nat.le_refl _⟩, ⟨pK za.out⟩, ⟨qB1 HB zd⟩⟩
   case round =>
    clear H'
    try clear c8
    try clear hcz9_0 hcz9_1 hcz9_2 hcz9_3 hcz9_4 hcz9_5 hcz9_6 hcz9_7 hcz9_8 hcz9_9 hfz9_0 hfz9_1 hfz9_2 hfz9_3 hfz9_4 hfz9_5 hfz9_6 hfz9_7 hfz9_8 hfz9_9
    obtain ⟨x21_2, rfl, HA, HK2, za, HB⟩ := hrel
    cases gk with
    | zero => exact absurd HA.out (by simp [move_taken.l0])
    | succ k2 =>
     have H := HA.out
     clear HA
     simp only [move_taken.l0] at H
     by_cases c10 : x21_2 < (l1_9.length : Int)
     rotate_left
     ·rw [if_neg c10] at H
      have c10b0 : decide (x21_2 < (l1_9.length : Int)) = false := decide_eq_false c10
      clear c10
      replace H := Option.bind_eq_some_iff.mp H
      obtain ⟨⟨t299, t300⟩, zp, H⟩ := H
      try dsimp only at H
      have A19 := aM zp
      clear zp
      simp only [Option.some.injEq, Prod.mk.injEq] at H
      obtain ⟨rfl, rfl⟩ := H
      obtain ⟨hcz20_0, hcz20_1, hcz20_2, hcz20_3, hcz20_4, hcz20_5, hcz20_6, hcz20_7, hcz20_8, hcz20_9, hfz20_0, hfz20_1, hfz20_2, hfz20_3, hfz20_4, hfz20_5, hfz20_6, hfz20_7, hfz20_8, hfz20_9⟩ := blk10 za.out
      go_wp2_with (first | ((with_reducible refine gate_callee (f := 61) rfl ?_); refine goesL_ (some 43) rfl rfl Try.func61 (by kernel_rfl) rfl #[.slice A0 l0.length c0, .int .i64 a1_0, .int .i64 (l1_9.length : Int)] rfl pA ?_; (with_reducible refine (shape_With.calls k2 _ _ l0 a1_0 (l1_9.length : Int) t299 t300 _ ?s1 ?s2 A19.out).mono ?_); (case s1 => exact sC HR0 HB); (case s2 => exact HC0.out); rintro e w21 ⟨v301, rfl, ho0, hb⟩; refine ⟨_, rfl, ?_⟩; have HO302 := aM (Kd.R_lower ho0 (below_size (qB1 HB zd))); replace za := bK za hb; replace HB := bS (qB1 HB zd) hb; (try clear hb); (try clear hk); (try clear hi); (try clear ho0)))
      go_ret2
      exact ⟨_, pE, pR HO302.out, qB1 HB zd⟩
     rw [if_pos c10] at H
     have c10b0 : decide (x21_2 < (l1_9.length : Int)) = true := decide_eq_true c10
     clear c10
     by_cases c11 : 0 ≤ x21_2
     rotate_left
     ·rw [if_neg c11] at H
      exact absurd H (by simp)
     rw [if_pos c11] at H
     have c11b0 : decide (0 ≤ x21_2) = true := decide_eq_true c11
     clear c11
     by_cases c12 : x21_2 < (l1_9.length : Int)
     rotate_left
     ·rw [if_neg c12] at H
      exact absurd H (by simp)
     rw [if_pos c12] at H
     have c12b0 : decide (x21_2 < (l1_9.length : Int)) = true := decide_eq_true c12
     clear c12
     by_cases c13 : (rd l1_9 x21_2) < 0
     ·rw [if_pos c13] at H
      have c13b0 : decide ((rd l1_9 x21_2) < 0) = true := decide_eq_true c13
      clear c13
      simp only [Option.some.injEq, Prod.mk.injEq] at H
      obtain ⟨rfl, rfl⟩ := H
      have p297 : 0 ≤ (x21_2 : Int) := of_decide_eq_true pD
      have q297 : x21_2 < (l1_9.length : Int) := of_decide_eq_true pD
      obtain ⟨ad297, e297, hx297_0⟩ := Kd.at_int zm.out x21_2 p297 q297
      cases e297
      replace hx297_0 := (HB.out.cell (World.block_lt_of_cell? w _ hx297_0)).trans hx297_0
      replace p297 := eq_true p297
      replace q297 := eq_true q297
      go_wp2
      go_ret2
      exact ⟨_, pE, pN, qB1 HB zd⟩
     rw [if_neg c13] at H
     have c13b0 : decide ((rd l1_9 x21_2) < 0) = false := decide_eq_false c13
     clear c13
     by_cases c14 : 0 ≤ a1_0
     rotate_left
     ·rw [if_neg c14] at H
      exact absurd H (by simp)
     rw [if_pos c14] at H
     have c14b0 : decide (0 ≤ a1_0) = true := decide_eq_true c14
     clear c14
     by_cases c15 : a1_0 < (l0.length : Int)
     rotate_left
     ·rw [if_neg c15] at H
      exact absurd H (by simp)
     rw [if_pos c15] at H
     have c15b0 : decide (a1_0 < (l0.length : Int)) = true := decide_eq_true c15
     clear c15
     by_cases c16 : (rd l1_9 x21_2) ≥ (rd l0 a1_0)
     ·rw [if_pos c16] at H
      have c16b0 : decide ((rd l0 a1_0) ≤ (rd l1_9 x21_2)) = true := decide_eq_true c16
      clear c16
      simp only [Option.some.injEq, Prod.mk.injEq] at H
      obtain ⟨rfl, rfl⟩ := H
      have p297 : 0 ≤ (x21_2 : Int) := of_decide_eq_true pD
      have q297 : x21_2 < (l1_9.length : Int) := of_decide_eq_true pD
      obtain ⟨ad297, e297, hx297_0⟩ := Kd.at_int zm.out x21_2 p297 q297
      cases e297
      replace hx297_0 := (HB.out.cell (World.block_lt_of_cell? w _ hx297_0)).trans hx297_0
      replace p297 := eq_true p297
      replace q297 := eq_true q297
      obtain ⟨hcz17_0, hcz17_1, hcz17_2, hcz17_3, hcz17_4, hcz17_5, hcz17_6, hcz17_7, hcz17_8, hcz17_9, hfz17_0, hfz17_1, hfz17_2, hfz17_3, hfz17_4, hfz17_5, hfz17_6, hfz17_7, hfz17_8, hfz17_9⟩ := blk10 za.out
      have p298 : 0 ≤ (a1_0 : Int) := of_decide_eq_true pD
      have q298 : a1_0 < (l0.length : Int) := of_decide_eq_true pD
      obtain ⟨ad298, e298, hx298_0⟩ := Kd.at_int HR0.out a1_0 p298 q298
      cases e298
      replace hx298_0 := (HB.out.cell (World.block_lt_of_cell? w _ hx298_0)).trans hx298_0
      replace p298 := eq_true p298
      replace q298 := eq_true q298
      go_wp2
      go_ret2
      exact ⟨_, pE, pN, qB1 HB zd⟩
     rw [if_neg c16] at H
     have c16b0 : decide ((rd l0 a1_0) ≤ (rd l1_9 x21_2)) = false := decide_eq_false c16
     clear c16
     have H' := aM H
     clear H
     have p297 : 0 ≤ (x21_2 : Int) := of_decide_eq_true pD
     have q297 : x21_2 < (l1_9.length : Int) := of_decide_eq_true pD
     obtain ⟨ad297, e297, hx297_0⟩ := Kd.at_int zm.out x21_2 p297 q297
     cases e297
     replace hx297_0 := (HB.out.cell (World.block_lt_of_cell? w _ hx297_0)).trans hx297_0
     replace p297 := eq_true p297
     replace q297 := eq_true q297
     obtain ⟨hcz18_0, hcz18_1, hcz18_2, hcz18_3, hcz18_4, hcz18_5, hcz18_6, hcz18_7, hcz18_8, hcz18_9, hfz18_0, hfz18_1, hfz18_2, hfz18_3, hfz18_4, hfz18_5, hfz18_6, hfz18_7, hfz18_8, hfz18_9⟩ := blk10 za.out
     have p298 : 0 ≤ (a1_0 : Int) := of_decide_eq_true pD
     have q298 : a1_0 < (l0.length : Int) := of_decide_eq_true pD
     obtain ⟨ad298, e298, hx298_0⟩ := Kd.at_int HR0.out a1_0 p298 q298
     cases e298
     replace hx298_0 := (HB.out.cell (World.block_lt_of_cell? w _ hx298_0)).trans hx298_0
     replace p298 := eq_true p298
     replace q298 := eq_true q298
     go_wp2
     go_roundg k2
     case measure => have := HJ2.out; have := HK2.out; omega
     case rel => exact ⟨(wrap64 (x21_2 + 1)), (pF), H', ⟨by have := HJ2.out; have := HK2.out; omega⟩, ⟨pK za.out⟩, ⟨qB1 HB zd⟩⟩
def view_reach.f (a0 : Int) (a1 : Int) (a2 : Int) : Option (Int × Bool) := if a0 = 1 then (some (0, true)) else (if a1 ≥ a2 then (some (0, false)) else (if a1 ≤ (wrap64 (-a2)) then (some (0, false)) else (some (wrap64 ((wrap64 (a0 - 1)) * a1), true))))
set_option maxHeartbeats 8000000 in
set_option maxRecDepth 100000 in
theorem view_reach.calls (a0 : Int) (a1 : Int) (a2 : Int) (r1 : Int) (r2 : Bool) (w : World) (h : view_reach.f a0 a1 a2 = some (r1, r2)) :
  Calls Try.prog 91 #[.int .i64 a0, .int .i64 a1, .int .i64 a2] w fun e w' => e = .returned (.tuple #[.int .i64 r1, .bool r2]) ∧ Drawn0 w w' := by
 have H : (if a0 = 1 then (some (0, true)) else (if a1 ≥ a2 then (some (0, false)) else (if a1 ≤ (wrap64 (-a2)) then (some (0, false)) else (some (wrap64 ((wrap64 (a0 - 1)) * a1), true))))) = some (r1, r2) := h
 clear h
 by_cases c4 : a0 = 1
 ·rw [if_pos c4] at H
  have c4b0 : (a0 == 1) = true := beq_iff_eq.mpr c4
  have c4b1 : (a0 != 1) = false := bne_eq_false_iff_eq.mpr c4
  clear c4
  simp only [Option.some.injEq, Prod.mk.injEq] at H
  obtain ⟨rfl, rfl⟩ := H
  go_enter Try.func91, Try.ntmps91
  go_wp2
  go_ret2
  exact ⟨pF, by repeat (first | exact Drawn0.refl _ | apply Drawn0.step)⟩
 rw [if_neg c4] at H
 have c4b0 : (a0 == 1) = false := beq_eq_false_iff_ne.mpr c4
 have c4b1 : (a0 != 1) = true := bne_iff_ne.mpr c4
 by_cases c5 : a1 ≥ a2
 ·rw [if_pos c5] at H
  have c5b0 : decide (a2 ≤ a1) = true := decide_eq_true c5
  clear c5
  simp only [Option.some.injEq, Prod.mk.injEq] at H
  obtain ⟨rfl, rfl⟩ := H
  go_enter Try.func91, Try.ntmps91
  go_wp2
  go_ret2
  exact ⟨pF, by repeat (first | exact Drawn0.refl _ | apply Drawn0.step)⟩
 rw [if_neg c5] at H
 have c5b0 : decide (a2 ≤ a1) = false := decide_eq_false c5
 clear c5
 by_cases c6 : a1 ≤ (wrap64 (-a2))
 ·rw [if_pos c6] at H
  have c6b0 : decide (a1 ≤ (wrap64 (-a2))) = true := decide_eq_true c6
  clear c6
  simp only [Option.some.injEq, Prod.mk.injEq] at H
  obtain ⟨rfl, rfl⟩ := H
  go_enter Try.func91, Try.ntmps91
  go_wp2
  go_ret2
  exact ⟨pF, by repeat (first | exact Drawn0.refl _ | apply Drawn0.step)⟩
 rw [if_neg c6] at H
 have c6b0 : decide (a1 ≤ (wrap64 (-a2))) = false := decide_eq_false c6
 clear c6
 simp only [Option.some.injEq, Prod.mk.injEq] at H
 obtain ⟨rfl, rfl⟩ := H
 go_enter Try.func91, Try.ntmps91
 go_wp2
 go_ret2
 exact ⟨pF, by repeat (first | exact Drawn0.refl _ | apply Drawn0.step)⟩
mutual
def view_Right.j0 : Nat → Int → Bool → Int → List Int → List Int → Option (Bool)
 | 0, _, _, _, _, _ => none
 | k + 1, x1, x38, zf, zg, zh => if x38 = true then (some false) else (view_Right.l0 k x1 zf zf zg (zg.length : Int) 0 zf zg zh)
def view_Right.l0 : Nat → Int → Int → Int → List Int → Int → Int → Int → List Int → List Int → Option (Bool)
 | 0, _, _, _, _, _, _, _, _, _ => none
 | k + 1, x1, x5, x6, x44, x45, x46, zf, zg, zh => if x46 < x45 then (if 0 ≤ x46 then (if x46 < (x44.length : Int) then (if x46 < (zh.length : Int) then ((view_reach.f (rd x44 x46) (rd zh x46) x1).bind fun bt107 => (if bt107.2 = true then (view_Right.l0 k x1 (wrap64 (x5 + (mn bt107.1 0))) (wrap64 (x6 + (mx bt107.1 0))) x44 x45 (wrap64 (x46 + 1)) zf zg zh) else (some false))) else (none)) else (none)) else (none)) else (if x5 ≥ 0 then (some (decide (x6 < x1))) else (some false))
end
def view_Right.f (k : Nat) (a0_0 : Int) (l0_1 : List Int) (l0_2 : List Int) (a1 : Int) : Option (Bool) := (shape_Check.f l0_1).bind fun zc => (if zc = 0 then (if (l0_2.length : Int) = (l0_1.length : Int) then (if a1 > 64 then (view_Right.j0 k a1 true a0_0 l0_1 l0_2) else (if a0_0 < 0 then (view_Right.j0 k a1 true a0_0 l0_1 l0_2) else (view_Right.j0 k a1 (decide (a0_0 ≥ a1)) a0_0 l0_1 l0_2))) else (view_Right.j0 k a1 true a0_0 l0_1 l0_2)) else (view_Right.j0 k a1 true a0_0 l0_1 l0_2))
set_option maxHeartbeats 8000000 in
set_option maxRecDepth 100000 in
theorem view_Right.calls (k : Nat) (a0_0 : Int) (A0_1 : Option Addr) (c0_1 : Nat) (l0_1 : List Int) (A0_2 : Option Addr) (c0_2 : Nat) (l0_2 : List Int) (a1 : Int) (r : Bool) (w : World) (hr0_1 : Kd.C (Kd.int .i64) w A0_1 l0_1.length l0_1) (hc0_1 : l0_1.length ≤ c0_1) (hr0_2 : Kd.C (Kd.int .i64) w A0_2 l0_2.length l0_2) (hc0_2 : l0_2.length ≤ c0_2) (h : view_Right.f k a0_0 l0_1 l0_2 a1 = some r) :
  Calls Try.prog 74 #[.agg #[.int .i64 a0_0, .slice A0_1 l0_1.length c0_1, .slice A0_2 l0_2.length c0_2], .int .i64 a1] w fun e w' => e = .returned (.bool r) ∧ Below w.heap.size w w' := by
 have hu44 := Try.underlying44
 have zb := aM hr0_1
 have zd := aM hc0_1
 clear hr0_1 hc0_1
 have zm := aM hr0_2
 have HC0_2 := aM hc0_2
 clear hr0_2 hc0_2
 have HB := aM (Below.refl w.heap.size w)
 have H : ((shape_Check.f l0_1).bind fun zc => (if zc = 0 then (if (l0_2.length : Int) = (l0_1.length : Int) then (if a1 > 64 then (view_Right.j0 k a1 true a0_0 l0_1 l0_2) else (if a0_0 < 0 then (view_Right.j0 k a1 true a0_0 l0_1 l0_2) else (view_Right.j0 k a1 (decide (a0_0 ≥ a1)) a0_0 l0_1 l0_2))) else (view_Right.j0 k a1 true a0_0 l0_1 l0_2)) else (view_Right.j0 k a1 true a0_0 l0_1 l0_2))) = some r := h
 clear h
 have HC3 := aM H
 clear H
 go_enter Try.func74, Try.ntmps74
 go_upto_region 1 with (first | ((with_reducible refine gate_dst (N := 2) rfl ?_); (try (refine gate_guard (by rfl) ?_; dsimp only)); refine box_event ?hg (N := 2) ?hd (cs := #[.int .i64 a0_0, .slice A0_1 l0_1.length c0_1, .slice A0_2 l0_2.length c0_2]) (t := 44) ?hr ?_; (case hd => rfl); (case hg => rfl); (case hr => first | (go_simp; done) | (go_simp; rfl)); intro zk hg w4 hbox hb; have za := aM (hbox); have zj := gE (w := w) hg (qB HB); have ze := zj; replace HB := bS (qB HB) hb; clear hb hbox hg))
 repeat (go_quiet (first | ((with_reducible refine gate_dst (N := 2) rfl ?_); (try (refine gate_guard (by rfl) ?_; dsimp only)); refine box_event ?hg (N := 2) ?hd (cs := #[.int .i64 a0_0, .slice A0_1 l0_1.length c0_1, .slice A0_2 l0_2.length c0_2]) (t := 44) ?hr ?_; (case hd => rfl); (case hg => rfl); (case hr => first | (go_simp; done) | (go_simp; rfl)); intro zk hg w4 hbox hb; have za := aM (hbox); have zj := gE (w := w) hg (qB HB); have ze := zj; replace HB := bS (qB HB) hb; clear hb hbox hg)); go_upto_region 1 with (first | ((with_reducible refine gate_dst (N := 2) rfl ?_); (try (refine gate_guard (by rfl) ?_; dsimp only)); refine box_event ?hg (N := 2) ?hd (cs := #[.int .i64 a0_0, .slice A0_1 l0_1.length c0_1, .slice A0_2 l0_2.length c0_2]) (t := 44) ?hr ?_; (case hd => rfl); (case hg => rfl); (case hr => first | (go_simp; done) | (go_simp; rfl)); intro zk hg w4 hbox hb; have za := aM (hbox); have zj := gE (w := w) hg (qB HB); have ze := zj; replace HB := bS (qB HB) hb; clear hb hbox hg)))
 (try simp only [Act.put, sP])
 go_cut [38] (fun v38 wc => ∃ (kq : Nat) (x38_2 : Bool), v38 = .bool x38_2 ∧ Aside0 (view_Right.j0 kq a1 x38_2 a0_0 l0_1 l0_2 = some r) ∧ Aside0 (kq ≤ k) ∧ Aside0 (wc.heap[zk]? = some (.cells #[.int .i64 a0_0, (.slice A0_1 l0_1.length c0_1), (.slice A0_2 l0_2.length c0_2)] 44 (0, 0))) ∧ Aside0 (Below w.heap.size w wc))
 case first =>
  have H := HC3.out
  clear HC3
  replace H := Option.bind_eq_some_iff.mp H
  obtain ⟨zc, A50, H⟩ := H
  try dsimp only at H
  have A5 := aM A50
  clear A50
  by_cases c6 : zc = 0
  rotate_left
  ·rw [if_neg c6] at H
   have zl : (zc == 0) = false := beq_eq_false_iff_ne.mpr c6
   have c6b1 : (zc != 0) = true := bne_iff_ne.mpr c6
   (first | rw [zl] | (simp only [i64_w, i32_w]; rw [zl]) | skip)
   have H' := aM H
   clear H
   obtain ⟨hcz14_0, hcz14_1, hcz14_2, hfz14_0, hfz14_1, hfz14_2⟩ := blk3 za.out
   go_wp2_with (first | (go_at_call 31; (with_reducible refine (shape_Check.calls _ _ l0_1 zc _ ?s1 ?s2 A5.out).mono ?_); (case s1 => exact sC zb HB); (case s2 => exact zd.out); rintro e w' ⟨rfl, ⟨nd, rfl⟩⟩; (try first | exact ⟨rfl, _, World.drewN_drewN _ _ _⟩ | exact ⟨rfl, _, Eq.trans (World.drewN_drewN _ _ _) (congrArg (World.drewN _) (Nat.add_assoc _ _ _))⟩)))
   repeat (go_quiet (first | (go_at_call 31; (with_reducible refine (shape_Check.calls _ _ l0_1 zc _ ?s1 ?s2 A5.out).mono ?_); (case s1 => exact sC zb HB); (case s2 => exact zd.out); rintro e w' ⟨rfl, ⟨nd, rfl⟩⟩; (try first | exact ⟨rfl, _, World.drewN_drewN _ _ _⟩ | exact ⟨rfl, _, Eq.trans (World.drewN_drewN _ _ _) (congrArg (World.drewN _) (Nat.add_assoc _ _ _))⟩))); try go_wp2_with (first | (go_at_call 31; (with_reducible refine (shape_Check.calls _ _ l0_1 zc _ ?s1 ?s2 A5.out).mono ?_); (case s1 => exact sC zb HB); (case s2 => exact zd.out); rintro e w' ⟨rfl, ⟨nd, rfl⟩⟩; (try first | exact ⟨rfl, _, World.drewN_drewN _ _ _⟩ | exact ⟨rfl, _, Eq.trans (World.drewN_drewN _ _ _) (congrArg (World.drewN _) (Nat.add_assoc _ _ _))⟩))))
   go_meet
   case rel => exact ⟨_, (true), (pF), H', ⟨by first | omega | exact Nat.le_refl _⟩, ⟨pK za.out⟩, ⟨qB1 HB ze⟩⟩
  rw [if_pos c6] at H
  have zl : (zc == 0) = true := beq_iff_eq.mpr c6
  have c6b1 : (zc != 0) = false := bne_eq_false_iff_eq.mpr c6
  clear c6
  (first | rw [zl] | (simp only [i64_w, i32_w]; rw [zl]) | skip)
  by_cases c7 : (l0_2.length : Int) = (l0_1.length : Int)
  rotate_left
  ·rw [if_neg c7] at H
   have c7b0 : ((l0_2.length : Int) == (l0_1.length : Int)) = false := beq_eq_false_iff_ne.mpr c7
   have c7b1 : ((l0_2.length : Int) != (l0_1.length : Int)) = true := bne_iff_ne.mpr c7
   have c7b2 : (l0_2.length == l0_1.length) = false := by first | simpa using c7 | (simp at c7 ⊢; omega)
   have H' := aM H
   clear H
   obtain ⟨hcz13_0, hcz13_1, hcz13_2, hfz13_0, hfz13_1, hfz13_2⟩ := blk3 za.out
   go_wp2_with (first | (go_at_call 31; (with_reducible refine (shape_Check.calls _ _ l0_1 zc _ ?s1 ?s2 A5.out).mono ?_); (case s1 => exact sC zb HB); (case s2 => exact zd.out); rintro e w' ⟨rfl, ⟨nd, rfl⟩⟩; (try first | exact ⟨rfl, _, World.drewN_drewN _ _ _⟩ | exact ⟨rfl, _, Eq.trans (World.drewN_drewN _ _ _) (congrArg (World.drewN _) (Nat.add_assoc _ _ _))⟩)))
   repeat (go_quiet (first | (go_at_call 31; (with_reducible refine (shape_Check.calls _ _ l0_1 zc _ ?s1 ?s2 A5.out).mono ?_); (case s1 => exact sC zb HB); (case s2 => exact zd.out); rintro e w' ⟨rfl, ⟨nd, rfl⟩⟩; (try first | exact ⟨rfl, _, World.drewN_drewN _ _ _⟩ | exact ⟨rfl, _, Eq.trans (World.drewN_drewN _ _ _) (congrArg (World.drewN _) (Nat.add_assoc _ _ _))⟩))); try go_wp2_with (first | (go_at_call 31; (with_reducible refine (shape_Check.calls _ _ l0_1 zc _ ?s1 ?s2 A5.out).mono ?_); (case s1 => exact sC zb HB); (case s2 => exact zd.out); rintro e w' ⟨rfl, ⟨nd, rfl⟩⟩; (try first | exact ⟨rfl, _, World.drewN_drewN _ _ _⟩ | exact ⟨rfl, _, Eq.trans (World.drewN_drewN _ _ _) (congrArg (World.drewN _) (Nat.add_assoc _ _ _))⟩))))
   go_meet
   case rel => exact ⟨_, (true), (pF), H', ⟨by first | omega | exact Nat.le_refl _⟩, ⟨pK za.out⟩, ⟨qB1 HB ze⟩⟩
  rw [if_pos c7] at H
  have c7b0 : ((l0_2.length : Int) == (l0_1.length : Int)) = true := beq_iff_eq.mpr c7
  have c7b1 : ((l0_2.length : Int) != (l0_1.length : Int)) = false := bne_eq_false_iff_eq.mpr c7
  have c7b2 : (l0_2.length == l0_1.length) = true := by first | simpa using c7 | (simp at c7 ⊢; omega)
  clear c7
  by_cases c8 : a1 > 64
  ·rw [if_pos c8] at H
   have c8b0 : decide (64 < a1) = true := decide_eq_true c8
   clear c8
   have H' := aM H
   clear H
   obtain ⟨hcz9_0, hcz9_1, hcz9_2, hfz9_0, hfz9_1, hfz9_2⟩ := blk3 za.out
   go_wp2_with (first | (go_at_call 31; (with_reducible refine (shape_Check.calls _ _ l0_1 zc _ ?s1 ?s2 A5.out).mono ?_); (case s1 => exact sC zb HB); (case s2 => exact zd.out); rintro e w' ⟨rfl, ⟨nd, rfl⟩⟩; (try first | exact ⟨rfl, _, World.drewN_drewN _ _ _⟩ | exact ⟨rfl, _, Eq.trans (World.drewN_drewN _ _ _) (congrArg (World.drewN _) (Nat.add_assoc _ _ _))⟩)))
   repeat (go_quiet (first | (go_at_call 31; (with_reducible refine (shape_Check.calls _ _ l0_1 zc _ ?s1 ?s2 A5.out).mono ?_); (case s1 => exact sC zb HB); (case s2 => exact zd.out); rintro e w' ⟨rfl, ⟨nd, rfl⟩⟩; (try first | exact ⟨rfl, _, World.drewN_drewN _ _ _⟩ | exact ⟨rfl, _, Eq.trans (World.drewN_drewN _ _ _) (congrArg (World.drewN _) (Nat.add_assoc _ _ _))⟩))); try go_wp2_with (first | (go_at_call 31; (with_reducible refine (shape_Check.calls _ _ l0_1 zc _ ?s1 ?s2 A5.out).mono ?_); (case s1 => exact sC zb HB); (case s2 => exact zd.out); rintro e w' ⟨rfl, ⟨nd, rfl⟩⟩; (try first | exact ⟨rfl, _, World.drewN_drewN _ _ _⟩ | exact ⟨rfl, _, Eq.trans (World.drewN_drewN _ _ _) (congrArg (World.drewN _) (Nat.add_assoc _ _ _))⟩))))
   go_meet
   case rel => exact ⟨_, (true), (pF), H', ⟨by first | omega | exact Nat.le_refl _⟩, ⟨pK za.out⟩, ⟨qB1 HB ze⟩⟩
  rw [if_neg c8] at H
  have c8b0 : decide (64 < a1) = false := decide_eq_false c8
  clear c8
  by_cases c10 : a0_0 < 0
  ·rw [if_pos c10] at H
   have c10b0 : decide (a0_0 < 0) = true := decide_eq_true c10
   clear c10
   have H' := aM H
   clear H
   obtain ⟨hcz11_0, hcz11_1, hcz11_2, hfz11_0, hfz11_1, hfz11_2⟩ := blk3 za.out
   go_wp2_with (first | (go_at_call 31; (with_reducible refine (shape_Check.calls _ _ l0_1 zc _ ?s1 ?s2 A5.out).mono ?_); (case s1 => exact sC zb HB); (case s2 => exact zd.out); rintro e w' ⟨rfl, ⟨nd, rfl⟩⟩; (try first | exact ⟨rfl, _, World.drewN_drewN _ _ _⟩ | exact ⟨rfl, _, Eq.trans (World.drewN_drewN _ _ _) (congrArg (World.drewN _) (Nat.add_assoc _ _ _))⟩)))
   repeat (go_quiet (first | (go_at_call 31; (with_reducible refine (shape_Check.calls _ _ l0_1 zc _ ?s1 ?s2 A5.out).mono ?_); (case s1 => exact sC zb HB); (case s2 => exact zd.out); rintro e w' ⟨rfl, ⟨nd, rfl⟩⟩; (try first | exact ⟨rfl, _, World.drewN_drewN _ _ _⟩ | exact ⟨rfl, _, Eq.trans (World.drewN_drewN _ _ _) (congrArg (World.drewN _) (Nat.add_assoc _ _ _))⟩))); try go_wp2_with (first | (go_at_call 31; (with_reducible refine (shape_Check.calls _ _ l0_1 zc _ ?s1 ?s2 A5.out).mono ?_); (case s1 => exact sC zb HB); (case s2 => exact zd.out); rintro e w' ⟨rfl, ⟨nd, rfl⟩⟩; (try first | exact ⟨rfl, _, World.drewN_drewN _ _ _⟩ | exact ⟨rfl, _, Eq.trans (World.drewN_drewN _ _ _) (congrArg (World.drewN _) (Nat.add_assoc _ _ _))⟩))))
   go_meet
   case rel => exact ⟨_, (true), (pF), H', ⟨by first | omega | exact Nat.le_refl _⟩, ⟨pK za.out⟩, ⟨qB1 HB ze⟩⟩
  rw [if_neg c10] at H
  have c10b0 : decide (a0_0 < 0) = false := decide_eq_false c10
  clear c10
  have H' := aM H
  clear H
  obtain ⟨hcz12_0, hcz12_1, hcz12_2, hfz12_0, hfz12_1, hfz12_2⟩ := blk3 za.out
  go_wp2_with (first | (go_at_call 31; (with_reducible refine (shape_Check.calls _ _ l0_1 zc _ ?s1 ?s2 A5.out).mono ?_); (case s1 => exact sC zb HB); (case s2 => exact zd.out); rintro e w' ⟨rfl, ⟨nd, rfl⟩⟩; (try first | exact ⟨rfl, _, World.drewN_drewN _ _ _⟩ | exact ⟨rfl, _, Eq.trans (World.drewN_drewN _ _ _) (congrArg (World.drewN _) (Nat.add_assoc _ _ _))⟩)))
  repeat (go_quiet (first | (go_at_call 31; (with_reducible refine (shape_Check.calls _ _ l0_1 zc _ ?s1 ?s2 A5.out).mono ?_); (case s1 => exact sC zb HB); (case s2 => exact zd.out); rintro e w' ⟨rfl, ⟨nd, rfl⟩⟩; (try first | exact ⟨rfl, _, World.drewN_drewN _ _ _⟩ | exact ⟨rfl, _, Eq.trans (World.drewN_drewN _ _ _) (congrArg (World.drewN _) (Nat.add_assoc _ _ _))⟩))); try go_wp2_with (first | (go_at_call 31; (with_reducible refine (shape_Check.calls _ _ l0_1 zc _ ?s1 ?s2 A5.out).mono ?_); (case s1 => exact sC zb HB); (case s2 => exact zd.out); rintro e w' ⟨rfl, ⟨nd, rfl⟩⟩; (try first | exact ⟨rfl, _, World.drewN_drewN _ _ _⟩ | exact ⟨rfl, _, Eq.trans (World.drewN_drewN _ _ _) (congrArg (World.drewN _) (Nat.add_assoc _ _ _))⟩))))
  go_meet
  case rel => exact ⟨_, (decide (a0_0 ≥ a1)), (pF), H', ⟨by first | omega | exact Nat.le_refl _⟩, ⟨pK za.out⟩, ⟨qB1 HB ze⟩⟩
 case rest =>
  clear HC3
  obtain ⟨kq, x38_2, rfl, HA, HJ2, za, HB⟩ := hcut
  cases kq with
  | zero => exact absurd HA.out (by simp [view_Right.j0])
  | succ kj2 =>
   have H := HA.out
   clear HA
   simp only [view_Right.j0] at H
   by_cases c15 : x38_2 = true
   ·subst c15
    rw [if_pos rfl] at H
    obtain rfl := Option.some.inj H
    go_wp2
    repeat (go_quiet (fail); try go_wp2)
    go_ret
    exact ⟨pE, qB1 HB ze⟩
   replace c15 := Bool.eq_false_iff.mpr c15
   subst c15
   rw [if_neg (show ¬ (false = true) by decide)] at H
   have H' := aM H
   clear H
   obtain ⟨hcz16_0, hcz16_1, hcz16_2, hfz16_0, hfz16_1, hfz16_2⟩ := blk3 za.out
   go_wp2
   repeat (go_quiet (fail); try go_wp2)
   go_loopg [5, 6, 46] kj2 (fun kq v5 v6 v46 w' => ∃ (x5_2 : Int) (x6_2 : Int) (x46_2 : Int), v5 = .int .i64 x5_2 ∧ v6 = .int .i64 x6_2 ∧ v46 = .int .i64 x46_2 ∧ Aside0 (view_Right.l0 kq a1 x5_2 x6_2 l0_1 (l0_1.length : Int) x46_2 a0_0 l0_1 l0_2 = some r) ∧ Aside0 (kq ≤ kj2) ∧ Aside0 (w'.heap[zk]? = some (.cells #[.int .i64 a0_0, (.slice A0_1 l0_1.length c0_1), (.slice A0_2 l0_2.length c0_2)] 44 (0, 0))) ∧ Aside0 (Below w.heap.size w w'))
   case atStart => exact ⟨(a0_0), (a0_0), (0), (pF), (pF), (pF), H', ⟨Nat.le_refl _⟩, ⟨pK za.out⟩, ⟨qB1 HB ze⟩⟩
   case round =>
    clear H'
    try clear c15
    try clear hcz16_0 hcz16_1 hcz16_2 hfz16_0 hfz16_1 hfz16_2
    obtain ⟨x5_2, x6_2, x46_2, rfl, rfl, rfl, HA, HK2, za, HB⟩ := hrel
    cases gk with
    | zero => exact absurd HA.out (by simp [view_Right.l0])
    | succ k2 =>
     have H := HA.out
     clear HA
     simp only [view_Right.l0] at H
     by_cases c17 : x46_2 < (l0_1.length : Int)
     rotate_left
     ·rw [if_neg c17] at H
      have c17b0 : decide (x46_2 < (l0_1.length : Int)) = false := decide_eq_false c17
      clear c17
      by_cases c27 : x5_2 ≥ 0
      ·rw [if_pos c27] at H
       have c27b0 : decide (0 ≤ x5_2) = true := decide_eq_true c27
       clear c27
       obtain rfl := Option.some.inj H
       go_wp2
       repeat (go_quiet (fail); try go_wp2)
       go_ret
       exact ⟨pE, qB1 HB ze⟩
      rw [if_neg c27] at H
      have c27b0 : decide (0 ≤ x5_2) = false := decide_eq_false c27
      clear c27
      obtain rfl := Option.some.inj H
      go_wp2
      repeat (go_quiet (fail); try go_wp2)
      go_ret
      exact ⟨pE, qB1 HB ze⟩
     rw [if_pos c17] at H
     have c17b0 : decide (x46_2 < (l0_1.length : Int)) = true := decide_eq_true c17
     clear c17
     by_cases c18 : 0 ≤ x46_2
     rotate_left
     ·rw [if_neg c18] at H
      exact absurd H (by simp)
     rw [if_pos c18] at H
     have c18b0 : decide (0 ≤ x46_2) = true := decide_eq_true c18
     clear c18
     by_cases c19 : x46_2 < (l0_1.length : Int)
     rotate_left
     ·rw [if_neg c19] at H
      exact absurd H (by simp)
     rw [if_pos c19] at H
     have c19b0 : decide (x46_2 < (l0_1.length : Int)) = true := decide_eq_true c19
     clear c19
     by_cases c20 : x46_2 < (l0_2.length : Int)
     rotate_left
     ·rw [if_neg c20] at H
      exact absurd H (by simp)
     rw [if_pos c20] at H
     have c20b0 : decide (x46_2 < (l0_2.length : Int)) = true := decide_eq_true c20
     clear c20
     replace H := Option.bind_eq_some_iff.mp H
     obtain ⟨⟨zi, t108⟩, zn, H⟩ := H
     try dsimp only at H
     have A21 := aM zn
     clear zn
     by_cases c22 : t108 = true
     rotate_left
     ·replace c22 := Bool.eq_false_iff.mpr c22
      subst c22
      rw [if_neg (show ¬ (false = true) by decide)] at H
      obtain rfl := Option.some.inj H
      have p105 : 0 ≤ (x46_2 : Int) := of_decide_eq_true pD
      have q105 : x46_2 < (l0_1.length : Int) := of_decide_eq_true pD
      obtain ⟨ad105, e105, hx105_0⟩ := Kd.at_int zb.out x46_2 p105 q105
      cases e105
      replace hx105_0 := (HB.out.cell (World.block_lt_of_cell? w _ hx105_0)).trans hx105_0
      replace p105 := eq_true p105
      replace q105 := eq_true q105
      obtain ⟨hcz26_0, hcz26_1, hcz26_2, hfz26_0, hfz26_1, hfz26_2⟩ := blk3 za.out
      have p106 : 0 ≤ (x46_2 : Int) := of_decide_eq_true pD
      have q106 : x46_2 < (l0_2.length : Int) := of_decide_eq_true pD
      obtain ⟨ad106, e106, hx106_0⟩ := Kd.at_int zm.out x46_2 p106 q106
      cases e106
      replace hx106_0 := (HB.out.cell (World.block_lt_of_cell? w _ hx106_0)).trans hx106_0
      replace p106 := eq_true p106
      replace q106 := eq_true q106
      go_wp2_with (first | (go_at_call 91; (with_reducible refine (view_reach.calls (rd l0_1 x46_2) (rd l0_2 x46_2) a1 zi false _ A21.out).mono ?_); rintro e w' ⟨rfl, ⟨nd, rfl⟩⟩; (try first | exact ⟨rfl, _, World.drewN_drewN _ _ _⟩ | exact ⟨rfl, _, Eq.trans (World.drewN_drewN _ _ _) (congrArg (World.drewN _) (Nat.add_assoc _ _ _))⟩)))
      repeat (go_quiet (first | (go_at_call 91; (with_reducible refine (view_reach.calls (rd l0_1 x46_2) (rd l0_2 x46_2) a1 zi false _ A21.out).mono ?_); rintro e w' ⟨rfl, ⟨nd, rfl⟩⟩; (try first | exact ⟨rfl, _, World.drewN_drewN _ _ _⟩ | exact ⟨rfl, _, Eq.trans (World.drewN_drewN _ _ _) (congrArg (World.drewN _) (Nat.add_assoc _ _ _))⟩))); try go_wp2_with (first | (go_at_call 91; (with_reducible refine (view_reach.calls (rd l0_1 x46_2) (rd l0_2 x46_2) a1 zi false _ A21.out).mono ?_); rintro e w' ⟨rfl, ⟨nd, rfl⟩⟩; (try first | exact ⟨rfl, _, World.drewN_drewN _ _ _⟩ | exact ⟨rfl, _, Eq.trans (World.drewN_drewN _ _ _) (congrArg (World.drewN _) (Nat.add_assoc _ _ _))⟩))))
      go_ret
      exact ⟨pE, qB1 HB ze⟩
     subst c22
     rw [if_pos rfl] at H
     obtain ⟨ji23, hji23⟩ : ∃ j_ : Int, (mn zi 0) = j_ := ⟨_, rfl⟩
     replace H : (view_Right.l0 k2 a1 (wrap64 (x5_2 + (ji23))) (wrap64 (x6_2 + (mx zi 0))) l0_1 (l0_1.length : Int) (wrap64 (x46_2 + 1)) a0_0 l0_1 l0_2) = some r := by first | (rw [hji23] at H; exact H) | (simp only [hji23] at H ⊢; exact H)
     (try rw [hji23] at A21)
     (try (have hji23h : ji23 ≤ 0 := by (rw [← hji23]; unfold mn; (repeat' split) <;> omega)))
     (try (have hji23g : ji23 ≤ 64 := by omega))
     have hji23_ : (if 0 < zi then 0 else zi) = ji23 := hji23
     obtain ⟨ji24, hji24⟩ : ∃ j_ : Int, (mx zi 0) = j_ := ⟨_, rfl⟩
     replace H : (view_Right.l0 k2 a1 (wrap64 (x5_2 + (ji23))) (wrap64 (x6_2 + (ji24))) l0_1 (l0_1.length : Int) (wrap64 (x46_2 + 1)) a0_0 l0_1 l0_2) = some r := by first | (rw [hji24] at H; exact H) | (simp only [hji24] at H ⊢; exact H)
     (try rw [hji24] at A21)
     (try (have hji24l : 0 ≤ ji24 := by (rw [← hji24]; unfold mx; (repeat' split) <;> omega)))
     (try (have hji24m : 0 ≤ ji24 := by omega))
     have hji24_ : (if zi < 0 then 0 else zi) = ji24 := hji24
     have H' := aM H
     clear H
     have p105 : 0 ≤ (x46_2 : Int) := of_decide_eq_true pD
     have q105 : x46_2 < (l0_1.length : Int) := of_decide_eq_true pD
     obtain ⟨ad105, e105, hx105_0⟩ := Kd.at_int zb.out x46_2 p105 q105
     cases e105
     replace hx105_0 := (HB.out.cell (World.block_lt_of_cell? w _ hx105_0)).trans hx105_0
     replace p105 := eq_true p105
     replace q105 := eq_true q105
     obtain ⟨hcz25_0, hcz25_1, hcz25_2, hfz25_0, hfz25_1, hfz25_2⟩ := blk3 za.out
     have p106 : 0 ≤ (x46_2 : Int) := of_decide_eq_true pD
     have q106 : x46_2 < (l0_2.length : Int) := of_decide_eq_true pD
     obtain ⟨ad106, e106, hx106_0⟩ := Kd.at_int zm.out x46_2 p106 q106
     cases e106
     replace hx106_0 := (HB.out.cell (World.block_lt_of_cell? w _ hx106_0)).trans hx106_0
     replace p106 := eq_true p106
     replace q106 := eq_true q106
     go_wp2_with (first | (go_at_call 91; (with_reducible refine (view_reach.calls (rd l0_1 x46_2) (rd l0_2 x46_2) a1 zi true _ A21.out).mono ?_); rintro e w' ⟨rfl, ⟨nd, rfl⟩⟩; (try first | exact ⟨rfl, _, World.drewN_drewN _ _ _⟩ | exact ⟨rfl, _, Eq.trans (World.drewN_drewN _ _ _) (congrArg (World.drewN _) (Nat.add_assoc _ _ _))⟩)))
     repeat (go_quiet (first | (go_at_call 91; (with_reducible refine (view_reach.calls (rd l0_1 x46_2) (rd l0_2 x46_2) a1 zi true _ A21.out).mono ?_); rintro e w' ⟨rfl, ⟨nd, rfl⟩⟩; (try first | exact ⟨rfl, _, World.drewN_drewN _ _ _⟩ | exact ⟨rfl, _, Eq.trans (World.drewN_drewN _ _ _) (congrArg (World.drewN _) (Nat.add_assoc _ _ _))⟩))); try go_wp2_with (first | (go_at_call 91; (with_reducible refine (view_reach.calls (rd l0_1 x46_2) (rd l0_2 x46_2) a1 zi true _ A21.out).mono ?_); rintro e w' ⟨rfl, ⟨nd, rfl⟩⟩; (try first | exact ⟨rfl, _, World.drewN_drewN _ _ _⟩ | exact ⟨rfl, _, Eq.trans (World.drewN_drewN _ _ _) (congrArg (World.drewN _) (Nat.add_assoc _ _ _))⟩))))
     go_roundg k2
     case measure => have := HJ2.out; have := HK2.out; omega
     case rel => exact ⟨(wrap64 (x5_2 + (ji23))), (wrap64 (x6_2 + (ji24))), (wrap64 (x46_2 + 1)), (by first | rfl | (simp; done) | (simp only [← hji23] <;> (first | rfl | simp)) | (simp [*]; done)), (by first | rfl | (simp; done) | (simp only [← hji24] <;> (first | rfl | simp)) | (simp [*]; done)), (pF), H', ⟨by have := HJ2.out; have := HK2.out; omega⟩, ⟨pK za.out⟩, ⟨qB1 HB ze⟩⟩
def view_right.f (k : Nat) (a0_0 : Int) (l0_1 : List Int) (l0_2 : List Int) : Option (Bool) := (view_Right.f k a0_0 l0_1 l0_2 64).bind fun za => (some za)
set_option maxHeartbeats 8000000 in
set_option maxRecDepth 100000 in
theorem view_right.calls (k : Nat) (a0_0 : Int) (A0_1 : Option Addr) (c0_1 : Nat) (l0_1 : List Int) (A0_2 : Option Addr) (c0_2 : Nat) (l0_2 : List Int) (r : Bool) (w : World) (hr0_1 : Kd.C (Kd.int .i64) w A0_1 l0_1.length l0_1) (hc0_1 : l0_1.length ≤ c0_1) (hr0_2 : Kd.C (Kd.int .i64) w A0_2 l0_2.length l0_2) (hc0_2 : l0_2.length ≤ c0_2) (h : view_right.f k a0_0 l0_1 l0_2 = some r) :
  Calls Try.prog 49 #[.agg #[.int .i64 a0_0, .slice A0_1 l0_1.length c0_1, .slice A0_2 l0_2.length c0_2]] w fun e w' => e = .returned (.bool r) ∧ Below w.heap.size w w' := by
 have hu44 := Try.underlying44
 have HR0_1 := aM hr0_1
 have HC0_1 := aM hc0_1
 clear hr0_1 hc0_1
 have HR0_2 := aM hr0_2
 have HC0_2 := aM hc0_2
 clear hr0_2 hc0_2
 have HB := aM (Below.refl w.heap.size w)
 have H : ((view_Right.f k a0_0 l0_1 l0_2 64).bind fun za => (some za)) = some r := h
 clear h
 replace H := Option.bind_eq_some_iff.mp H
 obtain ⟨za, A20, H⟩ := H
 try dsimp only at H
 have A2 := aM A20
 clear A20
 obtain rfl := Option.some.inj H
 go_enter Try.func49, Try.ntmps49
 go_wp2_with (first | ((with_reducible refine gate_dst (N := 1) rfl ?_); refine box_event ?hg (N := 1) ?hd (cs := #[.int .i64 a0_0, .slice A0_1 l0_1.length c0_1, .slice A0_2 l0_2.length c0_2]) (t := 44) ?hr ?_; (case hd => rfl); (case hg => rfl); (case hr => first | (go_simp; done) | (go_simp; rfl)); intro gb109 hg w3 hbox hb; have zb := aM (hbox); have GW109 := gE (w := w) hg (qB HB); have zc := GW109; replace HB := bS (qB HB) hb; clear hb hbox hg; obtain ⟨hcz4_0, hcz4_1, hcz4_2, hfz4_0, hfz4_1, hfz4_2⟩ := blk3 zb.out) | ((with_reducible refine gate_callee (f := 74) rfl ?_); refine goesL_ (some 4) rfl rfl Try.func74 (by kernel_rfl) rfl #[.agg #[.int .i64 a0_0, .slice A0_1 l0_1.length c0_1, .slice A0_2 l0_2.length c0_2], .int .i64 64] rfl pA ?_; (with_reducible refine (view_Right.calls k a0_0 _ _ l0_1 _ _ l0_2 64 za _ ?s1 ?s2 ?s3 ?s4 A2.out).mono ?_); (case s1 => exact sC HR0_1 HB); (case s2 => exact HC0_1.out); (case s3 => exact sC HR0_2 HB); (case s4 => exact HC0_2.out); rintro e w5 ⟨rfl, hb⟩; refine ⟨_, rfl, ?_⟩; replace zb := bK zb hb; replace HB := bS (qB1 HB zc) hb; (try clear hb); (try clear hk); (try clear hi)))
 go_ret
 exact ⟨pE, qB1 HB zc⟩
def slices_Equal_int_int.l0 : Nat → List Int → List Int → Int → Int → Option (Bool)
 | 0, _, _, _, _ => none
 | k + 1, x0, x1, x12, x13 => if x13 < x12 then (if 0 ≤ x13 then (if x13 < (x0.length : Int) then (if x13 < (x1.length : Int) then (if (rd x0 x13) = (rd x1 x13) then (slices_Equal_int_int.l0 k x0 x1 x12 (wrap64 (x13 + 1))) else (some false)) else (none)) else (none)) else (none)) else (some true)
def slices_Equal_int_int.f (k : Nat) (l0 : List Int) (l1 : List Int) : Option (Bool) := if (l0.length : Int) = (l1.length : Int) then (slices_Equal_int_int.l0 k l0 l1 (l0.length : Int) 0) else (some false)
set_option maxHeartbeats 8000000 in
set_option maxRecDepth 100000 in
theorem slices_Equal_int_int.calls (k : Nat) (A0 : Option Addr) (c0 : Nat) (l0 : List Int) (A1 : Option Addr) (c1 : Nat) (l1 : List Int) (r : Bool) (w : World) (hr0 : Kd.C (Kd.int .i64) w A0 l0.length l0) (hc0 : l0.length ≤ c0) (hr1 : Kd.C (Kd.int .i64) w A1 l1.length l1) (hc1 : l1.length ≤ c1) (h : slices_Equal_int_int.f k l0 l1 = some r) :
  Calls Try.prog 97 #[.slice A0 l0.length c0, .slice A1 l1.length c1] w fun e w' => e = .returned (.bool r) ∧ Drawn0 w w' := by
 have HR0 := aM hr0
 have HC0 := aM hc0
 clear hr0 hc0
 have HR1 := aM hr1
 have HC1 := aM hc1
 clear hr1 hc1
 have H : (if (l0.length : Int) = (l1.length : Int) then (slices_Equal_int_int.l0 k l0 l1 (l0.length : Int) 0) else (some false)) = some r := h
 clear h
 by_cases c3 : (l0.length : Int) = (l1.length : Int)
 rotate_left
 ·rw [if_neg c3] at H
  have za : ((l0.length : Int) == (l1.length : Int)) = false := beq_eq_false_iff_ne.mpr c3
  have zb : ((l0.length : Int) != (l1.length : Int)) = true := bne_iff_ne.mpr c3
  have zc : (l0.length == l1.length) = false := by first | simpa using c3 | (simp at c3 ⊢; omega)
  obtain rfl := Option.some.inj H
  go_enter Try.func97, Try.ntmps97
  go_wp2
  repeat (go_quiet (fail); try go_wp2)
  go_ret
  exact ⟨pF, by repeat (first | exact Drawn0.refl _ | apply Drawn0.step)⟩
 rw [if_pos c3] at H
 have za : ((l0.length : Int) == (l1.length : Int)) = true := beq_iff_eq.mpr c3
 have zb : ((l0.length : Int) != (l1.length : Int)) = false := bne_eq_false_iff_eq.mpr c3
 have zc : (l0.length == l1.length) = true := by first | simpa using c3 | (simp at c3 ⊢; omega)
 clear c3
 have H' := aM H
 clear H
 go_enter Try.func97, Try.ntmps97
 go_wp2
 repeat (go_quiet (fail); try go_wp2)
 go_loopg [13] k (fun kq v13 w' => ∃ (x13_1 : Int), v13 = .int .i64 x13_1 ∧ Aside0 (slices_Equal_int_int.l0 kq l0 l1 (l0.length : Int) x13_1 = some r) ∧ Aside0 (kq ≤ k) ∧ Drawn0 w w')
 case atStart => exact ⟨(0), (pF), H', ⟨Nat.le_refl _⟩, by repeat (first | exact Drawn0.refl _ | apply Drawn0.step)⟩
 case round =>
  clear H'
  try clear c1
  try clear za
  try clear zb
  try clear zc
  obtain ⟨x13_1, rfl, HA, HK1, ⟨m1, rfl⟩⟩ := hrel
  cases gk with
  | zero => exact absurd HA.out (by simp [slices_Equal_int_int.l0])
  | succ k1 =>
   have H := HA.out
   clear HA
   simp only [slices_Equal_int_int.l0] at H
   by_cases c4 : x13_1 < (l0.length : Int)
   rotate_left
   ·rw [if_neg c4] at H
    have c4b0 : decide (x13_1 < (l0.length : Int)) = false := decide_eq_false c4
    clear c4
    obtain rfl := Option.some.inj H
    go_wp2
    repeat (go_quiet (fail); try go_wp2)
    go_ret
    exact ⟨pF, by repeat (first | exact Drawn0.refl _ | apply Drawn0.step)⟩
   rw [if_pos c4] at H
   have c4b0 : decide (x13_1 < (l0.length : Int)) = true := decide_eq_true c4
   clear c4
   by_cases c5 : 0 ≤ x13_1
   rotate_left
   ·rw [if_neg c5] at H
    exact absurd H (by simp)
   rw [if_pos c5] at H
   have c5b0 : decide (0 ≤ x13_1) = true := decide_eq_true c5
   clear c5
   by_cases c6 : x13_1 < (l0.length : Int)
   rotate_left
   ·rw [if_neg c6] at H
    exact absurd H (by simp)
   rw [if_pos c6] at H
   have c6b0 : decide (x13_1 < (l0.length : Int)) = true := decide_eq_true c6
   clear c6
   by_cases c7 : x13_1 < (l1.length : Int)
   rotate_left
   ·rw [if_neg c7] at H
    exact absurd H (by simp)
   rw [if_pos c7] at H
   have c7b0 : decide (x13_1 < (l1.length : Int)) = true := decide_eq_true c7
   clear c7
   by_cases c8 : (rd l0 x13_1) = (rd l1 x13_1)
   rotate_left
   ·rw [if_neg c8] at H
    have c8b0 : ((rd l0 x13_1) == (rd l1 x13_1)) = false := beq_eq_false_iff_ne.mpr c8
    have c8b1 : ((rd l0 x13_1) != (rd l1 x13_1)) = true := bne_iff_ne.mpr c8
    obtain rfl := Option.some.inj H
    have p209 : 0 ≤ (x13_1 : Int) := of_decide_eq_true pD
    have q209 : x13_1 < (l0.length : Int) := of_decide_eq_true pD
    obtain ⟨ad209, e209, hx209_0⟩ := Kd.at_int HR0.out x13_1 p209 q209
    cases e209
    replace p209 := eq_true p209
    replace q209 := eq_true q209
    have p210 : 0 ≤ (x13_1 : Int) := of_decide_eq_true pD
    have q210 : x13_1 < (l1.length : Int) := of_decide_eq_true pD
    obtain ⟨ad210, e210, hx210_0⟩ := Kd.at_int HR1.out x13_1 p210 q210
    cases e210
    replace p210 := eq_true p210
    replace q210 := eq_true q210
    go_wp2
    repeat (go_quiet (fail); try go_wp2)
    go_ret
    exact ⟨pF, by repeat (first | exact Drawn0.refl _ | apply Drawn0.step)⟩
   rw [if_pos c8] at H
   have c8b0 : ((rd l0 x13_1) == (rd l1 x13_1)) = true := beq_iff_eq.mpr c8
   have c8b1 : ((rd l0 x13_1) != (rd l1 x13_1)) = false := bne_eq_false_iff_eq.mpr c8
   clear c8
   have H' := aM H
   clear H
   have p209 : 0 ≤ (x13_1 : Int) := of_decide_eq_true pD
   have q209 : x13_1 < (l0.length : Int) := of_decide_eq_true pD
   obtain ⟨ad209, e209, hx209_0⟩ := Kd.at_int HR0.out x13_1 p209 q209
   cases e209
   replace p209 := eq_true p209
   replace q209 := eq_true q209
   have p210 : 0 ≤ (x13_1 : Int) := of_decide_eq_true pD
   have q210 : x13_1 < (l1.length : Int) := of_decide_eq_true pD
   obtain ⟨ad210, e210, hx210_0⟩ := Kd.at_int HR1.out x13_1 p210 q210
   cases e210
   replace p210 := eq_true p210
   replace q210 := eq_true q210
   go_wp2
   repeat (go_quiet (fail); try go_wp2)
   go_roundg k1
   case measure => have := HK1.out; omega
   case rel => exact ⟨(wrap64 (x13_1 + 1)), (pF), H', ⟨by have := HK1.out; omega⟩, by repeat (first | exact Drawn0.refl _ | apply Drawn0.step)⟩
def shape_Same.f (k : Nat) (l0 : List Int) (l1 : List Int) : Option (Bool) := (slices_Equal_int_int.f k l0 l1).bind fun za => (some za)
set_option maxHeartbeats 8000000 in
set_option maxRecDepth 100000 in
theorem shape_Same.calls (k : Nat) (A0 : Option Addr) (c0 : Nat) (l0 : List Int) (A1 : Option Addr) (c1 : Nat) (l1 : List Int) (r : Bool) (w : World) (hr0 : Kd.C (Kd.int .i64) w A0 l0.length l0) (hc0 : l0.length ≤ c0) (hr1 : Kd.C (Kd.int .i64) w A1 l1.length l1) (hc1 : l1.length ≤ c1) (h : shape_Same.f k l0 l1 = some r) :
  Calls Try.prog 90 #[.slice A0 l0.length c0, .slice A1 l1.length c1] w fun e w' => e = .returned (.bool r) ∧ Drawn0 w w' := by
 have HR0 := aM hr0
 have HC0 := aM hc0
 clear hr0 hc0
 have HR1 := aM hr1
 have HC1 := aM hc1
 clear hr1 hc1
 have H : ((slices_Equal_int_int.f k l0 l1).bind fun za => (some za)) = some r := h
 clear h
 replace H := Option.bind_eq_some_iff.mp H
 obtain ⟨za, A30, H⟩ := H
 try dsimp only at H
 have A3 := aM A30
 clear A30
 obtain rfl := Option.some.inj H
 go_enter Try.func90, Try.ntmps90
 go_wp2_with (first | ((with_reducible refine gate_callee (f := 97) rfl ?_); refine goesL_ (some 7) rfl rfl Try.func97 (by kernel_rfl) rfl #[.slice A0 l0.length c0, .slice A1 l1.length c1] rfl pA ?_; (with_reducible refine (slices_Equal_int_int.calls k _ _ l0 _ _ l1 za _ ?s1 ?s2 ?s3 ?s4 A3.out).mono ?_); (case s1 => exact pC HR0.out); (case s2 => exact HC0.out); (case s3 => exact pC HR1.out); (case s4 => exact HC1.out); rintro e w' ⟨rfl, ⟨nd, rfl⟩⟩; refine ⟨_, rfl, ?_⟩))
 go_ret
 exact ⟨pF, by repeat (first | exact Drawn0.refl _ | apply Drawn0.step)⟩
def spread_size.f (l0 : List Int) (a1 : Int) : Option (Int) := if a1 > (l0.length : Int) then (some 1) else (if 0 ≤ (wrap64 ((l0.length : Int) - a1)) then (if (wrap64 ((l0.length : Int) - a1)) < (l0.length : Int) then (some (rd l0 (wrap64 ((l0.length : Int) - a1)))) else (none)) else (none))
set_option maxHeartbeats 8000000 in
set_option maxRecDepth 100000 in
theorem spread_size.calls (A0 : Option Addr) (c0 : Nat) (l0 : List Int) (a1 : Int) (r : Int) (w : World) (hr0 : Kd.C (Kd.int .i64) w A0 l0.length l0) (hc0 : l0.length ≤ c0) (h : spread_size.f l0 a1 = some r) :
  Calls Try.prog 92 #[.slice A0 l0.length c0, .int .i64 a1] w fun e w' => e = .returned (.int .i64 r) ∧ Drawn0 w w' := by
 have HR0 := aM hr0
 have HC0 := aM hc0
 clear hr0 hc0
 have H : (if a1 > (l0.length : Int) then (some 1) else (if 0 ≤ (wrap64 ((l0.length : Int) - a1)) then (if (wrap64 ((l0.length : Int) - a1)) < (l0.length : Int) then (some (rd l0 (wrap64 ((l0.length : Int) - a1)))) else (none)) else (none))) = some r := h
 clear h
 by_cases c3 : a1 > (l0.length : Int)
 ·rw [if_pos c3] at H
  have c3b0 : decide ((l0.length : Int) < a1) = true := decide_eq_true c3
  clear c3
  obtain rfl := Option.some.inj H
  go_enter Try.func92, Try.ntmps92
  go_wp2
  go_ret
  exact ⟨pF, by repeat (first | exact Drawn0.refl _ | apply Drawn0.step)⟩
 rw [if_neg c3] at H
 have c3b0 : decide ((l0.length : Int) < a1) = false := decide_eq_false c3
 clear c3
 obtain ⟨ji4, hji4⟩ : ∃ j_ : Int, (wrap64 ((l0.length : Int) - a1)) = j_ := ⟨_, rfl⟩
 replace H : (if 0 ≤ (ji4) then (if (ji4) < (l0.length : Int) then (some (rd l0 (ji4))) else (none)) else (none)) = some r := by first | (rw [hji4] at H; exact H) | (simp only [hji4] at H ⊢; exact H)
 have hji4w : (IntKind.i64.wrap ((l0.length : Int) - a1)) = ji4 := (i64_w _).trans hji4
 by_cases c5 : 0 ≤ (ji4)
 rotate_left
 ·rw [if_neg c5] at H
  exact absurd H (by simp)
 rw [if_pos c5] at H
 have c5b0 : decide (0 ≤ (ji4)) = true := decide_eq_true c5
 clear c5
 by_cases c6 : (ji4) < (l0.length : Int)
 rotate_left
 ·rw [if_neg c6] at H
  exact absurd H (by simp)
 rw [if_pos c6] at H
 have c6b0 : decide ((ji4) < (l0.length : Int)) = true := decide_eq_true c6
 clear c6
 obtain rfl := Option.some.inj H
 have p194 : 0 ≤ ((ji4) : Int) := of_decide_eq_true pD
 have q194 : (ji4) < (l0.length : Int) := of_decide_eq_true pD
 obtain ⟨ad194, e194, hx194_0⟩ := Kd.at_int HR0.out (ji4) p194 q194
 cases e194
 replace p194 := eq_true p194
 replace q194 := eq_true q194
 go_enter Try.func92, Try.ntmps92
 go_wp2
 go_ret
 exact ⟨by first | rfl | (simp; done) | (simp only [← hji4] <;> (first | rfl | simp)) | (simp [*]; done), by repeat (first | exact Drawn0.refl _ | apply Drawn0.step)⟩
mutual
def spread_Two.l0 : Nat → List Int → List Int → List (List Int) → Int → Int → Option (List Int × Int)
 | 0, _, _, _, _, _ => none
 | k + 1, x0, x1, x17, x18, x19 => if x19 < x18 then (if 0 ≤ x19 then (if x19 < (x17.length : Int) then ((shape_Check.f (rd_L1 x17 x19)).bind fun zj => (if zj = 0 then (spread_Two.l0 k x0 x1 x17 x18 (wrap64 (x19 + 1))) else (some (([] : List Int), zj)))) else (none)) else (none)) else (if 0 ≤ (mx (x0.length : Int) (x1.length : Int)) then (if (mx (x0.length : Int) (x1.length : Int) : Int).toNat ≤ 35184372088832 then (spread_Two.l1 k x0 x1 (mx (x0.length : Int) (x1.length : Int)) (List.replicate (mx (x0.length : Int) (x1.length : Int) : Int).toNat 0) 1) else (none)) else (none))
def spread_Two.l1 : Nat → List Int → List Int → Int → List Int → Int → Option (List Int × Int)
 | 0, _, _, _, _, _ => none
 | k + 1, x0, x1, x9, x10, x11 => if x11 ≤ x9 then ((spread_size.f x0 x11).bind fun zd => ((spread_size.f x1 x11).bind fun ze => (if zd = ze then (if 0 ≤ (wrap64 (x9 - x11)) then (if (wrap64 (x9 - x11)) < (x10.length : Int) then (spread_Two.l1 k x0 x1 x9 (x10.set ((wrap64 (x9 - x11)) : Int).toNat (mx zd ze)) (wrap64 (x11 + 1))) else (none)) else (none)) else (if zd = 1 then (if 0 ≤ (wrap64 (x9 - x11)) then (if (wrap64 (x9 - x11)) < (x10.length : Int) then (spread_Two.l1 k x0 x1 x9 (x10.set ((wrap64 (x9 - x11)) : Int).toNat (mx zd ze)) (wrap64 (x11 + 1))) else (none)) else (none)) else (if ze = 1 then (if 0 ≤ (wrap64 (x9 - x11)) then (if (wrap64 (x9 - x11)) < (x10.length : Int) then (spread_Two.l1 k x0 x1 x9 (x10.set ((wrap64 (x9 - x11)) : Int).toNat (mx zd ze)) (wrap64 (x11 + 1))) else (none)) else (none)) else (some (([] : List Int), 8))))))) else ((shape_Check.f x10).bind fun zk => (if zk = 0 then (some (x10, 0)) else (some (([] : List Int), zk))))
end
def spread_Two.f (k : Nat) (l0 : List Int) (l1 : List Int) : Option (List Int × Int) := (some (([l0, l1] : List (List Int)) : List (List Int))).bind fun zf => (spread_Two.l0 k l0 l1 zf (zf.length : Int) 0)
set_option maxHeartbeats 8000000 in
set_option maxRecDepth 100000 in
theorem spread_Two.calls (k : Nat) (P0_ : Nat → Prop) (A0 : Option Addr) (c0 : Nat) (l0 : List Int) (P1_ : Nat → Prop) (A1 : Option Addr) (c1 : Nat) (l1 : List Int) (r1 : List Int) (r2 : Int) (w : World) (hs0 : Kd.V (Kd.int .i64) 3 w w.heap.size (fun k_ => P0_ k_) (.slice A0 l0.length c0) l0) (hs1 : Kd.V (Kd.int .i64) 3 w w.heap.size (fun k_ => P1_ k_) (.slice A1 l1.length c1) l1) (h : spread_Two.f k l0 l1 = some (r1, r2)) :
  Calls Try.prog 75 #[.slice A0 l0.length c0, .slice A1 l1.length c1] w fun e w' => ∃ v0_ : Value, e = .returned (.tuple #[v0_, .int .i64 r2]) ∧ Kd.R (Kd.int .i64) 3 w' w.heap.size (fun k_ => (w.heap.size ≤ k_)) v0_ r1 ∧ Below w.heap.size w w' := by
 have HO0 := aM (show Kd.V (Kd.int .i64) 3 w w.heap.size (fun k_ => ((P0_ k_ ∨ P1_ k_) ∨ w.heap.size ≤ k_)) (.slice A0 l0.length c0) l0 from Kd.V_mono hs0 (fun k_ hk => .inl (.inl hk)))
 have HO1 := aM (show Kd.V (Kd.int .i64) 3 w w.heap.size (fun k_ => ((P0_ k_ ∨ P1_ k_) ∨ w.heap.size ≤ k_)) (.slice A1 l1.length c1) l1 from Kd.V_mono hs1 (fun k_ hk => .inl (.inr hk)))
 have HB := aM (Below.refl w.heap.size w)
 have H : ((some (([l0, l1] : List (List Int)) : List (List Int))).bind fun zf => (spread_Two.l0 k l0 l1 zf (zf.length : Int) 0)) = some (r1, r2) := h
 clear h
 obtain ⟨zf, zm⟩ : ∃ y_ : List (List Int), y_ = (([l0, l1] : List (List Int))) := ⟨_, rfl⟩
 replace H : (spread_Two.l0 k l0 l1 zf (zf.length : Int) 0) = some (r1, r2) := pH zm H
 have zu := aM zm
 clear zm
 have H' := aM H
 clear H
 go_enter Try.func75, Try.ntmps75
 go_wp2_with (first | ((with_reducible refine gate_dst (N := 17) rfl ?_); refine Kd.N_lit (Kd.slice 3 (Kd.int .i64)) _ 22 ?hg (N' := 17) ?hd (xs := ([l0, l1] : List (List Int))) (inner := [.slice A0 l0.length c0, .slice A1 l1.length c1]) (ok := (fun k_ => ((P0_ k_ ∨ P1_ k_) ∨ w.heap.size ≤ k_))) (okp := (fun k_ => ((P0_ k_ ∨ P1_ k_) ∨ w.heap.size ≤ k_))) ?hr ?hp (fun _ hk => hk) ((show ∀ k_, w.heap.size ≤ k_ → (fun k_ => ((P0_ k_ ∨ P1_ k_) ∨ w.heap.size ≤ k_)) k_ from fun k_ hk => (.inr (Nat.le_trans (below_size (qB HB)) hk))) _ (Nat.le_refl _)) (Below.refl _ _) (Nat.le_refl _) (by simp) ?_; (case hd => rfl); (case hg => rfl); (case hr => first | (go_simp; done) | (go_simp; rfl)); (case hp => exact (Reps.one (show Kd.FK (Kd.slice 3 (Kd.int .i64)) _ _ l0 [.slice A0 l0.length c0] from (Kd.FK_slice_mk (Kd.V_reads' (Kd.V_mono (ok' := (fun k_ => ((P0_ k_ ∨ P1_ k_) ∨ w.heap.size ≤ k_))) (HO0.out) (fun k_ hk => hk))).2.1 (Kd.V_F (Kd.V_mono (ok' := (fun k_ => ((P0_ k_ ∨ P1_ k_) ∨ w.heap.size ≤ k_))) (HO0.out) (fun k_ hk => hk))))) (Reps.one (show Kd.FK (Kd.slice 3 (Kd.int .i64)) _ _ l1 [.slice A1 l1.length c1] from (Kd.FK_slice_mk (Kd.V_reads' (Kd.V_mono (ok' := (fun k_ => ((P0_ k_ ∨ P1_ k_) ∨ w.heap.size ≤ k_))) (HO1.out) (fun k_ hk => hk))).2.1 (Kd.V_F (Kd.V_mono (ok' := (fun k_ => ((P0_ k_ ∨ P1_ k_) ∨ w.heap.size ≤ k_))) (HO1.out) (fun k_ hk => hk))))) (Reps.none _ _)))); intro v196 w3 ho4 hb hg_ hnew_; clear hg_ hnew_; (first | rw [← zu.out] at ho4 | (simp only [Int.reduceToNat] at ho4; rw [← zu.out] at ho4)); replace HO0 := aM (Kd.V_elder' (pV HO0.out) (Kd.N_base ho4) hb); replace HO1 := aM (Kd.V_elder' (pV HO1.out) (Kd.N_base ho4) hb); have zv := aM (Kd.N_lower ho4 (below_size (qB HB))); replace HB := bS (qB HB) hb; clear hb ho4; obtain ⟨Ao5, co5, eo5⟩ := Kd.N_slice zv.out; subst eo5))
 go_loopg [19] k (fun kq v19 w' => ∃ (x19_1 : Int), v19 = .int .i64 x19_1 ∧ Aside0 (spread_Two.l0 kq l0 l1 zf (zf.length : Int) x19_1 = some (r1, r2)) ∧ Aside0 (kq ≤ k) ∧ Aside0 (Kd.V (Kd.int .i64) 3 w' w.heap.size (fun k_ => ((P0_ k_ ∨ P1_ k_) ∨ w.heap.size ≤ k_) ∧ some k_ ≠ ((.slice Ao5 zf.length co5) : Value).ownBlock) (.slice A0 l0.length c0) l0) ∧ Aside0 (Kd.V (Kd.int .i64) 3 w' w.heap.size (fun k_ => ((P0_ k_ ∨ P1_ k_) ∨ w.heap.size ≤ k_) ∧ some k_ ≠ ((.slice Ao5 zf.length co5) : Value).ownBlock) (.slice A1 l1.length c1) l1) ∧ Aside0 (Kd.N (Kd.slice 3 (Kd.int .i64)) 22 w' w.heap.size (fun k_ => ((P0_ k_ ∨ P1_ k_) ∨ w.heap.size ≤ k_)) (.slice Ao5 zf.length co5) zf) ∧ Aside0 (Below w.heap.size w w'))
 case atStart => exact ⟨(0), (pF), H', ⟨Nat.le_refl _⟩, ⟨pV HO0.out⟩, ⟨pV HO1.out⟩, ⟨by (with_reducible repeat (first | apply Kd.N_alloc | apply Kd.N_drewN | apply Kd.N_drew)); exact zv.out⟩, ⟨qB HB⟩⟩
 case round =>
  clear H'
  try clear c1
  obtain ⟨x19_1, rfl, HA, HK1, zb, zc, zh, HB⟩ := hrel
  cases gk with
  | zero => exact absurd HA.out (by simp [spread_Two.l0])
  | succ k1 =>
   have H := HA.out
   clear HA
   simp only [spread_Two.l0] at H
   by_cases c6 : x19_1 < (zf.length : Int)
   ·rw [if_pos c6] at H
    have z0 : decide (x19_1 < (zf.length : Int)) = true := decide_eq_true c6
    clear c6
    by_cases c7 : 0 ≤ x19_1
    rotate_left
    ·rw [if_neg c7] at H
     exact absurd H (by simp)
    rw [if_pos c7] at H
    have c7b0 : decide (0 ≤ x19_1) = true := decide_eq_true c7
    clear c7
    by_cases c8 : x19_1 < (zf.length : Int)
    rotate_left
    ·rw [if_neg c8] at H
     exact absurd H (by simp)
    rw [if_pos c8] at H
    have c8b0 : decide (x19_1 < (zf.length : Int)) = true := decide_eq_true c8
    clear c8
    replace H := Option.bind_eq_some_iff.mp H
    obtain ⟨zj, A90, H⟩ := H
    try dsimp only at H
    have A9 := aM A90
    clear A90
    by_cases c10 : zj = 0
    rotate_left
    ·rw [if_neg c10] at H
     have c10b0 : (zj == 0) = false := beq_eq_false_iff_ne.mpr c10
     have c10b1 : (zj != 0) = true := bne_iff_ne.mpr c10
     simp only [Option.some.injEq, Prod.mk.injEq] at H
     obtain ⟨rfl, rfl⟩ := H
     have p198 : 0 ≤ (x19_1 : Int) := of_decide_eq_true pD
     have q198 : x19_1 < (zf.length : Int) := of_decide_eq_true pD
     obtain ⟨ad198, A198_0, c198_0, e198, hx198_0, hl198_0, hi198_0⟩ := at_L1 (Kd.N_reads' zh.out).2.2 x19_1 p198 q198
     cases e198
     obtain ⟨ce198, hce198, hMe198, hcc198⟩ := Kd.N_get zh.out [] x19_1 p198 (by first | exact q198 | exact of_decide_eq_true pD | (have e_ := (Kd.N_reads' zh.out).1; omega))
     obtain ⟨ua198_0, uc198_0, rfl, ul198_0, ge198_0⟩ := Kd.FK_slice_open hMe198
     have hv198_0 := hcc198 0 _ rfl
     rw [Nat.add_zero, show ((Kd.slice 3 (Kd.int .i64))).sz = 1 from rfl, Nat.mul_one] at hv198_0
     replace hv198_0 := Option.some.inj (hv198_0.symm.trans hx198_0)
     injection hv198_0 with hva_ hvn_ hvc_
     rw [hva_] at ge198_0
     rw [hvc_] at ul198_0
     have HL198_0 := aM (show Kd.V (Kd.int .i64) 3 _ w.heap.size _ _ (rd_L1 zf x19_1) from Kd.V_mk ul198_0 ge198_0)
     clear hva_ hvn_ hvc_ ge198_0 ul198_0
     clear hcc198 hce198
     have zi := aM hi198_0
     have zl := aM hl198_0
     clear hi198_0 hl198_0
     replace p198 := eq_true p198
     replace q198 := eq_true q198
     go_wp2_with (first | ((with_reducible refine gate_callee (f := 31) rfl ?_); refine goesL_ (some 24) rfl rfl Try.func31 (by kernel_rfl) rfl #[.slice A198_0 (rd_L1 zf x19_1).length c198_0] rfl pA ?_; (with_reducible refine (shape_Check.calls _ _ (rd_L1 zf x19_1) zj _ ?s1 ?s2 A9.out).mono ?_); (case s1 => repeat (first | exact (by repeat (first | (with_reducible exact zi.out) | (with_reducible refine Kd.C_alloc ?_ _) | (with_reducible refine Kd.C_drewN ?_ _) | (with_reducible refine Kd.C_drew ?_) | exact zi.out)) | (with_reducible refine Kd.C_alloc ?_ _) | (with_reducible refine Kd.C_drewN ?_ _) | (with_reducible refine Kd.C_drew ?_))); (case s2 => exact zl.out); rintro e w' ⟨rfl, ⟨nd, rfl⟩⟩; refine ⟨_, rfl, ?_⟩))
     go_ret2
     exact ⟨_, pE, pN, qB HB⟩
    rw [if_pos c10] at H
    have c10b0 : (zj == 0) = true := beq_iff_eq.mpr c10
    have c10b1 : (zj != 0) = false := bne_eq_false_iff_eq.mpr c10
    clear c10
    have H' := aM H
    clear H
    have p198 : 0 ≤ (x19_1 : Int) := of_decide_eq_true pD
    have q198 : x19_1 < (zf.length : Int) := of_decide_eq_true pD
    obtain ⟨ad198, A198_0, c198_0, e198, hx198_0, hl198_0, hi198_0⟩ := at_L1 (Kd.N_reads' zh.out).2.2 x19_1 p198 q198
    cases e198
    obtain ⟨ce198, hce198, hMe198, hcc198⟩ := Kd.N_get zh.out [] x19_1 p198 (by first | exact q198 | exact of_decide_eq_true pD | (have e_ := (Kd.N_reads' zh.out).1; omega))
    obtain ⟨ua198_0, uc198_0, rfl, ul198_0, ge198_0⟩ := Kd.FK_slice_open hMe198
    have hv198_0 := hcc198 0 _ rfl
    rw [Nat.add_zero, show ((Kd.slice 3 (Kd.int .i64))).sz = 1 from rfl, Nat.mul_one] at hv198_0
    replace hv198_0 := Option.some.inj (hv198_0.symm.trans hx198_0)
    injection hv198_0 with hva_ hvn_ hvc_
    rw [hva_] at ge198_0
    rw [hvc_] at ul198_0
    have HL198_0 := aM (show Kd.V (Kd.int .i64) 3 _ w.heap.size _ _ (rd_L1 zf x19_1) from Kd.V_mk ul198_0 ge198_0)
    clear hva_ hvn_ hvc_ ge198_0 ul198_0
    clear hcc198 hce198
    have zi := aM hi198_0
    have zl := aM hl198_0
    clear hi198_0 hl198_0
    replace p198 := eq_true p198
    replace q198 := eq_true q198
    go_wp2_with (first | ((with_reducible refine gate_callee (f := 31) rfl ?_); refine goesL_ (some 24) rfl rfl Try.func31 (by kernel_rfl) rfl #[.slice A198_0 (rd_L1 zf x19_1).length c198_0] rfl pA ?_; (with_reducible refine (shape_Check.calls _ _ (rd_L1 zf x19_1) zj _ ?s1 ?s2 A9.out).mono ?_); (case s1 => repeat (first | exact (by repeat (first | (with_reducible exact zi.out) | (with_reducible refine Kd.C_alloc ?_ _) | (with_reducible refine Kd.C_drewN ?_ _) | (with_reducible refine Kd.C_drew ?_) | exact zi.out)) | (with_reducible refine Kd.C_alloc ?_ _) | (with_reducible refine Kd.C_drewN ?_ _) | (with_reducible refine Kd.C_drew ?_))); (case s2 => exact zl.out); rintro e w' ⟨rfl, ⟨nd, rfl⟩⟩; refine ⟨_, rfl, ?_⟩))
    go_roundg k1
    case measure => have := HK1.out; omega
    case rel => exact ⟨(wrap64 (x19_1 + 1)), (pF), H', ⟨by have := HK1.out; omega⟩, ⟨pV zb.out⟩, ⟨pV zc.out⟩, ⟨by (with_reducible repeat (first | apply Kd.N_alloc | apply Kd.N_drewN | apply Kd.N_drew)); exact zh.out⟩, ⟨qB HB⟩⟩
   rw [if_neg c6] at H
   have z0 : decide (x19_1 < (zf.length : Int)) = false := decide_eq_false c6
   clear c6
   obtain ⟨ji11, hji11⟩ : ∃ j_ : Int, (mx (l0.length : Int) (l1.length : Int)) = j_ := ⟨_, rfl⟩
   replace H : (if 0 ≤ (ji11) then (if (ji11 : Int).toNat ≤ 35184372088832 then (spread_Two.l1 k1 l0 l1 ji11 (List.replicate (ji11 : Int).toNat 0) 1) else (none)) else (none)) = some (r1, r2) := by first | (rw [hji11] at H; exact H) | (simp only [hji11] at H ⊢; exact H)
   have hji11_ : (if (l0.length : Int) < (l1.length : Int) then (l1.length : Int) else (l0.length : Int)) = ji11 := hji11
   have hji11_n : (if l0.length < l1.length then (l1.length : Int) else (l0.length : Int)) = ji11 := by simpa only [Int.ofNat_lt] using hji11_
   by_cases c12 : 0 ≤ (ji11)
   rotate_left
   ·rw [if_neg c12] at H
    exact absurd H (by simp)
   rw [if_pos c12] at H
   have c12b0 := eq_true c12
   have c12b1 : decide (0 ≤ (ji11)) = true := decide_eq_true c12
   clear c12
   by_cases c13 : (ji11 : Int).toNat ≤ 35184372088832
   rotate_left
   ·rw [if_neg c13] at H
    exact absurd H (by simp)
   rw [if_pos c13] at H
   have c13b0 := eq_true c13
   have c13b1 : decide ((ji11 : Int).toNat ≤ 35184372088832) = true := decide_eq_true c13
   clear c13
   obtain ⟨z1, zn⟩ : ∃ y_ : List Int, y_ = (List.replicate (ji11 : Int).toNat 0) := ⟨_, rfl⟩
   replace H : (spread_Two.l1 k1 l0 l1 ji11 z1 1) = some (r1, r2) := pH zn H
   have zw := aM zn
   clear zn
   have H' := aM H
   clear H
   go_wp2_with (first | ((with_reducible refine gate_dst (N := 35) rfl ?_); refine Kd.R_make (Kd.int .i64) _ 3 rfl (N := 35) rfl 22 _ _ rfl ji11 rfl rfl Try.underlying22 (.int .i64 0) 8 info3 rfl (by decide) (by omega) 0 (ok := fun _ => True) (okp := fun _ => True) rfl (fun _ hk => hk) trivial (of_decide_eq_true pD) (Nat.le_trans (Nat.mul_le_mul_right _ (of_decide_eq_true pD : ji11.toNat ≤ 35184372088832)) (by omega)) (Below.refl _ _) (Nat.le_refl _) ?_; intro zg w14 ho15 hb hg_ hnew_; clear hg_ hnew_; (first | rw [← zw.out] at ho15 | (simp only [Int.reduceToNat] at ho15; rw [← zw.out] at ho15)); replace zb := aM (Kd.V_elder' (pV zb.out) (Kd.R_base ho15) hb); replace zc := aM (Kd.V_elder' (pV zc.out) (Kd.R_base ho15) hb); replace zh := aM (Kd.N_elder' (by (with_reducible repeat (first | apply Kd.N_alloc | apply Kd.N_drewN | apply Kd.N_drew)); exact zh.out) (Kd.R_base ho15) hb); have HO202 := aM (Kd.R_lower (Kd.R_newM (M := fun k_ => (w.heap.size ≤ k_)) ho15 (below_size (qB HB)) (fun k_ h_ => h_)) (below_size (qB HB))); replace HB := bS (qB HB) hb; clear hb ho15))
   go_loopg [11] k1 (fun kq v11 w' => ∃ (x10_2 : List Int) (x11_2 : Int), v11 = .int .i64 x11_2 ∧ Aside0 (spread_Two.l1 kq l0 l1 ji11 x10_2 x11_2 = some (r1, r2)) ∧ Aside0 (kq ≤ k1) ∧ Aside0 (Kd.V (Kd.int .i64) 3 w' w.heap.size (fun k_ => ((P0_ k_ ∨ P1_ k_) ∨ w.heap.size ≤ k_) ∧ some k_ ≠ (zg : Value).ownBlock) (.slice A0 l0.length c0) l0) ∧ Aside0 (Kd.V (Kd.int .i64) 3 w' w.heap.size (fun k_ => ((P0_ k_ ∨ P1_ k_) ∨ w.heap.size ≤ k_) ∧ some k_ ≠ (zg : Value).ownBlock) (.slice A1 l1.length c1) l1) ∧ Aside0 (Kd.R (Kd.int .i64) 3 w' w.heap.size (fun k_ => (w.heap.size ≤ k_)) zg x10_2) ∧ Aside0 (Below w.heap.size w w'))
   case atStart => exact ⟨(z1), (1), (pF), H', ⟨Nat.le_refl _⟩, ⟨by (with_reducible repeat (first | apply Kd.V_alloc | apply Kd.V_drewN | apply Kd.V_drew)); exact Kd.V_mono zb.out (fun _ hk => ⟨hk.1.1, hk.2⟩)⟩, ⟨by (with_reducible repeat (first | apply Kd.V_alloc | apply Kd.V_drewN | apply Kd.V_drew)); exact Kd.V_mono zc.out (fun _ hk => ⟨hk.1.1, hk.2⟩)⟩, ⟨by (with_reducible repeat (first | apply rA | apply rN | apply rD)); exact Kd.R_mono HO202.out (fun _ hk => hk.1)⟩, ⟨qB HB⟩⟩
   case round =>
    clear H'
    try clear c1
    try clear z0
    try clear c12b0
    try clear c12b1
    try clear c13b0
    try clear c13b1
    obtain ⟨x10_2, x11_2, rfl, HA, HK2, zb, zc, za, HB⟩ := hrel
    cases gk with
    | zero => exact absurd HA.out (by simp [spread_Two.l1])
    | succ k2 =>
     have H := HA.out
     clear HA
     simp only [spread_Two.l1] at H
     by_cases c16 : x11_2 ≤ ji11
     rotate_left
     ·rw [if_neg c16] at H
      have c16b0 : decide (x11_2 ≤ ji11) = false := decide_eq_false c16
      clear c16
      replace H := Option.bind_eq_some_iff.mp H
      obtain ⟨zk, z2, H⟩ := H
      try dsimp only at H
      have A43 := aM z2
      clear z2
      by_cases c44 : zk = 0
      rotate_left
      ·rw [if_neg c44] at H
       have c44b0 : (zk == 0) = false := beq_eq_false_iff_ne.mpr c44
       have c44b1 : (zk != 0) = true := bne_iff_ne.mpr c44
       simp only [Option.some.injEq, Prod.mk.injEq] at H
       obtain ⟨rfl, rfl⟩ := H
       obtain ⟨Ao46, co46, eo46⟩ := Kd.R_slice za.out
       subst eo46
       go_wp2_with (first | ((with_reducible refine gate_callee (f := 31) rfl ?_); refine goesL_ (some 67) rfl rfl Try.func31 (by kernel_rfl) rfl #[.slice Ao46 x10_2.length co46] rfl pA ?_; (with_reducible refine (shape_Check.calls _ _ x10_2 zk _ ?s1 ?s2 A43.out).mono ?_); (case s1 => exact sR za); (case s2 => exact sL za); rintro e w' ⟨rfl, ⟨nd, rfl⟩⟩; refine ⟨_, rfl, ?_⟩))
       go_ret2
       exact ⟨_, by first | rfl | (simp [errW_none, errW_some] <;> rfl) | (simp only [← hji11]; first | rfl | (simp [errW_none, errW_some] <;> rfl)) | (simp [*, errW_none, errW_some] <;> rfl), pN, qB HB⟩
      rw [if_pos c44] at H
      have c44b0 : (zk == 0) = true := beq_iff_eq.mpr c44
      have c44b1 : (zk != 0) = false := bne_eq_false_iff_eq.mpr c44
      clear c44
      simp only [Option.some.injEq, Prod.mk.injEq] at H
      obtain ⟨rfl, rfl⟩ := H
      obtain ⟨Ao45, co45, eo45⟩ := Kd.R_slice za.out
      subst eo45
      go_wp2_with (first | ((with_reducible refine gate_callee (f := 31) rfl ?_); refine goesL_ (some 67) rfl rfl Try.func31 (by kernel_rfl) rfl #[.slice Ao45 x10_2.length co45] rfl pA ?_; (with_reducible refine (shape_Check.calls _ _ x10_2 zk _ ?s1 ?s2 A43.out).mono ?_); (case s1 => exact sR za); (case s2 => exact sL za); rintro e w' ⟨rfl, ⟨nd, rfl⟩⟩; refine ⟨_, rfl, ?_⟩))
      go_ret2
      exact ⟨_, by first | rfl | (simp [errW_none, errW_some] <;> rfl) | (simp only [← hji11]; first | rfl | (simp [errW_none, errW_some] <;> rfl)) | (simp [*, errW_none, errW_some] <;> rfl), pR za.out, qB HB⟩
     rw [if_pos c16] at H
     have c16b0 : decide (x11_2 ≤ ji11) = true := decide_eq_true c16
     clear c16
     replace H := Option.bind_eq_some_iff.mp H
     obtain ⟨zd, z3, H⟩ := H
     try dsimp only at H
     have A17 := aM z3
     clear z3
     replace H := Option.bind_eq_some_iff.mp H
     obtain ⟨ze, z4, H⟩ := H
     try dsimp only at H
     have A18 := aM z4
     clear z4
     by_cases c19 : zd = ze
     ·rw [if_pos c19] at H
      have c19b0 : (zd == ze) = true := beq_iff_eq.mpr c19
      have c19b1 : (zd != ze) = false := bne_eq_false_iff_eq.mpr c19
      clear c19
      obtain ⟨ji20, hji20⟩ : ∃ j_ : Int, (mx zd ze) = j_ := ⟨_, rfl⟩
      replace H : (if 0 ≤ (wrap64 (ji11 - x11_2)) then (if (wrap64 (ji11 - x11_2)) < (x10_2.length : Int) then (spread_Two.l1 k2 l0 l1 ji11 (x10_2.set ((wrap64 (ji11 - x11_2)) : Int).toNat (ji20)) (wrap64 (x11_2 + 1))) else (none)) else (none)) = some (r1, r2) := by first | (rw [hji20] at H; exact H) | (simp only [hji20] at H ⊢; exact H)
      (try rw [hji20] at A17)
      (try rw [hji20] at A18)
      have hji20_ : (if zd < ze then ze else zd) = ji20 := hji20
      obtain ⟨ji21, hji21⟩ : ∃ j_ : Int, (wrap64 (ji11 - x11_2)) = j_ := ⟨_, rfl⟩
      replace H : (if 0 ≤ (ji21) then (if (ji21) < (x10_2.length : Int) then (spread_Two.l1 k2 l0 l1 ji11 (x10_2.set ((ji21) : Int).toNat (ji20)) (wrap64 (x11_2 + 1))) else (none)) else (none)) = some (r1, r2) := by first | (rw [hji21] at H; exact H) | (simp only [hji21] at H ⊢; exact H)
      (try rw [hji21] at A17)
      (try rw [hji21] at A18)
      have hji21w : (IntKind.i64.wrap (ji11 - x11_2)) = ji21 := (i64_w _).trans hji21
      by_cases c22 : 0 ≤ (ji21)
      rotate_left
      ·rw [if_neg c22] at H
       exact absurd H (by simp)
      rw [if_pos c22] at H
      have c22b0 : decide (0 ≤ (ji21)) = true := decide_eq_true c22
      clear c22
      by_cases c23 : (ji21) < (x10_2.length : Int)
      rotate_left
      ·rw [if_neg c23] at H
       exact absurd H (by simp)
      rw [if_pos c23] at H
      have c23b0 : decide ((ji21) < (x10_2.length : Int)) = true := decide_eq_true c23
      clear c23
      obtain ⟨zx, zo⟩ : ∃ y_ : List Int, y_ = (x10_2.set ((ji21) : Int).toNat (ji20)) := ⟨_, rfl⟩
      replace H : (spread_Two.l1 k2 l0 l1 ji11 zx (wrap64 (x11_2 + 1))) = some (r1, r2) := pH zo H
      have Ny206 := aM zo
      clear zo
      have H' := aM H
      clear H
      go_wp2_with (first | ((with_reducible refine gate_callee (f := 92) rfl ?_); refine goesL_ (some 43) rfl rfl Try.func92 (by kernel_rfl) rfl #[.slice A0 l0.length c0, .int .i64 x11_2] rfl pA ?_; (with_reducible refine (spread_size.calls _ _ l0 x11_2 zd _ ?s1 ?s2 A17.out).mono ?_); (case s1 => exact pC (Kd.V_reads' zb.out).2.2); (case s2 => exact (Kd.V_reads' zb.out).2.1); rintro e w' ⟨rfl, ⟨nd, rfl⟩⟩; refine ⟨_, rfl, ?_⟩; (try (rw [drewN_self wr]; generalize hq_ : World.drewN wr _ = wr; have n0_ : Aside0 (Kd.V (Kd.int .i64) 3 wr w.heap.size (fun k_ => ((P0_ k_ ∨ P1_ k_) ∨ w.heap.size ≤ k_) ∧ some k_ ≠ (zg : Value).ownBlock) (.slice A0 l0.length c0) l0) := ⟨by rw [← hq_]; exact (pV zb.out)⟩; have n1_ : Aside0 (Kd.V (Kd.int .i64) 3 wr w.heap.size (fun k_ => ((P0_ k_ ∨ P1_ k_) ∨ w.heap.size ≤ k_) ∧ some k_ ≠ (zg : Value).ownBlock) (.slice A1 l1.length c1) l1) := ⟨by rw [← hq_]; exact (pV zc.out)⟩; have n2_ : Aside0 (Kd.R (Kd.int .i64) 3 wr w.heap.size (fun k_ => (w.heap.size ≤ k_)) zg x10_2) := ⟨by rw [← hq_]; exact (pR za.out)⟩; have n3_ : Aside0 (Below w.heap.size w wr) := ⟨by rw [← hq_]; exact (qB HB)⟩; clear zb zc za HB hq_; have zb := n0_; have zc := n1_; have za := n2_; have HB := n3_; clear n0_ n1_ n2_ n3_))) | ((with_reducible refine gate_callee (f := 92) rfl ?_); refine goesL_ (some 46) rfl rfl Try.func92 (by kernel_rfl) rfl #[.slice A1 l1.length c1, .int .i64 x11_2] rfl pA ?_; (with_reducible refine (spread_size.calls _ _ l1 x11_2 ze _ ?s1 ?s2 A18.out).mono ?_); (case s1 => exact pC (Kd.V_reads' zc.out).2.2); (case s2 => exact (Kd.V_reads' zc.out).2.1); rintro e w' ⟨rfl, ⟨nd, rfl⟩⟩; refine ⟨_, rfl, ?_⟩; (try (rw [drewN_self wr]; generalize hq_ : World.drewN wr _ = wr; have n0_ : Aside0 (Kd.V (Kd.int .i64) 3 wr w.heap.size (fun k_ => ((P0_ k_ ∨ P1_ k_) ∨ w.heap.size ≤ k_) ∧ some k_ ≠ (zg : Value).ownBlock) (.slice A0 l0.length c0) l0) := ⟨by rw [← hq_]; exact (pV zb.out)⟩; have n1_ : Aside0 (Kd.V (Kd.int .i64) 3 wr w.heap.size (fun k_ => ((P0_ k_ ∨ P1_ k_) ∨ w.heap.size ≤ k_) ∧ some k_ ≠ (zg : Value).ownBlock) (.slice A1 l1.length c1) l1) := ⟨by rw [← hq_]; exact (pV zc.out)⟩; have n2_ : Aside0 (Kd.R (Kd.int .i64) 3 wr w.heap.size (fun k_ => (w.heap.size ≤ k_)) zg x10_2) := ⟨by rw [← hq_]; exact (pR za.out)⟩; have n3_ : Aside0 (Below w.heap.size w wr) := ⟨by rw [← hq_]; exact (qB HB)⟩; clear zb zc za HB hq_; have zb := n0_; have zc := n1_; have za := n2_; have HB := n3_; clear n0_ n1_ n2_ n3_)); have p24 : 0 ≤ ((ji21) : Int) := of_decide_eq_true pD; have q24 : ((ji21) : Int) < ((x10_2.length : Int) : Int) := of_decide_eq_true pD; obtain ⟨go24, zp, z5, z6, gl24, cl24, HG24⟩ := Kd.R_form za.out (by omega); (first | cases z5 | (injection z5 with ea_ en_ ec_; (first | subst ea_ | (injection ea_ with ea_; subst ea_)); subst ec_; clear en_)); have GB24 := aM z6; have GG24 := aM HG24; clear z6 gl24 HG24; obtain ⟨hx24_0, hf24_0⟩ := Kd.R_celln 0 za.out ((ji21) : Int) p24 q24; replace p24 := eq_true p24; replace q24 := eq_true q24; obtain ⟨hy25_, hz25_⟩ := Kd.R_celln 0 za.out ((ji21) : Int) (of_decide_eq_true pD) (of_decide_eq_true pD); have HP25 := Kd.R_putg za.out ((ji21) : Int) ji20) | ((with_reducible refine gate_store (t := 3) (p := 65) rfl ?_); refine store_event (t := 3) (p := 65) (v := ?vo_w26) (w1 := (wr.setCell ⟨go24, ((ji21) : Int).toNat, none⟩ (.int .i64 ji20))) ?hg ?ho ?hn ?hr ?_; (case ho => rfl); (case hg => rfl); (case hn => rfl); (case hr => first | (go_simp; done) | (go_simp; rfl)); intro w26 hw; have hg : wr.grownBy w26 (some go24) := (by rw [hw]; exact HP25.2); have hp_ : Kd.R (Kd.int .i64) 3 w26 w.heap.size (fun k_ => (w.heap.size ≤ k_)) (.slice (some ⟨go24, 0, none⟩) x10_2.length zp) zx := (by rw [hw, Ny206.out]; exact HP25.1); clear HP25; replace zb := aM (Kd.V_afterv (v := (.slice (some ⟨go24, 0, none⟩) x10_2.length zp)) (v1 := (.slice (some ⟨go24, 0, none⟩) x10_2.length zp)) (ok := (fun k_ => ((P0_ k_ ∨ P1_ k_) ∨ w.heap.size ≤ k_))) (pV zb.out) hg (.inl rfl)); replace zc := aM (Kd.V_afterv (v := (.slice (some ⟨go24, 0, none⟩) x10_2.length zp)) (v1 := (.slice (some ⟨go24, 0, none⟩) x10_2.length zp)) (ok := (fun k_ => ((P0_ k_ ∨ P1_ k_) ∨ w.heap.size ≤ k_))) (pV zc.out) hg (.inl rfl)); replace za := aM (hp_); replace HB := aM ((by rw [hw]; exact below_set (HB.out) GB24.out : Below w.heap.size w w26)); clear hg hw hp_))
      go_roundg k2
      case measure => have := HK1.out; have := HK2.out; omega
      case rel => exact ⟨(zx), (wrap64 (x11_2 + 1)), (pF), H', ⟨by have := HK1.out; have := HK2.out; omega⟩, ⟨pV zb.out⟩, ⟨pV zc.out⟩, ⟨pR za.out⟩, ⟨qB HB⟩⟩
     rw [if_neg c19] at H
     have c19b0 : (zd == ze) = false := beq_eq_false_iff_ne.mpr c19
     have c19b1 : (zd != ze) = true := bne_iff_ne.mpr c19
     by_cases c27 : zd = 1
     ·rw [if_pos c27] at H
      have c27b0 : (zd == 1) = true := beq_iff_eq.mpr c27
      have c27b1 : (zd != 1) = false := bne_eq_false_iff_eq.mpr c27
      clear c27
      obtain ⟨ji28, hji28⟩ : ∃ j_ : Int, (mx zd ze) = j_ := ⟨_, rfl⟩
      replace H : (if 0 ≤ (wrap64 (ji11 - x11_2)) then (if (wrap64 (ji11 - x11_2)) < (x10_2.length : Int) then (spread_Two.l1 k2 l0 l1 ji11 (x10_2.set ((wrap64 (ji11 - x11_2)) : Int).toNat (ji28)) (wrap64 (x11_2 + 1))) else (none)) else (none)) = some (r1, r2) := by first | (rw [hji28] at H; exact H) | (simp only [hji28] at H ⊢; exact H)
      (try rw [hji28] at A17)
      (try rw [hji28] at A18)
      have hji28_ : (if zd < ze then ze else zd) = ji28 := hji28
      obtain ⟨ji29, hji29⟩ : ∃ j_ : Int, (wrap64 (ji11 - x11_2)) = j_ := ⟨_, rfl⟩
      replace H : (if 0 ≤ (ji29) then (if (ji29) < (x10_2.length : Int) then (spread_Two.l1 k2 l0 l1 ji11 (x10_2.set ((ji29) : Int).toNat (ji28)) (wrap64 (x11_2 + 1))) else (none)) else (none)) = some (r1, r2) := by first | (rw [hji29] at H; exact H) | (simp only [hji29] at H ⊢; exact H)
      (try rw [hji29] at A17)
      (try rw [hji29] at A18)
      have hji29w : (IntKind.i64.wrap (ji11 - x11_2)) = ji29 := (i64_w _).trans hji29
      by_cases c30 : 0 ≤ (ji29)
      rotate_left
      ·rw [if_neg c30] at H
       exact absurd H (by simp)
      rw [if_pos c30] at H
      have c30b0 : decide (0 ≤ (ji29)) = true := decide_eq_true c30
      clear c30
      by_cases c31 : (ji29) < (x10_2.length : Int)
      rotate_left
      ·rw [if_neg c31] at H
       exact absurd H (by simp)
      rw [if_pos c31] at H
      have c31b0 : decide ((ji29) < (x10_2.length : Int)) = true := decide_eq_true c31
      clear c31
      obtain ⟨zy, zq⟩ : ∃ y_ : List Int, y_ = (x10_2.set ((ji29) : Int).toNat (ji28)) := ⟨_, rfl⟩
      replace H : (spread_Two.l1 k2 l0 l1 ji11 zy (wrap64 (x11_2 + 1))) = some (r1, r2) := pH zq H
      have Ny207 := aM zq
      clear zq
      have H' := aM H
      clear H
      go_wp2_with (first | ((with_reducible refine gate_callee (f := 92) rfl ?_); refine goesL_ (some 43) rfl rfl Try.func92 (by kernel_rfl) rfl #[.slice A0 l0.length c0, .int .i64 x11_2] rfl pA ?_; (with_reducible refine (spread_size.calls _ _ l0 x11_2 zd _ ?s1 ?s2 A17.out).mono ?_); (case s1 => exact pC (Kd.V_reads' zb.out).2.2); (case s2 => exact (Kd.V_reads' zb.out).2.1); rintro e w' ⟨rfl, ⟨nd, rfl⟩⟩; refine ⟨_, rfl, ?_⟩; (try (rw [drewN_self wr]; generalize hq_ : World.drewN wr _ = wr; have n0_ : Aside0 (Kd.V (Kd.int .i64) 3 wr w.heap.size (fun k_ => ((P0_ k_ ∨ P1_ k_) ∨ w.heap.size ≤ k_) ∧ some k_ ≠ (zg : Value).ownBlock) (.slice A0 l0.length c0) l0) := ⟨by rw [← hq_]; exact (pV zb.out)⟩; have n1_ : Aside0 (Kd.V (Kd.int .i64) 3 wr w.heap.size (fun k_ => ((P0_ k_ ∨ P1_ k_) ∨ w.heap.size ≤ k_) ∧ some k_ ≠ (zg : Value).ownBlock) (.slice A1 l1.length c1) l1) := ⟨by rw [← hq_]; exact (pV zc.out)⟩; have n2_ : Aside0 (Kd.R (Kd.int .i64) 3 wr w.heap.size (fun k_ => (w.heap.size ≤ k_)) zg x10_2) := ⟨by rw [← hq_]; exact (pR za.out)⟩; have n3_ : Aside0 (Below w.heap.size w wr) := ⟨by rw [← hq_]; exact (qB HB)⟩; clear zb zc za HB hq_; have zb := n0_; have zc := n1_; have za := n2_; have HB := n3_; clear n0_ n1_ n2_ n3_))) | ((with_reducible refine gate_callee (f := 92) rfl ?_); refine goesL_ (some 46) rfl rfl Try.func92 (by kernel_rfl) rfl #[.slice A1 l1.length c1, .int .i64 x11_2] rfl pA ?_; (with_reducible refine (spread_size.calls _ _ l1 x11_2 ze _ ?s1 ?s2 A18.out).mono ?_); (case s1 => exact pC (Kd.V_reads' zc.out).2.2); (case s2 => exact (Kd.V_reads' zc.out).2.1); rintro e w' ⟨rfl, ⟨nd, rfl⟩⟩; refine ⟨_, rfl, ?_⟩; (try (rw [drewN_self wr]; generalize hq_ : World.drewN wr _ = wr; have n0_ : Aside0 (Kd.V (Kd.int .i64) 3 wr w.heap.size (fun k_ => ((P0_ k_ ∨ P1_ k_) ∨ w.heap.size ≤ k_) ∧ some k_ ≠ (zg : Value).ownBlock) (.slice A0 l0.length c0) l0) := ⟨by rw [← hq_]; exact (pV zb.out)⟩; have n1_ : Aside0 (Kd.V (Kd.int .i64) 3 wr w.heap.size (fun k_ => ((P0_ k_ ∨ P1_ k_) ∨ w.heap.size ≤ k_) ∧ some k_ ≠ (zg : Value).ownBlock) (.slice A1 l1.length c1) l1) := ⟨by rw [← hq_]; exact (pV zc.out)⟩; have n2_ : Aside0 (Kd.R (Kd.int .i64) 3 wr w.heap.size (fun k_ => (w.heap.size ≤ k_)) zg x10_2) := ⟨by rw [← hq_]; exact (pR za.out)⟩; have n3_ : Aside0 (Below w.heap.size w wr) := ⟨by rw [← hq_]; exact (qB HB)⟩; clear zb zc za HB hq_; have zb := n0_; have zc := n1_; have za := n2_; have HB := n3_; clear n0_ n1_ n2_ n3_)); have p32 : 0 ≤ ((ji29) : Int) := of_decide_eq_true pD; have q32 : ((ji29) : Int) < ((x10_2.length : Int) : Int) := of_decide_eq_true pD; obtain ⟨go32, zr, z7, z8, gl32, cl32, HG32⟩ := Kd.R_form za.out (by omega); (first | cases z7 | (injection z7 with ea_ en_ ec_; (first | subst ea_ | (injection ea_ with ea_; subst ea_)); subst ec_; clear en_)); have GB32 := aM z8; have GG32 := aM HG32; clear z8 gl32 HG32; obtain ⟨hx32_0, hf32_0⟩ := Kd.R_celln 0 za.out ((ji29) : Int) p32 q32; replace p32 := eq_true p32; replace q32 := eq_true q32; obtain ⟨hy33_, hz33_⟩ := Kd.R_celln 0 za.out ((ji29) : Int) (of_decide_eq_true pD) (of_decide_eq_true pD); have HP33 := Kd.R_putg za.out ((ji29) : Int) ji28) | ((with_reducible refine gate_store (t := 3) (p := 65) rfl ?_); refine store_event (t := 3) (p := 65) (v := ?vo_w34) (w1 := (wr.setCell ⟨go32, ((ji29) : Int).toNat, none⟩ (.int .i64 ji28))) ?hg ?ho ?hn ?hr ?_; (case ho => rfl); (case hg => rfl); (case hn => rfl); (case hr => first | (go_simp; done) | (go_simp; rfl)); intro w34 hw; have hg : wr.grownBy w34 (some go32) := (by rw [hw]; exact HP33.2); have hp_ : Kd.R (Kd.int .i64) 3 w34 w.heap.size (fun k_ => (w.heap.size ≤ k_)) (.slice (some ⟨go32, 0, none⟩) x10_2.length zr) zy := (by rw [hw, Ny207.out]; exact HP33.1); clear HP33; replace zb := aM (Kd.V_afterv (v := (.slice (some ⟨go32, 0, none⟩) x10_2.length zr)) (v1 := (.slice (some ⟨go32, 0, none⟩) x10_2.length zr)) (ok := (fun k_ => ((P0_ k_ ∨ P1_ k_) ∨ w.heap.size ≤ k_))) (pV zb.out) hg (.inl rfl)); replace zc := aM (Kd.V_afterv (v := (.slice (some ⟨go32, 0, none⟩) x10_2.length zr)) (v1 := (.slice (some ⟨go32, 0, none⟩) x10_2.length zr)) (ok := (fun k_ => ((P0_ k_ ∨ P1_ k_) ∨ w.heap.size ≤ k_))) (pV zc.out) hg (.inl rfl)); replace za := aM (hp_); replace HB := aM ((by rw [hw]; exact below_set (HB.out) GB32.out : Below w.heap.size w w34)); clear hg hw hp_))
      go_roundg k2
      case measure => have := HK1.out; have := HK2.out; omega
      case rel => exact ⟨(zy), (wrap64 (x11_2 + 1)), (pF), H', ⟨by have := HK1.out; have := HK2.out; omega⟩, ⟨pV zb.out⟩, ⟨pV zc.out⟩, ⟨pR za.out⟩, ⟨qB HB⟩⟩
     rw [if_neg c27] at H
     have c27b0 : (zd == 1) = false := beq_eq_false_iff_ne.mpr c27
     have c27b1 : (zd != 1) = true := bne_iff_ne.mpr c27
     by_cases c35 : ze = 1
     rotate_left
     ·rw [if_neg c35] at H
      have c35b0 : (ze == 1) = false := beq_eq_false_iff_ne.mpr c35
      have c35b1 : (ze != 1) = true := bne_iff_ne.mpr c35
      simp only [Option.some.injEq, Prod.mk.injEq] at H
      obtain ⟨rfl, rfl⟩ := H
      go_wp2_with (first | ((with_reducible refine gate_callee (f := 92) rfl ?_); refine goesL_ (some 43) rfl rfl Try.func92 (by kernel_rfl) rfl #[.slice A0 l0.length c0, .int .i64 x11_2] rfl pA ?_; (with_reducible refine (spread_size.calls _ _ l0 x11_2 zd _ ?s1 ?s2 A17.out).mono ?_); (case s1 => exact pC (Kd.V_reads' zb.out).2.2); (case s2 => exact (Kd.V_reads' zb.out).2.1); rintro e w' ⟨rfl, ⟨nd, rfl⟩⟩; refine ⟨_, rfl, ?_⟩) | ((with_reducible refine gate_callee (f := 92) rfl ?_); refine goesL_ (some 46) rfl rfl Try.func92 (by kernel_rfl) rfl #[.slice A1 l1.length c1, .int .i64 x11_2] rfl pA ?_; (with_reducible refine (spread_size.calls _ _ l1 x11_2 ze _ ?s1 ?s2 A18.out).mono ?_); (case s1 => exact pC (Kd.V_reads' zc.out).2.2); (case s2 => exact (Kd.V_reads' zc.out).2.1); rintro e w' ⟨rfl, ⟨nd, rfl⟩⟩; refine ⟨_, rfl, ?_⟩))
      go_ret2
      exact ⟨_, by first | rfl | (simp [errW_none, errW_some] <;> rfl) | (simp only [← hji11]; first | rfl | (simp [errW_none, errW_some] <;> rfl)) | (simp [*, errW_none, errW_some] <;> rfl), pN, qB HB⟩
     rw [if_pos c35] at H
     have c35b0 : (ze == 1) = true := beq_iff_eq.mpr c35
     have c35b1 : (ze != 1) = false := bne_eq_false_iff_eq.mpr c35
     clear c35
     obtain ⟨ji36, hji36⟩ : ∃ j_ : Int, (mx zd ze) = j_ := ⟨_, rfl⟩
     replace H : (if 0 ≤ (wrap64 (ji11 - x11_2)) then (if (wrap64 (ji11 - x11_2)) < (x10_2.length : Int) then (spread_Two.l1 k2 l0 l1 ji11 (x10_2.set ((wrap64 (ji11 - x11_2)) : Int).toNat (ji36)) (wrap64 (x11_2 + 1))) else (none)) else (none)) = some (r1, r2) := by first | (rw [hji36] at H; exact H) | (simp only [hji36] at H ⊢; exact H)
     (try rw [hji36] at A17)
     (try rw [hji36] at A18)
     have hji36_ : (if zd < ze then ze else zd) = ji36 := hji36
     obtain ⟨ji37, hji37⟩ : ∃ j_ : Int, (wrap64 (ji11 - x11_2)) = j_ := ⟨_, rfl⟩
     replace H : (if 0 ≤ (ji37) then (if (ji37) < (x10_2.length : Int) then (spread_Two.l1 k2 l0 l1 ji11 (x10_2.set ((ji37) : Int).toNat (ji36)) (wrap64 (x11_2 + 1))) else (none)) else (none)) = some (r1, r2) := by first | (rw [hji37] at H; exact H) | (simp only [hji37] at H ⊢; exact H)
     (try rw [hji37] at A17)
     (try rw [hji37] at A18)
     have hji37w : (IntKind.i64.wrap (ji11 - x11_2)) = ji37 := (i64_w _).trans hji37
     by_cases c38 : 0 ≤ (ji37)
     rotate_left
     ·rw [if_neg c38] at H
      exact absurd H (by simp)
     rw [if_pos c38] at H
     have c38b0 : decide (0 ≤ (ji37)) = true := decide_eq_true c38
     clear c38
     by_cases c39 : (ji37) < (x10_2.length : Int)
     rotate_left
     ·rw [if_neg c39] at H
      exact absurd H (by simp)
     rw [if_pos c39] at H
     have c39b0 : decide ((ji37) < (x10_2.length : Int)) = true := decide_eq_true c39
     clear c39
     obtain ⟨zz, zs⟩ : ∃ y_ : List Int, y_ = (x10_2.set ((ji37) : Int).toNat (ji36)) := ⟨_, rfl⟩
     replace H : (spread_Two.l1 k2 l0 l1 ji11 zz (wrap64 (x11_2 + 1))) = some (r1, r2) := pH zs H
     have Ny208 := aM zs
     clear zs
     have H' := aM H
     clear H
     go_wp2_with (first | ((with_reducible refine gate_callee (f := 92) rfl ?_); refine goesL_ (some 43) rfl rfl Try.func92 (by kernel_rfl) rfl #[.slice A0 l0.length c0, .int .i64 x11_2] rfl pA ?_; (with_reducible refine (spread_size.calls _ _ l0 x11_2 zd _ ?s1 ?s2 A17.out).mono ?_); (case s1 => exact pC (Kd.V_reads' zb.out).2.2); (case s2 => exact (Kd.V_reads' zb.out).2.1); rintro e w' ⟨rfl, ⟨nd, rfl⟩⟩; refine ⟨_, rfl, ?_⟩; (try (rw [drewN_self wr]; generalize hq_ : World.drewN wr _ = wr; have n0_ : Aside0 (Kd.V (Kd.int .i64) 3 wr w.heap.size (fun k_ => ((P0_ k_ ∨ P1_ k_) ∨ w.heap.size ≤ k_) ∧ some k_ ≠ (zg : Value).ownBlock) (.slice A0 l0.length c0) l0) := ⟨by rw [← hq_]; exact (pV zb.out)⟩; have n1_ : Aside0 (Kd.V (Kd.int .i64) 3 wr w.heap.size (fun k_ => ((P0_ k_ ∨ P1_ k_) ∨ w.heap.size ≤ k_) ∧ some k_ ≠ (zg : Value).ownBlock) (.slice A1 l1.length c1) l1) := ⟨by rw [← hq_]; exact (pV zc.out)⟩; have n2_ : Aside0 (Kd.R (Kd.int .i64) 3 wr w.heap.size (fun k_ => (w.heap.size ≤ k_)) zg x10_2) := ⟨by rw [← hq_]; exact (pR za.out)⟩; have n3_ : Aside0 (Below w.heap.size w wr) := ⟨by rw [← hq_]; exact (qB HB)⟩; clear zb zc za HB hq_; have zb := n0_; have zc := n1_; have za := n2_; have HB := n3_; clear n0_ n1_ n2_ n3_))) | ((with_reducible refine gate_callee (f := 92) rfl ?_); refine goesL_ (some 46) rfl rfl Try.func92 (by kernel_rfl) rfl #[.slice A1 l1.length c1, .int .i64 x11_2] rfl pA ?_; (with_reducible refine (spread_size.calls _ _ l1 x11_2 ze _ ?s1 ?s2 A18.out).mono ?_); (case s1 => exact pC (Kd.V_reads' zc.out).2.2); (case s2 => exact (Kd.V_reads' zc.out).2.1); rintro e w' ⟨rfl, ⟨nd, rfl⟩⟩; refine ⟨_, rfl, ?_⟩; (try (rw [drewN_self wr]; generalize hq_ : World.drewN wr _ = wr; have n0_ : Aside0 (Kd.V (Kd.int .i64) 3 wr w.heap.size (fun k_ => ((P0_ k_ ∨ P1_ k_) ∨ w.heap.size ≤ k_) ∧ some k_ ≠ (zg : Value).ownBlock) (.slice A0 l0.length c0) l0) := ⟨by rw [← hq_]; exact (pV zb.out)⟩; have n1_ : Aside0 (Kd.V (Kd.int .i64) 3 wr w.heap.size (fun k_ => ((P0_ k_ ∨ P1_ k_) ∨ w.heap.size ≤ k_) ∧ some k_ ≠ (zg : Value).ownBlock) (.slice A1 l1.length c1) l1) := ⟨by rw [← hq_]; exact (pV zc.out)⟩; have n2_ : Aside0 (Kd.R (Kd.int .i64) 3 wr w.heap.size (fun k_ => (w.heap.size ≤ k_)) zg x10_2) := ⟨by rw [← hq_]; exact (pR za.out)⟩; have n3_ : Aside0 (Below w.heap.size w wr) := ⟨by rw [← hq_]; exact (qB HB)⟩; clear zb zc za HB hq_; have zb := n0_; have zc := n1_; have za := n2_; have HB := n3_; clear n0_ n1_ n2_ n3_)); have p40 : 0 ≤ ((ji37) : Int) := of_decide_eq_true pD; have q40 : ((ji37) : Int) < ((x10_2.length : Int) : Int) := of_decide_eq_true pD; obtain ⟨go40, zt, z9, zaa, gl40, cl40, HG40⟩ := Kd.R_form za.out (by omega); (first | cases z9 | (injection z9 with ea_ en_ ec_; (first | subst ea_ | (injection ea_ with ea_; subst ea_)); subst ec_; clear en_)); have GB40 := aM zaa; have GG40 := aM HG40; clear zaa gl40 HG40; obtain ⟨hx40_0, hf40_0⟩ := Kd.R_celln 0 za.out ((ji37) : Int) p40 q40; replace p40 := eq_true p40; replace q40 := eq_true q40; obtain ⟨hy41_, hz41_⟩ := Kd.R_celln 0 za.out ((ji37) : Int) (of_decide_eq_true pD) (of_decide_eq_true pD); have HP41 := Kd.R_putg za.out ((ji37) : Int) ji36) | ((with_reducible refine gate_store (t := 3) (p := 65) rfl ?_); refine store_event (t := 3) (p := 65) (v := ?vo_w42) (w1 := (wr.setCell ⟨go40, ((ji37) : Int).toNat, none⟩ (.int .i64 ji36))) ?hg ?ho ?hn ?hr ?_; (case ho => rfl); (case hg => rfl); (case hn => rfl); (case hr => first | (go_simp; done) | (go_simp; rfl)); intro w42 hw; have hg : wr.grownBy w42 (some go40) := (by rw [hw]; exact HP41.2); have hp_ : Kd.R (Kd.int .i64) 3 w42 w.heap.size (fun k_ => (w.heap.size ≤ k_)) (.slice (some ⟨go40, 0, none⟩) x10_2.length zt) zz := (by rw [hw, Ny208.out]; exact HP41.1); clear HP41; replace zb := aM (Kd.V_afterv (v := (.slice (some ⟨go40, 0, none⟩) x10_2.length zt)) (v1 := (.slice (some ⟨go40, 0, none⟩) x10_2.length zt)) (ok := (fun k_ => ((P0_ k_ ∨ P1_ k_) ∨ w.heap.size ≤ k_))) (pV zb.out) hg (.inl rfl)); replace zc := aM (Kd.V_afterv (v := (.slice (some ⟨go40, 0, none⟩) x10_2.length zt)) (v1 := (.slice (some ⟨go40, 0, none⟩) x10_2.length zt)) (ok := (fun k_ => ((P0_ k_ ∨ P1_ k_) ∨ w.heap.size ≤ k_))) (pV zc.out) hg (.inl rfl)); replace za := aM (hp_); replace HB := aM ((by rw [hw]; exact below_set (HB.out) GB40.out : Below w.heap.size w w42)); clear hg hw hp_))
     go_roundg k2
     case measure => have := HK1.out; have := HK2.out; omega
     case rel => exact ⟨(zz), (wrap64 (x11_2 + 1)), (pF), H', ⟨by have := HK1.out; have := HK2.out; omega⟩, ⟨pV zb.out⟩, ⟨pV zc.out⟩, ⟨pR za.out⟩, ⟨qB HB⟩⟩
def spread_Fits.f (k : Nat) (l0 : List Int) (l1 : List Int) : Option (Bool) := (spread_Two.f k l0 l1).bind fun bt212 => (if bt212.2 = 0 then ((shape_Same.f k bt212.1 l1).bind fun zc => (some zc)) else (some false))
set_option maxHeartbeats 8000000 in
set_option maxRecDepth 100000 in
theorem spread_Fits.calls (k : Nat) (A0 : Option Addr) (c0 : Nat) (l0 : List Int) (A1 : Option Addr) (c1 : Nat) (l1 : List Int) (r : Bool) (w : World) (hr0 : Kd.C (Kd.int .i64) w A0 l0.length l0) (hc0 : l0.length ≤ c0) (hr1 : Kd.C (Kd.int .i64) w A1 l1.length l1) (hc1 : l1.length ≤ c1) (h : spread_Fits.f k l0 l1 = some r) :
  Calls Try.prog 73 #[.slice A0 l0.length c0, .slice A1 l1.length c1] w fun e w' => e = .returned (.bool r) ∧ Below w.heap.size w w' := by
 have HR0 := aM hr0
 have HC0 := aM hc0
 clear hr0 hc0
 have HR1 := aM hr1
 have HC1 := aM hc1
 clear hr1 hc1
 have HB := aM (Below.refl w.heap.size w)
 have H : ((spread_Two.f k l0 l1).bind fun bt212 => (if bt212.2 = 0 then ((shape_Same.f k bt212.1 l1).bind fun zc => (some zc)) else (some false))) = some r := h
 clear h
 replace H := Option.bind_eq_some_iff.mp H
 obtain ⟨⟨zd, za⟩, A30, H⟩ := H
 try dsimp only at H
 have A3 := aM A30
 clear A30
 by_cases c4 : za = 0
 rotate_left
 ·rw [if_neg c4] at H
  have c4b0 : (za == 0) = false := beq_eq_false_iff_ne.mpr c4
  have c4b1 : (za != 0) = true := bne_iff_ne.mpr c4
  obtain rfl := Option.some.inj H
  go_enter Try.func73, Try.ntmps73
  go_wp2_with (first | ((with_reducible refine gate_callee (f := 75) rfl ?_); refine goesL_ (some 10) rfl rfl Try.func75 (by kernel_rfl) rfl #[.slice A0 l0.length c0, .slice A1 l1.length c1] rfl pA ?_; (with_reducible refine (spread_Two.calls k (fun k_ => k_ < w.heap.size) _ _ l0 (fun k_ => k_ < w.heap.size) _ _ l1 zd za _ ?s1 ?s2 A3.out).mono ?_); (case s1 => exact Kd.V_mk HC0.out (Kd.F_below (Kd.C_F (Kd.heap_int .i64) HR0.out) (qB HB))); (case s2 => exact Kd.V_mk HC1.out (Kd.F_below (Kd.C_F (Kd.heap_int .i64) HR1.out) (qB HB))); rintro e w8 ⟨v213, rfl, ho0, hb⟩; refine ⟨_, rfl, ?_⟩; have zb := aM (Kd.R_lower (Kd.R_mono (ok' := fun k_ => True) ho0 (fun _ hk_ => trivial)) (below_size (qB HB))); replace HB := bS (qB HB) hb; (try clear hb); (try clear hk); (try clear hi); (try clear ho0)))
  go_ret
  exact ⟨pE, qB HB⟩
 rw [if_pos c4] at H
 have c4b0 : (za == 0) = true := beq_iff_eq.mpr c4
 have c4b1 : (za != 0) = false := bne_eq_false_iff_eq.mpr c4
 clear c4
 replace H := Option.bind_eq_some_iff.mp H
 obtain ⟨zc, A50, H⟩ := H
 try dsimp only at H
 have A5 := aM A50
 clear A50
 obtain rfl := Option.some.inj H
 go_enter Try.func73, Try.ntmps73
 go_wp2_with (first | ((with_reducible refine gate_callee (f := 75) rfl ?_); refine goesL_ (some 10) rfl rfl Try.func75 (by kernel_rfl) rfl #[.slice A0 l0.length c0, .slice A1 l1.length c1] rfl pA ?_; (with_reducible refine (spread_Two.calls k (fun k_ => k_ < w.heap.size) _ _ l0 (fun k_ => k_ < w.heap.size) _ _ l1 zd za _ ?s1 ?s2 A3.out).mono ?_); (case s1 => exact Kd.V_mk HC0.out (Kd.F_below (Kd.C_F (Kd.heap_int .i64) HR0.out) (qB HB))); (case s2 => exact Kd.V_mk HC1.out (Kd.F_below (Kd.C_F (Kd.heap_int .i64) HR1.out) (qB HB))); rintro e w6 ⟨v213, rfl, ho0, hb⟩; refine ⟨_, rfl, ?_⟩; have zb := aM (Kd.R_lower (Kd.R_mono (ok' := fun k_ => True) ho0 (fun _ hk_ => trivial)) (below_size (qB HB))); replace HB := bS (qB HB) hb; (try clear hb); (try clear hk); (try clear hi); (try clear ho0); obtain ⟨Ao7, co7, eo7⟩ := Kd.R_slice zb.out; subst eo7) | (go_at_call 90; (with_reducible refine (shape_Same.calls k _ _ zd _ _ l1 zc _ ?s1 ?s2 ?s3 ?s4 A5.out).mono ?_); (case s1 => exact sR zb); (case s2 => exact sL zb); (case s3 => exact sC HR1 HB); (case s4 => exact HC1.out); rintro e w' ⟨rfl, ⟨nd, rfl⟩⟩))
 go_ret
 exact ⟨pE, qB HB⟩
def view_Expand.l0 : Nat → Int → List Int → Int → Int → Int → List Int → List Int → Int → List Int → List Int → Option (Int × List Int × List Int × Int)
 | 0, _, _, _, _, _, _, _, _, _, _ => none
 | k + 1, x8, x42, x43, x44, zag, zah, z3, z9, zaa, z4 => if x44 < x43 then (if 0 ≤ x44 then (if x44 < (x42.length : Int) then (if (rd x42 x44) > 1 then (if x44 < (z3.length : Int) then (if 0 ≤ (wrap64 (x8 + x44)) then (if (wrap64 (x8 + x44)) < (z4.length : Int) then (view_Expand.l0 k x8 x42 x43 (wrap64 (x44 + 1)) zag zah z3 z9 zaa (z4.set ((wrap64 (x8 + x44)) : Int).toNat (rd z3 x44))) else (none)) else (none)) else (none)) else (view_Expand.l0 k x8 x42 x43 (wrap64 (x44 + 1)) zag zah z3 z9 zaa z4)) else (none)) else (none)) else (some (z9, zaa, z4, 0))
def view_Expand.f (k : Nat) (a0_0 : Int) (l0_1 : List Int) (l0_2 : List Int) (l1 : List Int) : Option (Int × List Int × List Int × Int) := (view_right.f k a0_0 l0_1 l0_2).bind fun zaj => (if zaj = true then ((shape_Check.f l1).bind fun z0 => (if z0 = 0 then ((spread_Fits.f k l0_1 l1).bind fun zak => (if zak = true then ((slices_Clone_int_int.f l1).bind fun zw => (if 0 ≤ (l1.length : Int) then (if ((l1.length : Int) : Int).toNat ≤ 35184372088832 then (view_Expand.l0 k (wrap64 ((l1.length : Int) - (l0_1.length : Int))) l0_1 (l0_1.length : Int) 0 a0_0 l0_1 l0_2 a0_0 zw (List.replicate ((l1.length : Int) : Int).toNat 0)) else (none)) else (none))) else (some (0, ([] : List Int), ([] : List Int), 8)))) else (some (0, ([] : List Int), ([] : List Int), z0)))) else (some (0, ([] : List Int), ([] : List Int), 1)))
def view_Expand.T8 : Bool × List (List Nat × List Nat) := (true, [([], []), ([0], [0]), ([], []), ([2], [2]), ([], []), ([4], [4]), ([5, 5], [5]), ([1, 3, 6], [1, 3, 6]), ([], []), ([8, 7, 3, 0, 1, 2, 3, 4, 5, 6, 7, 8], [7, 8])])
def view_Expand.B8 : List Nat := [0, 1, 0, 4, 0, 16, 48, 127, 0, 511]
theorem view_Expand.tab8 : rtab .any (opsOf Try.f46 8) = view_Expand.T8 := by kernel_rfl
theorem view_Expand.bits8 : waitsOk view_Expand.T8.2 view_Expand.B8 = true := by kernel_rfl
def view_Expand.T14 : Bool × List (List Nat × List Nat) := (true, [([], []), ([0], [0]), ([], []), ([], []), ([2, 3], [2, 3]), ([], []), ([5], [5]), ([], []), ([6, 7], [6, 7]), ([8], [8]), ([1, 4, 0, 1, 2, 3, 4, 5, 6, 7, 8, 9], [1, 4]), ([10, 9, 0, 1, 2, 3, 4, 5, 6, 7, 8, 9], [9, 10])])
def view_Expand.B14 : List Nat := [0, 1, 0, 0, 12, 0, 32, 0, 224, 480, 1023, 2047]
theorem view_Expand.tab14 : rtab .any (opsOf Try.f46 14) = view_Expand.T14 := by kernel_rfl
theorem view_Expand.bits14 : waitsOk view_Expand.T14.2 view_Expand.B14 = true := by kernel_rfl
set_option maxHeartbeats 8000000 in
set_option maxRecDepth 100000 in
theorem view_Expand.calls (k : Nat) (a0_0 : Int) (A0_1 : Option Addr) (c0_1 : Nat) (l0_1 : List Int) (A0_2 : Option Addr) (c0_2 : Nat) (l0_2 : List Int) (A1 : Option Addr) (c1 : Nat) (l1 : List Int) (r1 : Int) (r2 : List Int) (r3 : List Int) (r4 : Int) (w : World) (hr0_1 : Kd.C (Kd.int .i64) w A0_1 l0_1.length l0_1) (hc0_1 : l0_1.length ≤ c0_1) (hr0_2 : Kd.C (Kd.int .i64) w A0_2 l0_2.length l0_2) (hc0_2 : l0_2.length ≤ c0_2) (hr1 : Kd.C (Kd.int .i64) w A1 l1.length l1) (hc1 : l1.length ≤ c1) (h : view_Expand.f k a0_0 l0_1 l0_2 l1 = some (r1, r2, r3, r4)) :
  Calls Try.prog 46 #[.agg #[.int .i64 a0_0, .slice A0_1 l0_1.length c0_1, .slice A0_2 l0_2.length c0_2], .slice A1 l1.length c1] w fun e w' => ∃ v1_ v2_ : Value, e = .returned (.tuple #[.agg #[.int .i64 r1, v1_, v2_], .int .i64 r4]) ∧ Kd.R (Kd.int .i64) 3 w' w.heap.size (fun k_ => some k_ ≠ (v2_ : Value).ownBlock) v1_ r2 ∧ Kd.R (Kd.int .i64) 3 w' w.heap.size (fun k_ => some k_ ≠ (v1_ : Value).ownBlock) v2_ r3 ∧ Below w.heap.size w w' := by
 have hu44 := Try.underlying44
 have z1 := aM hr0_1
 have z8 := aM hc0_1
 clear hr0_1 hc0_1
 have zac := aM hr0_2
 have zai := aM hc0_2
 clear hr0_2 hc0_2
 have HR1 := aM hr1
 have HC1 := aM hc1
 clear hr1 hc1
 have HB := aM (Below.refl w.heap.size w)
 have H : ((view_right.f k a0_0 l0_1 l0_2).bind fun zaj => (if zaj = true then ((shape_Check.f l1).bind fun z0 => (if z0 = 0 then ((spread_Fits.f k l0_1 l1).bind fun zak => (if zak = true then ((slices_Clone_int_int.f l1).bind fun zw => (if 0 ≤ (l1.length : Int) then (if ((l1.length : Int) : Int).toNat ≤ 35184372088832 then (view_Expand.l0 k (wrap64 ((l1.length : Int) - (l0_1.length : Int))) l0_1 (l0_1.length : Int) 0 a0_0 l0_1 l0_2 a0_0 zw (List.replicate ((l1.length : Int) : Int).toNat 0)) else (none)) else (none))) else (some (0, ([] : List Int), ([] : List Int), 8)))) else (some (0, ([] : List Int), ([] : List Int), z0)))) else (some (0, ([] : List Int), ([] : List Int), 1)))) = some (r1, r2, r3, r4) := h
 clear h
 replace H := Option.bind_eq_some_iff.mp H
 obtain ⟨zaj, A30, H⟩ := H
 try dsimp only at H
 have A3 := aM A30
 clear A30
 by_cases c4 : zaj = true
 rotate_left
 ·replace c4 := Bool.eq_false_iff.mpr c4
  subst c4
  rw [if_neg (show ¬ (false = true) by decide)] at H
  simp only [Option.some.injEq, Prod.mk.injEq] at H
  obtain ⟨rfl, rfl, rfl, rfl⟩ := H
  go_enter Try.func46, Try.ntmps46
  go_wp2_with (first | ((with_reducible refine gate_dst (N := 2) rfl ?_); refine box_event ?hg (N := 2) ?hd (cs := #[.int .i64 a0_0, .slice A0_1 l0_1.length c0_1, .slice A0_2 l0_2.length c0_2]) (t := 44) ?hr ?_; (case hd => rfl); (case hg => rfl); (case hr => first | (go_simp; done) | (go_simp; rfl)); intro zc hg w66 hbox hb; have za := aM (hbox); have z5 := gE (w := w) hg (qB HB); have ze := z5; replace HB := bS (qB HB) hb; clear hb hbox hg) | ((with_reducible refine gate_dst (N := 4) rfl ?_); refine box_event ?hg (N := 4) ?hd (cs := #[.int .i64 0, .slice none 0 0, .slice none 0 0]) (t := 44) ?hr ?_; (case hd => rfl); (case hg => rfl); (case hr => first | (go_simp; done) | (go_simp; rfl)); intro zl hg w67 hbox hb; have zb := aM (hbox); have z6 := gE (w := w) hg (qB1 HB ze); have zg := z6; replace HB := bS (qB1 HB ze) hb; have zr := nL hg za; have zs := nG hg za; replace za := bK za hb; clear hb hbox hg; have hnb68 := zr.out; have hnc68 := zs.out; obtain ⟨hcz69_0, hcz69_1, hcz69_2, hfz69_0, hfz69_1, hfz69_2⟩ := blk3 za.out) | ((with_reducible refine gate_callee (f := 49) rfl ?_); refine goesL_ (some 12) rfl rfl Try.func49 (by kernel_rfl) rfl #[.agg #[.int .i64 a0_0, .slice A0_1 l0_1.length c0_1, .slice A0_2 l0_2.length c0_2]] rfl pA ?_; (with_reducible refine (view_right.calls k a0_0 _ _ l0_1 _ _ l0_2 false _ ?s1 ?s2 ?s3 ?s4 A3.out).mono ?_); (case s1 => exact sC z1 HB); (case s2 => exact z8.out); (case s3 => exact sC zac HB); (case s4 => exact zai.out); rintro e w70 ⟨rfl, hb⟩; refine ⟨_, rfl, ?_⟩; replace za := bK za hb; replace zb := bK zb hb; replace HB := bS (qB2 HB ze zg) hb; (try clear hb); (try clear hk); (try clear hi); obtain ⟨hcz71_0, hcz71_1, hcz71_2, hfz71_0, hfz71_1, hfz71_2⟩ := blk3 zb.out))
  refine bodyPost_ret (results_ct rfl _ _ zl 44 #[.int .i64 0, .slice none 0 0, .slice none 0 0] (0, 0) _ rfl (by exact P3 zb) Try.underlying44 rfl (by kernel_rfl)) rfl ?_
  exact ⟨_, _, pE, pN, pN, qB2 HB ze zg⟩
 subst c4
 rw [if_pos rfl] at H
 replace H := Option.bind_eq_some_iff.mp H
 obtain ⟨z0, A50, H⟩ := H
 try dsimp only at H
 have A5 := aM A50
 clear A50
 by_cases c6 : z0 = 0
 rotate_left
 ·rw [if_neg c6] at H
  have c6b0 : (z0 == 0) = false := beq_eq_false_iff_ne.mpr c6
  have c6b1 : (z0 != 0) = true := bne_iff_ne.mpr c6
  simp only [Option.some.injEq, Prod.mk.injEq] at H
  obtain ⟨rfl, rfl, rfl, rfl⟩ := H
  go_enter Try.func46, Try.ntmps46
  go_wp2_with (first | ((with_reducible refine gate_dst (N := 2) rfl ?_); refine box_event ?hg (N := 2) ?hd (cs := #[.int .i64 a0_0, .slice A0_1 l0_1.length c0_1, .slice A0_2 l0_2.length c0_2]) (t := 44) ?hr ?_; (case hd => rfl); (case hg => rfl); (case hr => first | (go_simp; done) | (go_simp; rfl)); intro zc hg w60 hbox hb; have za := aM (hbox); have z5 := gE (w := w) hg (qB HB); have ze := z5; replace HB := bS (qB HB) hb; clear hb hbox hg) | ((with_reducible refine gate_dst (N := 4) rfl ?_); refine box_event ?hg (N := 4) ?hd (cs := #[.int .i64 0, .slice none 0 0, .slice none 0 0]) (t := 44) ?hr ?_; (case hd => rfl); (case hg => rfl); (case hr => first | (go_simp; done) | (go_simp; rfl)); intro zl hg w61 hbox hb; have zb := aM (hbox); have z6 := gE (w := w) hg (qB1 HB ze); have zg := z6; replace HB := bS (qB1 HB ze) hb; have zr := nL hg za; have zs := nG hg za; replace za := bK za hb; clear hb hbox hg; have hnb62 := zr.out; have hnc62 := zs.out; obtain ⟨hcz63_0, hcz63_1, hcz63_2, hfz63_0, hfz63_1, hfz63_2⟩ := blk3 za.out) | ((with_reducible refine gate_callee (f := 49) rfl ?_); refine goesL_ (some 12) rfl rfl Try.func49 (by kernel_rfl) rfl #[.agg #[.int .i64 a0_0, .slice A0_1 l0_1.length c0_1, .slice A0_2 l0_2.length c0_2]] rfl pA ?_; (with_reducible refine (view_right.calls k a0_0 _ _ l0_1 _ _ l0_2 true _ ?s1 ?s2 ?s3 ?s4 A3.out).mono ?_); (case s1 => exact sC z1 HB); (case s2 => exact z8.out); (case s3 => exact sC zac HB); (case s4 => exact zai.out); rintro e w64 ⟨rfl, hb⟩; refine ⟨_, rfl, ?_⟩; replace za := bK za hb; replace zb := bK zb hb; replace HB := bS (qB2 HB ze zg) hb; (try clear hb); (try clear hk); (try clear hi)) | ((with_reducible refine gate_callee (f := 31) rfl ?_); refine goesL_ (some 16) rfl rfl Try.func31 (by kernel_rfl) rfl #[.slice A1 l1.length c1] rfl pA ?_; (with_reducible refine (shape_Check.calls _ _ l1 z0 _ ?s1 ?s2 A5.out).mono ?_); (case s1 => exact sC HR1 HB); (case s2 => exact HC1.out); rintro e w' ⟨rfl, ⟨nd, rfl⟩⟩; refine ⟨_, rfl, ?_⟩; (try (rw [drewN_self w64]; generalize hq_ : World.drewN w64 _ = w64; have n0_ : Aside0 (w64.heap[zc]? = some (.cells #[.int .i64 a0_0, .slice A0_1 l0_1.length c0_1, .slice A0_2 l0_2.length c0_2] 44 (0, 0))) := ⟨by rw [← hq_]; exact (pK za.out)⟩; have n1_ : Aside0 (w64.heap[zl]? = some (.cells #[.int .i64 0, .slice none 0 0, .slice none 0 0] 44 (0, 0))) := ⟨by rw [← hq_]; exact (pK zb.out)⟩; have n2_ : Aside0 (Below w.heap.size w w64) := ⟨by rw [← hq_]; exact (qB2 HB ze zg)⟩; clear za zb HB hq_; have za := n0_; have zb := n1_; have HB := n2_; clear n0_ n1_ n2_)); obtain ⟨hcz65_0, hcz65_1, hcz65_2, hfz65_0, hfz65_1, hfz65_2⟩ := blk3 zb.out))
  refine bodyPost_ret (results_ct rfl _ _ zl 44 #[.int .i64 0, .slice none 0 0, .slice none 0 0] (0, 0) _ rfl (by exact P3 zb) Try.underlying44 rfl (by kernel_rfl)) rfl ?_
  exact ⟨_, _, pE, pN, pN, qB2 HB ze zg⟩
 rw [if_pos c6] at H
 have c6b0 : (z0 == 0) = true := beq_iff_eq.mpr c6
 have c6b1 : (z0 != 0) = false := bne_eq_false_iff_eq.mpr c6
 clear c6
 replace H := Option.bind_eq_some_iff.mp H
 obtain ⟨zak, A70, H⟩ := H
 try dsimp only at H
 have A7 := aM A70
 clear A70
 by_cases c8 : zak = true
 rotate_left
 ·replace c8 := Bool.eq_false_iff.mpr c8
  subst c8
  rw [if_neg (show ¬ (false = true) by decide)] at H
  simp only [Option.some.injEq, Prod.mk.injEq] at H
  obtain ⟨rfl, rfl, rfl, rfl⟩ := H
  go_enter Try.func46, Try.ntmps46
  go_wp2_with (first | ((with_reducible refine gate_dst (N := 2) rfl ?_); refine box_event ?hg (N := 2) ?hd (cs := #[.int .i64 a0_0, .slice A0_1 l0_1.length c0_1, .slice A0_2 l0_2.length c0_2]) (t := 44) ?hr ?_; (case hd => rfl); (case hg => rfl); (case hr => first | (go_simp; done) | (go_simp; rfl)); intro zc hg w52 hbox hb; have za := aM (hbox); have z5 := gE (w := w) hg (qB HB); have ze := z5; replace HB := bS (qB HB) hb; clear hb hbox hg) | ((with_reducible refine gate_dst (N := 4) rfl ?_); refine box_event ?hg (N := 4) ?hd (cs := #[.int .i64 0, .slice none 0 0, .slice none 0 0]) (t := 44) ?hr ?_; (case hd => rfl); (case hg => rfl); (case hr => first | (go_simp; done) | (go_simp; rfl)); intro zl hg w53 hbox hb; have zb := aM (hbox); have z6 := gE (w := w) hg (qB1 HB ze); have zg := z6; replace HB := bS (qB1 HB ze) hb; have zr := nL hg za; have zs := nG hg za; replace za := bK za hb; clear hb hbox hg; have hnb54 := zr.out; have hnc54 := zs.out; obtain ⟨hcz55_0, hcz55_1, hcz55_2, hfz55_0, hfz55_1, hfz55_2⟩ := blk3 za.out) | ((with_reducible refine gate_callee (f := 49) rfl ?_); refine goesL_ (some 12) rfl rfl Try.func49 (by kernel_rfl) rfl #[.agg #[.int .i64 a0_0, .slice A0_1 l0_1.length c0_1, .slice A0_2 l0_2.length c0_2]] rfl pA ?_; (with_reducible refine (view_right.calls k a0_0 _ _ l0_1 _ _ l0_2 true _ ?s1 ?s2 ?s3 ?s4 A3.out).mono ?_); (case s1 => exact sC z1 HB); (case s2 => exact z8.out); (case s3 => exact sC zac HB); (case s4 => exact zai.out); rintro e w56 ⟨rfl, hb⟩; refine ⟨_, rfl, ?_⟩; replace za := bK za hb; replace zb := bK zb hb; replace HB := bS (qB2 HB ze zg) hb; (try clear hb); (try clear hk); (try clear hi)) | ((with_reducible refine gate_callee (f := 31) rfl ?_); refine goesL_ (some 16) rfl rfl Try.func31 (by kernel_rfl) rfl #[.slice A1 l1.length c1] rfl pA ?_; (with_reducible refine (shape_Check.calls _ _ l1 z0 _ ?s1 ?s2 A5.out).mono ?_); (case s1 => exact sC HR1 HB); (case s2 => exact HC1.out); rintro e w' ⟨rfl, ⟨nd, rfl⟩⟩; refine ⟨_, rfl, ?_⟩; (try (rw [drewN_self w56]; generalize hq_ : World.drewN w56 _ = w56; have n0_ : Aside0 (w56.heap[zc]? = some (.cells #[.int .i64 a0_0, .slice A0_1 l0_1.length c0_1, .slice A0_2 l0_2.length c0_2] 44 (0, 0))) := ⟨by rw [← hq_]; exact (pK za.out)⟩; have n1_ : Aside0 (w56.heap[zl]? = some (.cells #[.int .i64 0, .slice none 0 0, .slice none 0 0] 44 (0, 0))) := ⟨by rw [← hq_]; exact (pK zb.out)⟩; have n2_ : Aside0 (Below w.heap.size w w56) := ⟨by rw [← hq_]; exact (qB2 HB ze zg)⟩; clear za zb HB hq_; have za := n0_; have zb := n1_; have HB := n2_; clear n0_ n1_ n2_)); obtain ⟨hcz57_0, hcz57_1, hcz57_2, hfz57_0, hfz57_1, hfz57_2⟩ := blk3 za.out) | ((with_reducible refine gate_callee (f := 73) rfl ?_); refine goesL_ (some 24) rfl rfl Try.func73 (by kernel_rfl) rfl #[.slice A0_1 l0_1.length c0_1, .slice A1 l1.length c1] rfl pA ?_; (with_reducible refine (spread_Fits.calls k _ _ l0_1 _ _ l1 false _ ?s1 ?s2 ?s3 ?s4 A7.out).mono ?_); (case s1 => exact sC z1 HB); (case s2 => exact z8.out); (case s3 => exact sC HR1 HB); (case s4 => exact HC1.out); rintro e w58 ⟨rfl, hb⟩; refine ⟨_, rfl, ?_⟩; replace za := bK za hb; replace zb := bK zb hb; replace HB := bS (qB2 HB ze zg) hb; (try clear hb); (try clear hk); (try clear hi); obtain ⟨hcz59_0, hcz59_1, hcz59_2, hfz59_0, hfz59_1, hfz59_2⟩ := blk3 zb.out))
  refine bodyPost_ret (results_ct rfl _ _ zl 44 #[.int .i64 0, .slice none 0 0, .slice none 0 0] (0, 0) _ rfl (by exact P3 zb) Try.underlying44 rfl (by kernel_rfl)) rfl ?_
  exact ⟨_, _, pE, pN, pN, qB2 HB ze zg⟩
 subst c8
 rw [if_pos rfl] at H
 replace H := Option.bind_eq_some_iff.mp H
 obtain ⟨zw, A90, H⟩ := H
 try dsimp only at H
 have A9 := aM A90
 clear A90
 by_cases c10 : 0 ≤ (l1.length : Int)
 rotate_left
 ·rw [if_neg c10] at H
  exact absurd H (by simp)
 rw [if_pos c10] at H
 have c10b0 := eq_true c10
 have c10b1 : decide (0 ≤ (l1.length : Int)) = true := decide_eq_true c10
 clear c10
 by_cases c11 : ((l1.length : Int) : Int).toNat ≤ 35184372088832
 rotate_left
 ·rw [if_neg c11] at H
  exact absurd H (by simp)
 rw [if_pos c11] at H
 have c11b0 := eq_true c11
 have c11b1 : decide (((l1.length : Int) : Int).toNat ≤ 35184372088832) = true := decide_eq_true c11
 clear c11
 obtain ⟨zx, zal⟩ : ∃ y_ : List Int, y_ = (List.replicate ((l1.length : Int) : Int).toNat 0) := ⟨_, rfl⟩
 replace H : (view_Expand.l0 k (wrap64 ((l1.length : Int) - (l0_1.length : Int))) l0_1 (l0_1.length : Int) 0 a0_0 l0_1 l0_2 a0_0 zw zx) = some (r1, r2, r3, r4) := pH zal H
 have z2 := aM zal
 clear zal
 have H' := aM H
 clear H
 go_enter Try.func46, Try.ntmps46
 try go_wp2_with (first | ((with_reducible refine gate_dst (N := 2) rfl ?_); refine box_event ?hg (N := 2) ?hd (cs := #[.int .i64 a0_0, .slice A0_1 l0_1.length c0_1, .slice A0_2 l0_2.length c0_2]) (t := 44) ?hr ?_; (case hd => rfl); (case hg => rfl); (case hr => first | (go_simp; done) | (go_simp; rfl)); intro zc hg w12 hbox hb; have za := aM (hbox); have z5 := gE (w := w) hg (qB HB); have ze := z5; replace HB := bS (qB HB) hb; clear hb hbox hg) | ((with_reducible refine gate_dst (N := 4) rfl ?_); refine box_event ?hg (N := 4) ?hd (cs := #[.int .i64 0, .slice none 0 0, .slice none 0 0]) (t := 44) ?hr ?_; (case hd => rfl); (case hg => rfl); (case hr => first | (go_simp; done) | (go_simp; rfl)); intro zl hg w13 hbox hb; have zb := aM (hbox); have z6 := gE (w := w) hg (qB1 HB ze); have zg := z6; replace HB := bS (qB1 HB ze) hb; have zr := nL hg za; have zs := nG hg za; replace za := bK za hb; clear hb hbox hg; have hnb14 := zr.out; have hnc14 := zs.out; obtain ⟨hcz15_0, hcz15_1, hcz15_2, hfz15_0, hfz15_1, hfz15_2⟩ := blk3 za.out) | ((with_reducible refine gate_callee (f := 49) rfl ?_); refine goesL_ (some 12) rfl rfl Try.func49 (by kernel_rfl) rfl #[.agg #[.int .i64 a0_0, .slice A0_1 l0_1.length c0_1, .slice A0_2 l0_2.length c0_2]] rfl pA ?_; (with_reducible refine (view_right.calls k a0_0 _ _ l0_1 _ _ l0_2 true _ ?s1 ?s2 ?s3 ?s4 A3.out).mono ?_); (case s1 => exact sC z1 HB); (case s2 => exact z8.out); (case s3 => exact sC zac HB); (case s4 => exact zai.out); rintro e w16 ⟨rfl, hb⟩; refine ⟨_, rfl, ?_⟩; replace za := bK za hb; replace zb := bK zb hb; replace HB := bS (qB2 HB ze zg) hb; (try clear hb); (try clear hk); (try clear hi)) | ((with_reducible refine gate_callee (f := 31) rfl ?_); refine goesL_ (some 16) rfl rfl Try.func31 (by kernel_rfl) rfl #[.slice A1 l1.length c1] rfl pA ?_; (with_reducible refine (shape_Check.calls _ _ l1 z0 _ ?s1 ?s2 A5.out).mono ?_); (case s1 => exact sC HR1 HB); (case s2 => exact HC1.out); rintro e w' ⟨rfl, ⟨nd, rfl⟩⟩; refine ⟨_, rfl, ?_⟩; (try (rw [drewN_self w16]; generalize hq_ : World.drewN w16 _ = w16; have n0_ : Aside0 (w16.heap[zc]? = some (.cells #[.int .i64 a0_0, .slice A0_1 l0_1.length c0_1, .slice A0_2 l0_2.length c0_2] 44 (0, 0))) := ⟨by rw [← hq_]; exact (pK za.out)⟩; have n1_ : Aside0 (w16.heap[zl]? = some (.cells #[.int .i64 0, .slice none 0 0, .slice none 0 0] 44 (0, 0))) := ⟨by rw [← hq_]; exact (pK zb.out)⟩; have n2_ : Aside0 (Below w.heap.size w w16) := ⟨by rw [← hq_]; exact (qB2 HB ze zg)⟩; clear za zb HB hq_; have za := n0_; have zb := n1_; have HB := n2_; clear n0_ n1_ n2_)); obtain ⟨hcz17_0, hcz17_1, hcz17_2, hfz17_0, hfz17_1, hfz17_2⟩ := blk3 za.out) | ((with_reducible refine gate_callee (f := 73) rfl ?_); refine goesL_ (some 24) rfl rfl Try.func73 (by kernel_rfl) rfl #[.slice A0_1 l0_1.length c0_1, .slice A1 l1.length c1] rfl pA ?_; (with_reducible refine (spread_Fits.calls k _ _ l0_1 _ _ l1 true _ ?s1 ?s2 ?s3 ?s4 A7.out).mono ?_); (case s1 => exact sC z1 HB); (case s2 => exact z8.out); (case s3 => exact sC HR1 HB); (case s4 => exact HC1.out); rintro e w18 ⟨rfl, hb⟩; refine ⟨_, rfl, ?_⟩; replace za := bK za hb; replace zb := bK zb hb; replace HB := bS (qB2 HB ze zg) hb; (try clear hb); (try clear hk); (try clear hi)))
 replace za := aM (blk_drew za.out)
 replace zb := aM (blk_drew zb.out)
 replace HB := aM (below_drew1 HB.out)
 refine start_ (n := 10) (S := fun w' => w'.cell? ⟨zc, 0, none⟩ = some (.int .i64 a0_0) ∧ w'.cell? ⟨zc, 1, none⟩ = some (.slice A0_1 l0_1.length c0_1) ∧ w'.cell? ⟨zc, 2, none⟩ = some (.slice A0_2 l0_2.length c0_2)) (ds := []) (bm 10 0) (by kernel_rfl) rfl rfl (h3 za) (fun hHeld => ?_); refine with_tabW view_Expand.tab8 view_Expand.bits8 (fun HT_ HW_ => ?_)
 generalize w18.drew = w19 at za zb HB hHeld ⊢
 refine pP (i := 0) (N := some 27) (bm 10 1) rfl rfl HT_.out ?_
 refine pP (i := 2) (N := some 29) (bm 10 5) rfl rfl HT_.out ?_
 refine pP (i := 4) (N := some 31) (bm 10 21) rfl rfl HT_.out ?_
 refine pP (i := 5) (N := some 32) (bm 10 53) rfl rfl HT_.out ?_
 refine pT (i := 1) (N := some 28) (bm 10 55) rfl rfl HT_.out HW_.out hHeld (by rintro w' ⟨s0, s1, s2⟩; go_simp; with_reducible rfl) ?_
 refine join_ (σ := Value × Value × Nat) 1 (bm 10 511) (fun s_ => [(30, s_.1), (33, s_.2.1), (7, .pointer (some ⟨s_.2.2, 0, none⟩)), (34, .agg #[.int .i64 a0_0, s_.1, s_.2.1])]) (fun s_ w' => (w'.cell? ⟨zc, 0, none⟩ = some (.int .i64 a0_0) ∧ w'.cell? ⟨zc, 1, none⟩ = some (.slice A0_1 l0_1.length c0_1) ∧ w'.cell? ⟨zc, 2, none⟩ = some (.slice A0_2 l0_2.length c0_2)) ∧ (Kd.R (Kd.int .i64) 3 w' w.heap.size (fun k_ => some k_ ≠ (s_.2.1 : Value).ownBlock) s_.1 zw) ∧ (Kd.R (Kd.int .i64) 3 w' w.heap.size (fun k_ => some k_ ≠ (s_.1 : Value).ownBlock) s_.2.1 zx) ∧ (w'.heap[zc]? = some (.cells #[.int .i64 a0_0, .slice A0_1 l0_1.length c0_1, .slice A0_2 l0_2.length c0_2] 44 (0, 0))) ∧ (w'.heap[zl]? = some (.cells #[.int .i64 0, .slice none 0 0, .slice none 0 0] 44 (0, 0))) ∧ (w'.heap[s_.2.2]? = some (.cells #[.int .i64 0, .slice none 0 0, .slice none 0 0] 44 (0, 0))) ∧ (w.heap.size ≤ s_.2.2) ∧ (w.heap.size ≤ s_.2.2) ∧ (zc ≠ s_.2.2) ∧ (s_.2.2 ≠ zc) ∧ (zl ≠ s_.2.2) ∧ (s_.2.2 ≠ zl) ∧ (Below w.heap.size w w')) ?_ ?_
 rotate_left
 ·intro zab
  refine join_ (σ := Value × Value) 2 (bm 10 255) (fun s_ => [(30, s_.1), (33, s_.2), (34, .agg #[.int .i64 a0_0, s_.1, s_.2])]) (fun s_ w' => (w'.cell? ⟨zc, 0, none⟩ = some (.int .i64 a0_0) ∧ w'.cell? ⟨zc, 1, none⟩ = some (.slice A0_1 l0_1.length c0_1) ∧ w'.cell? ⟨zc, 2, none⟩ = some (.slice A0_2 l0_2.length c0_2)) ∧ (Kd.R (Kd.int .i64) 3 w' w.heap.size (fun k_ => some k_ ≠ (s_.2 : Value).ownBlock) s_.1 zw) ∧ (Kd.R (Kd.int .i64) 3 w' w.heap.size (fun k_ => some k_ ≠ (s_.1 : Value).ownBlock) s_.2 zx) ∧ (w'.heap[zc]? = some (.cells #[.int .i64 a0_0, .slice A0_1 l0_1.length c0_1, .slice A0_2 l0_2.length c0_2] 44 (0, 0))) ∧ (w'.heap[zl]? = some (.cells #[.int .i64 0, .slice none 0 0, .slice none 0 0] 44 (0, 0))) ∧ (Below w.heap.size w w')) ?_ ?_
  rotate_left
  ·intro zar
   refine join_ (σ := Value × Nat) 3 (bm 10 319) (fun s_ => [(30, s_.1), (7, .pointer (some ⟨s_.2, 0, none⟩))]) (fun s_ w' => (w'.cell? ⟨zc, 0, none⟩ = some (.int .i64 a0_0) ∧ w'.cell? ⟨zc, 1, none⟩ = some (.slice A0_1 l0_1.length c0_1) ∧ w'.cell? ⟨zc, 2, none⟩ = some (.slice A0_2 l0_2.length c0_2)) ∧ (Kd.R (Kd.int .i64) 3 w' w.heap.size (fun _ => True) s_.1 zw) ∧ (w'.heap[zc]? = some (.cells #[.int .i64 a0_0, .slice A0_1 l0_1.length c0_1, .slice A0_2 l0_2.length c0_2] 44 (0, 0))) ∧ (w'.heap[zl]? = some (.cells #[.int .i64 0, .slice none 0 0, .slice none 0 0] 44 (0, 0))) ∧ (w'.heap[s_.2]? = some (.cells #[.int .i64 0, .slice none 0 0, .slice none 0 0] 44 (0, 0))) ∧ (w.heap.size ≤ s_.2) ∧ (w.heap.size ≤ s_.2) ∧ (zc ≠ s_.2) ∧ (s_.2 ≠ zc) ∧ (zl ≠ s_.2) ∧ (s_.2 ≠ zl) ∧ (Below w.heap.size w w')) ?_ ?_
   rotate_left
   ·intro zas
    refine join_ (σ := Value × Nat) 3 (bm 10 375) (fun s_ => [(33, s_.1), (7, .pointer (some ⟨s_.2, 0, none⟩))]) (fun s_ w' => (w'.cell? ⟨zc, 0, none⟩ = some (.int .i64 a0_0) ∧ w'.cell? ⟨zc, 1, none⟩ = some (.slice A0_1 l0_1.length c0_1) ∧ w'.cell? ⟨zc, 2, none⟩ = some (.slice A0_2 l0_2.length c0_2)) ∧ (Kd.R (Kd.int .i64) 3 w' w.heap.size (fun _ => True) s_.1 zx) ∧ (w'.heap[zc]? = some (.cells #[.int .i64 a0_0, .slice A0_1 l0_1.length c0_1, .slice A0_2 l0_2.length c0_2] 44 (0, 0))) ∧ (w'.heap[zl]? = some (.cells #[.int .i64 0, .slice none 0 0, .slice none 0 0] 44 (0, 0))) ∧ (w'.heap[s_.2]? = some (.cells #[.int .i64 0, .slice none 0 0, .slice none 0 0] 44 (0, 0))) ∧ (w.heap.size ≤ s_.2) ∧ (w.heap.size ≤ s_.2) ∧ (zc ≠ s_.2) ∧ (s_.2 ≠ zc) ∧ (zl ≠ s_.2) ∧ (s_.2 ≠ zl) ∧ (Below w.heap.size w w')) ?_ ?_
    rotate_left
    ·intro zat
     refine join_ (σ := Value) 4 (bm 10 63) (fun s_ => [(30, s_)]) (fun s_ w' => (w'.cell? ⟨zc, 0, none⟩ = some (.int .i64 a0_0) ∧ w'.cell? ⟨zc, 1, none⟩ = some (.slice A0_1 l0_1.length c0_1) ∧ w'.cell? ⟨zc, 2, none⟩ = some (.slice A0_2 l0_2.length c0_2)) ∧ (Kd.R (Kd.int .i64) 3 w' w.heap.size (fun _ => True) s_ zw) ∧ (w'.heap[zc]? = some (.cells #[.int .i64 a0_0, .slice A0_1 l0_1.length c0_1, .slice A0_2 l0_2.length c0_2] 44 (0, 0))) ∧ (w'.heap[zl]? = some (.cells #[.int .i64 0, .slice none 0 0, .slice none 0 0] 44 (0, 0))) ∧ (Below w.heap.size w w')) ?_ ?_
     rotate_left
     ·intro hJ3
      refine join_ (σ := Value) 4 (bm 10 119) (fun s_ => [(33, s_)]) (fun s_ w' => (w'.cell? ⟨zc, 0, none⟩ = some (.int .i64 a0_0) ∧ w'.cell? ⟨zc, 1, none⟩ = some (.slice A0_1 l0_1.length c0_1) ∧ w'.cell? ⟨zc, 2, none⟩ = some (.slice A0_2 l0_2.length c0_2)) ∧ (Kd.R (Kd.int .i64) 3 w' w.heap.size (fun _ => True) s_ zx) ∧ (w'.heap[zc]? = some (.cells #[.int .i64 a0_0, .slice A0_1 l0_1.length c0_1, .slice A0_2 l0_2.length c0_2] 44 (0, 0))) ∧ (w'.heap[zl]? = some (.cells #[.int .i64 0, .slice none 0 0, .slice none 0 0] 44 (0, 0))) ∧ (Below w.heap.size w w')) ?_ ?_
      rotate_left
      ·intro hJ6
       refine join_ (σ := Nat) 4 (bm 10 311) (fun s_ => [(7, .pointer (some ⟨s_, 0, none⟩))]) (fun s_ w' => (w'.cell? ⟨zc, 0, none⟩ = some (.int .i64 a0_0) ∧ w'.cell? ⟨zc, 1, none⟩ = some (.slice A0_1 l0_1.length c0_1) ∧ w'.cell? ⟨zc, 2, none⟩ = some (.slice A0_2 l0_2.length c0_2)) ∧ (w'.heap[zc]? = some (.cells #[.int .i64 a0_0, .slice A0_1 l0_1.length c0_1, .slice A0_2 l0_2.length c0_2] 44 (0, 0))) ∧ (w'.heap[zl]? = some (.cells #[.int .i64 0, .slice none 0 0, .slice none 0 0] 44 (0, 0))) ∧ (w'.heap[s_]? = some (.cells #[.int .i64 0, .slice none 0 0, .slice none 0 0] 44 (0, 0))) ∧ (w.heap.size ≤ s_) ∧ (w.heap.size ≤ s_) ∧ (zc ≠ s_) ∧ (s_ ≠ zc) ∧ (zl ≠ s_) ∧ (s_ ≠ zl) ∧ (Below w.heap.size w w')) ?_ ?_
       rotate_left
       ·intro hJ8
        refine three_ (i := 3) (j := 6) (k := 8) (Ni := some 30) (Nj := some 33) (Nk := some 7) (bm 10 63) (bm 10 119) (bm 10 311) rfl rfl rfl rfl rfl rfl (three_of HT_.out (by kernel_rfl)) (by decide) (by decide) (by decide) (fun K hK => ?_) (fun K hK => ?_) (fun K hK => ?_)
        ·skip
         refine goes_ Try.func42 (by kernel_rfl) rfl #[.slice A1 l1.length c1] (by rfl) rfl rfl pA ?_
         with_reducible refine (slices_Clone_int_int.calls _ _ l1 zw _ ?s1 ?s2 A9.out).mono ?_
         (case s1 => exact sC HR1 HB)
         (case s2 => exact HC1.out)
         rintro e w20 ⟨zy, rfl, ho0, hb⟩
         refine ⟨_, rfl, ?_⟩
         have zn := aM (Kd.R_lower ho0 (below_size (qB2 HB ze zg)))
         replace za := bK za hb
         replace zb := bK zb hb
         replace HB := bS (qB2 HB ze zg) hb
         (try clear hb)
         (try clear hk)
         (try clear hi)
         (try clear ho0)
         refine hK.out _ _ (h3 za) (fun hHeld => ?_)
         clear hK K
         refine norm_ (a' := ?_) ?_ ?_
         rotate_left
         ·show Act.put _ (some 30) _ = _
          simp only [Act.put, sP, i64_w, i32_w]
          rfl
         exact norm_ (by first | (simp only [putAll, Act.put, sP]; done) | (simp only [putAll, Act.put, sP]; rfl)) (hJ3 (zy) _ ⟨hHeld, (pR zn.out), (pK za.out), (pK zb.out), (qB2 HB ze zg)⟩)
        ·skip
         refine Kd.R_make_step (Kd.int .i64) _ 3 (by rfl) (N := 33) rfl 22 _ _ rfl (l1.length : Int) rfl rfl Try.underlying22 (.int .i64 0) 8 info3 rfl (by decide) (by omega) 0 (ok := fun _ => True) (okp := fun _ => True) rfl (fun _ hk => hk) trivial (of_decide_eq_true pD) (Nat.le_trans (Nat.mul_le_mul_right _ (of_decide_eq_true pD : (l1.length : Int).toNat ≤ 35184372088832)) (by omega)) (Below.refl _ _) (Nat.le_refl _) ?_
         intro zz w20 ho21 hb hg_ hnew_
         clear hg_ hnew_
         (first | rw [← z2.out] at ho21 | (simp only [Int.reduceToNat] at ho21; rw [← z2.out] at ho21))
         have zo := aM (Kd.R_lower ho21 (below_size (qB2 HB ze zg)))
         replace za := bK za hb
         replace zb := bK zb hb
         replace HB := bS (qB2 HB ze zg) hb
         clear hb ho21
         refine hK.out _ _ (h3 za) (fun hHeld => ?_)
         clear hK K
         refine norm_ (a' := ?_) ?_ ?_
         rotate_left
         ·show Act.put _ (some 33) _ = _
          simp only [Act.put, sP, i64_w, i32_w]
          rfl
         exact norm_ (by first | (simp only [putAll, Act.put, sP]; done) | (simp only [putAll, Act.put, sP]; rfl)) (hJ6 (zz) _ ⟨hHeld, (pR zo.out), (pK za.out), (pK zb.out), (qB2 HB ze zg)⟩)
        ·skip
         refine box_step ?hg (N := 7) ?hd (cs := #[.int .i64 0, .slice none 0 0, .slice none 0 0]) (t := 44) ?hr ?_; (case hd => rfl); (case hg => rfl); (case hr => first | (go_simp; done) | (go_simp; rfl))
         intro zf hg w20 hbox hb
         have zk := aM (hbox)
         have zu := gE (w := w) hg (qB2 HB ze zg)
         have zm := zu
         replace HB := bS (qB2 HB ze zg) hb
         have zd := nL hg za
         have zh := nG hg za
         replace za := bK za hb
         have zi := nL hg zb
         have zj := nG hg zb
         replace zb := bK zb hb
         clear hb hbox hg
         refine hK.out _ _ (h3 za) (fun hHeld => ?_)
         clear hK K
         refine norm_ (a' := ?_) ?_ ?_
         rotate_left
         ·show Act.put _ (some 7) _ = _
          simp only [Act.put, sP, i64_w, i32_w]
          rfl
         exact norm_ (by first | (simp only [putAll, Act.put, sP]; done) | (simp only [putAll, Act.put, sP]; rfl)) (hJ8 (zf) _ ⟨hHeld, (pK za.out), (pK zb.out), (pK zk.out), zu.out, zm.out, zd.out, zh.out, zi.out, zj.out, (qB3 HB ze zg zm)⟩)
       ·skip
        rintro zf w21 ⟨hS_, h0_, h1_, h2_, h3_, h4_, h5_, h6_, h7_, h8_, h9_⟩
        have n0_ : Aside0 (w21.heap[zc]? = some (.cells #[.int .i64 a0_0, .slice A0_1 l0_1.length c0_1, .slice A0_2 l0_2.length c0_2] 44 (0, 0))) := ⟨h0_⟩
        have n1_ : Aside0 (w21.heap[zl]? = some (.cells #[.int .i64 0, .slice none 0 0, .slice none 0 0] 44 (0, 0))) := ⟨h1_⟩
        have n2_ : Aside0 (w21.heap[zf]? = some (.cells #[.int .i64 0, .slice none 0 0, .slice none 0 0] 44 (0, 0))) := ⟨h2_⟩
        have n3_ : Aside0 (w.heap.size ≤ zf) := ⟨h3_⟩
        have n4_ : Aside0 (w.heap.size ≤ zf) := ⟨h4_⟩
        have n5_ : Aside0 (zc ≠ zf) := ⟨h5_⟩
        have n6_ : Aside0 (zf ≠ zc) := ⟨h6_⟩
        have n7_ : Aside0 (zl ≠ zf) := ⟨h7_⟩
        have n8_ : Aside0 (zf ≠ zl) := ⟨h8_⟩
        have n9_ : Aside0 (Below w.heap.size w w21) := ⟨h9_⟩
        clear za
        clear zb
        clear HB
        clear h0_ h1_ h2_ h3_ h4_ h5_ h6_ h7_ h8_ h9_
        have za := n0_
        have zb := n1_
        have zk := n2_
        have zu := n3_
        have zm := n4_
        have zd := n5_
        have zh := n6_
        have zi := n7_
        have zj := n8_
        have HB := n9_
        clear n0_ n1_ n2_ n3_ n4_ n5_ n6_ n7_ n8_ n9_
        have hHeld : w21.cell? ⟨zc, 0, none⟩ = some (.int .i64 a0_0) ∧ w21.cell? ⟨zc, 1, none⟩ = some (.slice A0_1 l0_1.length c0_1) ∧ w21.cell? ⟨zc, 2, none⟩ = some (.slice A0_2 l0_2.length c0_2) := hS_
        refine norm_ (a' := ?_) ?_ ?_
        rotate_left
        ·simp only [putAll, Act.put, sP]
         rfl
        refine two_ (i := 3) (j := 6) (Ni := some 30) (Nj := some 33) (bm 10 319) (bm 10 375) rfl rfl rfl rfl (two_of HT_.out (by kernel_rfl)) (by decide) (by decide) (fun K hK => ?_) (fun K hK => ?_)
        ·skip
         refine goes_ Try.func42 (by kernel_rfl) rfl #[.slice A1 l1.length c1] (by rfl) rfl rfl pA ?_
         with_reducible refine (slices_Clone_int_int.calls _ _ l1 zw _ ?s1 ?s2 A9.out).mono ?_
         (case s1 => exact sC HR1 HB)
         (case s2 => exact HC1.out)
         rintro e w22 ⟨zy, rfl, ho0, hb⟩
         refine ⟨_, rfl, ?_⟩
         have zn := aM (Kd.R_lower ho0 (below_size (qB3 HB ze zg zm)))
         replace za := bK za hb
         replace zb := bK zb hb
         replace zk := bK zk hb
         replace HB := bS (qB3 HB ze zg zm) hb
         (try clear hb)
         (try clear ho0)
         refine hK.out _ _ (h3 za) (fun hHeld => ?_)
         clear hK K
         refine norm_ (a' := ?_) ?_ ?_
         rotate_left
         ·show Act.put _ (some 30) _ = _
          simp only [Act.put, sP, i64_w, i32_w]
          rfl
         exact norm_ (by first | (simp only [putAll, Act.put, sP]; done) | (simp only [putAll, Act.put, sP]; rfl)) (zas (zy, zf) _ ⟨hHeld, (pR zn.out), (pK za.out), (pK zb.out), (pK zk.out), zu.out, zm.out, zd.out, zh.out, zi.out, zj.out, (qB3 HB ze zg zm)⟩)
        ·skip
         refine Kd.R_make_step (Kd.int .i64) _ 3 (by rfl) (N := 33) rfl 22 _ _ rfl (l1.length : Int) rfl rfl Try.underlying22 (.int .i64 0) 8 info3 rfl (by decide) (by omega) 0 (ok := fun _ => True) (okp := fun _ => True) rfl (fun _ hk => hk) trivial (of_decide_eq_true pD) (Nat.le_trans (Nat.mul_le_mul_right _ (of_decide_eq_true pD : (l1.length : Int).toNat ≤ 35184372088832)) (by omega)) (Below.refl _ _) (Nat.le_refl _) ?_
         intro zz w22 ho23 hb hg_ hnew_
         clear hg_ hnew_
         (first | rw [← z2.out] at ho23 | (simp only [Int.reduceToNat] at ho23; rw [← z2.out] at ho23))
         have zo := aM (Kd.R_lower ho23 (below_size (qB3 HB ze zg zm)))
         replace za := bK za hb
         replace zb := bK zb hb
         replace zk := bK zk hb
         replace HB := bS (qB3 HB ze zg zm) hb
         clear hb ho23
         refine hK.out _ _ (h3 za) (fun hHeld => ?_)
         clear hK K
         refine norm_ (a' := ?_) ?_ ?_
         rotate_left
         ·show Act.put _ (some 33) _ = _
          simp only [Act.put, sP, i64_w, i32_w]
          rfl
         exact norm_ (by first | (simp only [putAll, Act.put, sP]; done) | (simp only [putAll, Act.put, sP]; rfl)) (zat (zz, zf) _ ⟨hHeld, (pR zo.out), (pK za.out), (pK zb.out), (pK zk.out), zu.out, zm.out, zd.out, zh.out, zi.out, zj.out, (qB3 HB ze zg zm)⟩)
      ·skip
       rintro zz w22 ⟨hS_, h0_, h1_, h2_, h3_⟩
       have n0_ : Aside0 (Kd.R (Kd.int .i64) 3 w22 w.heap.size (fun _ => True) zz zx) := ⟨h0_⟩
       have n1_ : Aside0 (w22.heap[zc]? = some (.cells #[.int .i64 a0_0, .slice A0_1 l0_1.length c0_1, .slice A0_2 l0_2.length c0_2] 44 (0, 0))) := ⟨h1_⟩
       have n2_ : Aside0 (w22.heap[zl]? = some (.cells #[.int .i64 0, .slice none 0 0, .slice none 0 0] 44 (0, 0))) := ⟨h2_⟩
       have n3_ : Aside0 (Below w.heap.size w w22) := ⟨h3_⟩
       clear za
       clear zb
       clear HB
       clear h0_ h1_ h2_ h3_
       have zo := n0_
       have za := n1_
       have zb := n2_
       have HB := n3_
       clear n0_ n1_ n2_ n3_
       have hHeld : w22.cell? ⟨zc, 0, none⟩ = some (.int .i64 a0_0) ∧ w22.cell? ⟨zc, 1, none⟩ = some (.slice A0_1 l0_1.length c0_1) ∧ w22.cell? ⟨zc, 2, none⟩ = some (.slice A0_2 l0_2.length c0_2) := hS_
       refine norm_ (a' := ?_) ?_ ?_
       rotate_left
       ·simp only [putAll, Act.put, sP]
        rfl
       refine two_ (i := 3) (j := 8) (Ni := some 30) (Nj := some 7) (bm 10 127) (bm 10 375) rfl rfl rfl rfl (two_of HT_.out (by kernel_rfl)) (by decide) (by decide) (fun K hK => ?_) (fun K hK => ?_)
       ·skip
        refine goes_ Try.func42 (by kernel_rfl) rfl #[.slice A1 l1.length c1] (by rfl) rfl rfl pA ?_
        with_reducible refine (slices_Clone_int_int.calls _ _ l1 zw _ ?s1 ?s2 A9.out).mono ?_
        (case s1 => exact sC HR1 HB)
        (case s2 => exact HC1.out)
        rintro e w23 ⟨zy, rfl, ho0, hb⟩
        refine ⟨_, rfl, ?_⟩
        have zn := aM (Kd.R_lower (Kd.R_new' ho0 (Kd.R_lt (pR zo.out))) (below_size (qB2 HB ze zg)))
        replace zo := eR zo ho0 hb
        replace za := bK za hb
        replace zb := bK zb hb
        replace HB := bS (qB2 HB ze zg) hb
        (try clear hb)
        (try clear ho0)
        obtain ⟨zau, zav, zam⟩ := Kd.R_slice zo.out
        (first | subst zam | (injection zam with f1_ f2_ f3_; have f4_ := f1_.symm; have f5_ := f3_.symm; clear f1_ f2_ f3_; subst f4_; subst f5_))
        obtain ⟨zae, zaf, z7⟩ := Kd.R_slice zn.out
        (first | subst z7 | (injection z7 with f1_ f2_ f3_; have f4_ := f1_.symm; have f5_ := f3_.symm; clear f1_ f2_ f3_; subst f4_; subst f5_))
        refine hK.out _ _ (h3 za) (fun hHeld => ?_)
        clear hK K
        refine norm_ (a' := ?_) ?_ ?_
        rotate_left
        ·show Act.put _ (some 30) _ = _
         simp only [Act.put, sP, i64_w, i32_w]
         rfl
        refine pP (i := 7) (N := some 34) (bm 10 255) rfl rfl HT_.out ?_
        exact norm_ (by first | (simp only [putAll, Act.put, sP]; done) | (simp only [putAll, Act.put, sP]; rfl)) (zar (.slice zae zw.length zaf, .slice zau zx.length zav) _ ⟨hHeld, (by (with_reducible repeat (first | apply rA | apply rN | apply rD)); exact Kd.R_mono zn.out (fun _ hk => hk.2)), (by (with_reducible repeat (first | apply rA | apply rN | apply rD)); exact Kd.R_mono zo.out (fun _ hk => hk.2)), (pK za.out), (pK zb.out), (qB2 HB ze zg)⟩)
       ·skip
        refine box_step ?hg (N := 7) ?hd (cs := #[.int .i64 0, .slice none 0 0, .slice none 0 0]) (t := 44) ?hr ?_; (case hd => rfl); (case hg => rfl); (case hr => first | (go_simp; done) | (go_simp; rfl))
        intro zf hg w23 hbox hb
        replace zo := bR zo hb
        have zk := aM (hbox)
        have zu := gE (w := w) hg (qB2 HB ze zg)
        have zm := zu
        replace HB := bS (qB2 HB ze zg) hb
        have zd := nL hg za
        have zh := nG hg za
        replace za := bK za hb
        have zi := nL hg zb
        have zj := nG hg zb
        replace zb := bK zb hb
        clear hb hbox hg
        refine hK.out _ _ (h3 za) (fun hHeld => ?_)
        clear hK K
        refine norm_ (a' := ?_) ?_ ?_
        rotate_left
        ·show Act.put _ (some 7) _ = _
         simp only [Act.put, sP, i64_w, i32_w]
         rfl
        exact norm_ (by first | (simp only [putAll, Act.put, sP]; done) | (simp only [putAll, Act.put, sP]; rfl)) (zat (zz, zf) _ ⟨hHeld, (pR zo.out), (pK za.out), (pK zb.out), (pK zk.out), zu.out, zm.out, zd.out, zh.out, zi.out, zj.out, (qB3 HB ze zg zm)⟩)
     ·skip
      rintro zy w21 ⟨hS_, h0_, h1_, h2_, h3_⟩
      have n0_ : Aside0 (Kd.R (Kd.int .i64) 3 w21 w.heap.size (fun _ => True) zy zw) := ⟨h0_⟩
      have n1_ : Aside0 (w21.heap[zc]? = some (.cells #[.int .i64 a0_0, .slice A0_1 l0_1.length c0_1, .slice A0_2 l0_2.length c0_2] 44 (0, 0))) := ⟨h1_⟩
      have n2_ : Aside0 (w21.heap[zl]? = some (.cells #[.int .i64 0, .slice none 0 0, .slice none 0 0] 44 (0, 0))) := ⟨h2_⟩
      have n3_ : Aside0 (Below w.heap.size w w21) := ⟨h3_⟩
      clear za
      clear zb
      clear HB
      clear h0_ h1_ h2_ h3_
      have zn := n0_
      have za := n1_
      have zb := n2_
      have HB := n3_
      clear n0_ n1_ n2_ n3_
      have hHeld : w21.cell? ⟨zc, 0, none⟩ = some (.int .i64 a0_0) ∧ w21.cell? ⟨zc, 1, none⟩ = some (.slice A0_1 l0_1.length c0_1) ∧ w21.cell? ⟨zc, 2, none⟩ = some (.slice A0_2 l0_2.length c0_2) := hS_
      refine norm_ (a' := ?_) ?_ ?_
      rotate_left
      ·simp only [putAll, Act.put, sP]
       rfl
      refine two_ (i := 6) (j := 8) (Ni := some 33) (Nj := some 7) (bm 10 127) (bm 10 319) rfl rfl rfl rfl (two_of HT_.out (by kernel_rfl)) (by decide) (by decide) (fun K hK => ?_) (fun K hK => ?_)
      ·skip
       refine Kd.R_make_step (Kd.int .i64) _ 3 (by rfl) (N := 33) rfl 22 _ _ rfl (l1.length : Int) rfl rfl Try.underlying22 (.int .i64 0) 8 info3 rfl (by decide) (by omega) 0 (ok := fun _ => True) (okp := fun _ => True) rfl (fun _ hk => hk) trivial (of_decide_eq_true pD) (Nat.le_trans (Nat.mul_le_mul_right _ (of_decide_eq_true pD : (l1.length : Int).toNat ≤ 35184372088832)) (by omega)) (Below.refl _ _) (Nat.le_refl _) ?_
       intro zz w22 ho23 hb hg_ hnew_
       clear hg_ hnew_
       (first | rw [← z2.out] at ho23 | (simp only [Int.reduceToNat] at ho23; rw [← z2.out] at ho23))
       have zo := aM (Kd.R_lower (Kd.R_new' ho23 (Kd.R_lt (pR zn.out))) (below_size (qB2 HB ze zg)))
       replace zn := eR zn ho23 hb
       replace za := bK za hb
       replace zb := bK zb hb
       replace HB := bS (qB2 HB ze zg) hb
       clear hb ho23
       obtain ⟨zau, zav, zam⟩ := Kd.R_slice zo.out
       (first | subst zam | (injection zam with f1_ f2_ f3_; have f4_ := f1_.symm; have f5_ := f3_.symm; clear f1_ f2_ f3_; subst f4_; subst f5_))
       obtain ⟨zae, zaf, z7⟩ := Kd.R_slice zn.out
       (first | subst z7 | (injection z7 with f1_ f2_ f3_; have f4_ := f1_.symm; have f5_ := f3_.symm; clear f1_ f2_ f3_; subst f4_; subst f5_))
       refine hK.out _ _ (h3 za) (fun hHeld => ?_)
       clear hK K
       refine norm_ (a' := ?_) ?_ ?_
       rotate_left
       ·show Act.put _ (some 33) _ = _
        simp only [Act.put, sP, i64_w, i32_w]
        rfl
       refine pP (i := 7) (N := some 34) (bm 10 255) rfl rfl HT_.out ?_
       exact norm_ (by first | (simp only [putAll, Act.put, sP]; done) | (simp only [putAll, Act.put, sP]; rfl)) (zar (.slice zae zw.length zaf, .slice zau zx.length zav) _ ⟨hHeld, (by (with_reducible repeat (first | apply rA | apply rN | apply rD)); exact Kd.R_mono zn.out (fun _ hk => hk.2)), (by (with_reducible repeat (first | apply rA | apply rN | apply rD)); exact Kd.R_mono zo.out (fun _ hk => hk.2)), (pK za.out), (pK zb.out), (qB2 HB ze zg)⟩)
      ·skip
       refine box_step ?hg (N := 7) ?hd (cs := #[.int .i64 0, .slice none 0 0, .slice none 0 0]) (t := 44) ?hr ?_; (case hd => rfl); (case hg => rfl); (case hr => first | (go_simp; done) | (go_simp; rfl))
       intro zf hg w22 hbox hb
       replace zn := bR zn hb
       have zk := aM (hbox)
       have zu := gE (w := w) hg (qB2 HB ze zg)
       have zm := zu
       replace HB := bS (qB2 HB ze zg) hb
       have zd := nL hg za
       have zh := nG hg za
       replace za := bK za hb
       have zi := nL hg zb
       have zj := nG hg zb
       replace zb := bK zb hb
       clear hb hbox hg
       refine hK.out _ _ (h3 za) (fun hHeld => ?_)
       clear hK K
       refine norm_ (a' := ?_) ?_ ?_
       rotate_left
       ·show Act.put _ (some 7) _ = _
        simp only [Act.put, sP, i64_w, i32_w]
        rfl
       exact norm_ (by first | (simp only [putAll, Act.put, sP]; done) | (simp only [putAll, Act.put, sP]; rfl)) (zas (zy, zf) _ ⟨hHeld, (pR zn.out), (pK za.out), (pK zb.out), (pK zk.out), zu.out, zm.out, zd.out, zh.out, zi.out, zj.out, (qB3 HB ze zg zm)⟩)
    ·skip
     rintro ⟨zz, zf⟩ w23 ⟨hS_, h0_, h1_, h2_, h3_, h4_, h5_, h6_, h7_, h8_, h9_, h10_⟩
     have n0_ : Aside0 (Kd.R (Kd.int .i64) 3 w23 w.heap.size (fun _ => True) zz zx) := ⟨h0_⟩
     have n1_ : Aside0 (w23.heap[zc]? = some (.cells #[.int .i64 a0_0, .slice A0_1 l0_1.length c0_1, .slice A0_2 l0_2.length c0_2] 44 (0, 0))) := ⟨h1_⟩
     have n2_ : Aside0 (w23.heap[zl]? = some (.cells #[.int .i64 0, .slice none 0 0, .slice none 0 0] 44 (0, 0))) := ⟨h2_⟩
     have n3_ : Aside0 (w23.heap[zf]? = some (.cells #[.int .i64 0, .slice none 0 0, .slice none 0 0] 44 (0, 0))) := ⟨h3_⟩
     have n4_ : Aside0 (w.heap.size ≤ zf) := ⟨h4_⟩
     have n5_ : Aside0 (w.heap.size ≤ zf) := ⟨h5_⟩
     have n6_ : Aside0 (zc ≠ zf) := ⟨h6_⟩
     have n7_ : Aside0 (zf ≠ zc) := ⟨h7_⟩
     have n8_ : Aside0 (zl ≠ zf) := ⟨h8_⟩
     have n9_ : Aside0 (zf ≠ zl) := ⟨h9_⟩
     have n10_ : Aside0 (Below w.heap.size w w23) := ⟨h10_⟩
     clear za
     clear zb
     clear HB
     clear h0_ h1_ h2_ h3_ h4_ h5_ h6_ h7_ h8_ h9_ h10_
     have zo := n0_
     have za := n1_
     have zb := n2_
     have zk := n3_
     have zu := n4_
     have zm := n5_
     have zd := n6_
     have zh := n7_
     have zi := n8_
     have zj := n9_
     have HB := n10_
     clear n0_ n1_ n2_ n3_ n4_ n5_ n6_ n7_ n8_ n9_ n10_
     have hHeld : w23.cell? ⟨zc, 0, none⟩ = some (.int .i64 a0_0) ∧ w23.cell? ⟨zc, 1, none⟩ = some (.slice A0_1 l0_1.length c0_1) ∧ w23.cell? ⟨zc, 2, none⟩ = some (.slice A0_2 l0_2.length c0_2) := hS_
     refine norm_ (a' := ?_) ?_ ?_
     rotate_left
     ·simp only [putAll, Act.put, sP]
      rfl
     refine one_ (i := 3) (N := some 30) (bm 10 383) rfl rfl (one_of HT_.out (by kernel_rfl)) (by decide) (fun K hK => ?_)
     refine goes_ Try.func42 (by kernel_rfl) rfl #[.slice A1 l1.length c1] (by rfl) rfl rfl pA ?_
     with_reducible refine (slices_Clone_int_int.calls _ _ l1 zw _ ?s1 ?s2 A9.out).mono ?_
     (case s1 => exact sC HR1 HB)
     (case s2 => exact HC1.out)
     rintro e w24 ⟨zy, rfl, ho0, hb⟩
     refine ⟨_, rfl, ?_⟩
     have zn := aM (Kd.R_lower (Kd.R_new' ho0 (Kd.R_lt (pR zo.out))) (below_size (qB3 HB ze zg zm)))
     replace zo := eR zo ho0 hb
     replace za := bK za hb
     replace zb := bK zb hb
     replace zk := bK zk hb
     replace HB := bS (qB3 HB ze zg zm) hb
     (try clear hb)
     (try clear ho0)
     obtain ⟨zae, zaf, z7⟩ := Kd.R_slice zo.out
     (first | subst z7 | (injection z7 with f1_ f2_ f3_; have f4_ := f1_.symm; have f5_ := f3_.symm; clear f1_ f2_ f3_; subst f4_; subst f5_))
     obtain ⟨zan, zao, zad⟩ := Kd.R_slice zn.out
     (first | subst zad | (injection zad with f1_ f2_ f3_; have f4_ := f1_.symm; have f5_ := f3_.symm; clear f1_ f2_ f3_; subst f4_; subst f5_))
     refine hK.out _ _ (h3 za) (fun hHeld => ?_)
     clear hK K
     refine norm_ (a' := ?_) ?_ ?_
     rotate_left
     ·show Act.put _ (some 30) _ = _
      simp only [Act.put, sP, i64_w, i32_w]
      rfl
     refine pP (i := 7) (N := some 34) (bm 10 511) rfl rfl HT_.out ?_
     exact norm_ (by first | (simp only [putAll, Act.put, sP]; done) | (simp only [putAll, Act.put, sP]; rfl)) (zab (.slice zan zw.length zao, .slice zae zx.length zaf, zf) _ ⟨hHeld, (by (with_reducible repeat (first | apply rA | apply rN | apply rD)); exact Kd.R_mono zn.out (fun _ hk => hk.2)), (by (with_reducible repeat (first | apply rA | apply rN | apply rD)); exact Kd.R_mono zo.out (fun _ hk => hk.2)), (pK za.out), (pK zb.out), (pK zk.out), zu.out, zm.out, zd.out, zh.out, zi.out, zj.out, (qB3 HB ze zg zm)⟩)
   ·skip
    rintro ⟨zy, zf⟩ w22 ⟨hS_, h0_, h1_, h2_, h3_, h4_, h5_, h6_, h7_, h8_, h9_, h10_⟩
    have n0_ : Aside0 (Kd.R (Kd.int .i64) 3 w22 w.heap.size (fun _ => True) zy zw) := ⟨h0_⟩
    have n1_ : Aside0 (w22.heap[zc]? = some (.cells #[.int .i64 a0_0, .slice A0_1 l0_1.length c0_1, .slice A0_2 l0_2.length c0_2] 44 (0, 0))) := ⟨h1_⟩
    have n2_ : Aside0 (w22.heap[zl]? = some (.cells #[.int .i64 0, .slice none 0 0, .slice none 0 0] 44 (0, 0))) := ⟨h2_⟩
    have n3_ : Aside0 (w22.heap[zf]? = some (.cells #[.int .i64 0, .slice none 0 0, .slice none 0 0] 44 (0, 0))) := ⟨h3_⟩
    have n4_ : Aside0 (w.heap.size ≤ zf) := ⟨h4_⟩
    have n5_ : Aside0 (w.heap.size ≤ zf) := ⟨h5_⟩
    have n6_ : Aside0 (zc ≠ zf) := ⟨h6_⟩
    have n7_ : Aside0 (zf ≠ zc) := ⟨h7_⟩
    have n8_ : Aside0 (zl ≠ zf) := ⟨h8_⟩
    have n9_ : Aside0 (zf ≠ zl) := ⟨h9_⟩
    have n10_ : Aside0 (Below w.heap.size w w22) := ⟨h10_⟩
    clear za
    clear zb
    clear HB
    clear h0_ h1_ h2_ h3_ h4_ h5_ h6_ h7_ h8_ h9_ h10_
    have zn := n0_
    have za := n1_
    have zb := n2_
    have zk := n3_
    have zu := n4_
    have zm := n5_
    have zd := n6_
    have zh := n7_
    have zi := n8_
    have zj := n9_
    have HB := n10_
    clear n0_ n1_ n2_ n3_ n4_ n5_ n6_ n7_ n8_ n9_ n10_
    have hHeld : w22.cell? ⟨zc, 0, none⟩ = some (.int .i64 a0_0) ∧ w22.cell? ⟨zc, 1, none⟩ = some (.slice A0_1 l0_1.length c0_1) ∧ w22.cell? ⟨zc, 2, none⟩ = some (.slice A0_2 l0_2.length c0_2) := hS_
    refine norm_ (a' := ?_) ?_ ?_
    rotate_left
    ·simp only [putAll, Act.put, sP]
     rfl
    refine one_ (i := 6) (N := some 33) (bm 10 383) rfl rfl (one_of HT_.out (by kernel_rfl)) (by decide) (fun K hK => ?_)
    refine Kd.R_make_step (Kd.int .i64) _ 3 (by rfl) (N := 33) rfl 22 _ _ rfl (l1.length : Int) rfl rfl Try.underlying22 (.int .i64 0) 8 info3 rfl (by decide) (by omega) 0 (ok := fun _ => True) (okp := fun _ => True) rfl (fun _ hk => hk) trivial (of_decide_eq_true pD) (Nat.le_trans (Nat.mul_le_mul_right _ (of_decide_eq_true pD : (l1.length : Int).toNat ≤ 35184372088832)) (by omega)) (Below.refl _ _) (Nat.le_refl _) ?_
    intro zz w23 ho24 hb hg_ hnew_
    clear hg_ hnew_
    (first | rw [← z2.out] at ho24 | (simp only [Int.reduceToNat] at ho24; rw [← z2.out] at ho24))
    have zo := aM (Kd.R_lower (Kd.R_new' ho24 (Kd.R_lt (pR zn.out))) (below_size (qB3 HB ze zg zm)))
    replace zn := eR zn ho24 hb
    replace za := bK za hb
    replace zb := bK zb hb
    replace zk := bK zk hb
    replace HB := bS (qB3 HB ze zg zm) hb
    clear hb ho24
    obtain ⟨zae, zaf, z7⟩ := Kd.R_slice zo.out
    (first | subst z7 | (injection z7 with f1_ f2_ f3_; have f4_ := f1_.symm; have f5_ := f3_.symm; clear f1_ f2_ f3_; subst f4_; subst f5_))
    obtain ⟨zan, zao, zad⟩ := Kd.R_slice zn.out
    (first | subst zad | (injection zad with f1_ f2_ f3_; have f4_ := f1_.symm; have f5_ := f3_.symm; clear f1_ f2_ f3_; subst f4_; subst f5_))
    refine hK.out _ _ (h3 za) (fun hHeld => ?_)
    clear hK K
    refine norm_ (a' := ?_) ?_ ?_
    rotate_left
    ·show Act.put _ (some 33) _ = _
     simp only [Act.put, sP, i64_w, i32_w]
     rfl
    refine pP (i := 7) (N := some 34) (bm 10 511) rfl rfl HT_.out ?_
    exact norm_ (by first | (simp only [putAll, Act.put, sP]; done) | (simp only [putAll, Act.put, sP]; rfl)) (zab (.slice zan zw.length zao, .slice zae zx.length zaf, zf) _ ⟨hHeld, (by (with_reducible repeat (first | apply rA | apply rN | apply rD)); exact Kd.R_mono zn.out (fun _ hk => hk.2)), (by (with_reducible repeat (first | apply rA | apply rN | apply rD)); exact Kd.R_mono zo.out (fun _ hk => hk.2)), (pK za.out), (pK zb.out), (pK zk.out), zu.out, zm.out, zd.out, zh.out, zi.out, zj.out, (qB3 HB ze zg zm)⟩)
  ·skip
   rintro ⟨zy, zz⟩ w25 ⟨hS_, h0_, h1_, h2_, h3_, h4_⟩
   have n0_ : Aside0 (Kd.R (Kd.int .i64) 3 w25 w.heap.size (fun k_ => some k_ ≠ (zz : Value).ownBlock) zy zw) := ⟨h0_⟩
   have n1_ : Aside0 (Kd.R (Kd.int .i64) 3 w25 w.heap.size (fun k_ => some k_ ≠ (zy : Value).ownBlock) zz zx) := ⟨h1_⟩
   have n2_ : Aside0 (w25.heap[zc]? = some (.cells #[.int .i64 a0_0, .slice A0_1 l0_1.length c0_1, .slice A0_2 l0_2.length c0_2] 44 (0, 0))) := ⟨h2_⟩
   have n3_ : Aside0 (w25.heap[zl]? = some (.cells #[.int .i64 0, .slice none 0 0, .slice none 0 0] 44 (0, 0))) := ⟨h3_⟩
   have n4_ : Aside0 (Below w.heap.size w w25) := ⟨h4_⟩
   clear za
   clear zb
   clear HB
   clear h0_ h1_ h2_ h3_ h4_
   have zn := n0_
   have zo := n1_
   have za := n2_
   have zb := n3_
   have HB := n4_
   clear n0_ n1_ n2_ n3_ n4_
   have hHeld : w25.cell? ⟨zc, 0, none⟩ = some (.int .i64 a0_0) ∧ w25.cell? ⟨zc, 1, none⟩ = some (.slice A0_1 l0_1.length c0_1) ∧ w25.cell? ⟨zc, 2, none⟩ = some (.slice A0_2 l0_2.length c0_2) := hS_
   obtain ⟨zan, zao, zad⟩ := Kd.R_slice zo.out
   (first | subst zad | (injection zad with f1_ f2_ f3_; have f4_ := f1_.symm; have f5_ := f3_.symm; clear f1_ f2_ f3_; subst f4_; subst f5_))
   obtain ⟨zaw, zax, zap⟩ := Kd.R_slice zn.out
   (first | subst zap | (injection zap with f1_ f2_ f3_; have f4_ := f1_.symm; have f5_ := f3_.symm; clear f1_ f2_ f3_; subst f4_; subst f5_))
   refine norm_ (a' := ?_) ?_ ?_
   rotate_left
   ·simp only [putAll, Act.put, sP]
    rfl
   refine one_ (i := 8) (N := some 7) (bm 10 511) rfl rfl (one_of HT_.out (by kernel_rfl)) (by decide) (fun K hK => ?_)
   refine box_step ?hg (N := 7) ?hd (cs := #[.int .i64 0, .slice none 0 0, .slice none 0 0]) (t := 44) ?hr ?_; (case hd => rfl); (case hg => rfl); (case hr => first | (go_simp; done) | (go_simp; rfl))
   intro zf hg w28 hbox hb
   replace zn := bR zn hb
   replace zo := bR zo hb
   have zk := aM (hbox)
   have zu := gE (w := w) hg (qB2 HB ze zg)
   have zm := zu
   replace HB := bS (qB2 HB ze zg) hb
   have zd := nL hg za
   have zh := nG hg za
   replace za := bK za hb
   have zi := nL hg zb
   have zj := nG hg zb
   replace zb := bK zb hb
   clear hb hbox hg
   refine hK.out _ _ (h3 za) (fun hHeld => ?_)
   clear hK K
   refine norm_ (a' := ?_) ?_ ?_
   rotate_left
   ·show Act.put _ (some 7) _ = _
    simp only [Act.put, sP, i64_w, i32_w]
    rfl
   exact norm_ (by first | (simp only [putAll, Act.put, sP]; done) | (simp only [putAll, Act.put, sP]; rfl)) (zab (.slice zaw zw.length zax, .slice zan zx.length zao, zf) _ ⟨hHeld, (pR zn.out), (pR zo.out), (pK za.out), (pK zb.out), (pK zk.out), zu.out, zm.out, zd.out, zh.out, zi.out, zj.out, (qB3 HB ze zg zm)⟩)
 rintro ⟨zy, zz, zf⟩ w26 ⟨hS_, h0_, h1_, h2_, h3_, h4_, h5_, h6_, h7_, h8_, h9_, h10_, h11_⟩
 have n0_ : Aside0 (Kd.R (Kd.int .i64) 3 w26 w.heap.size (fun k_ => some k_ ≠ (zz : Value).ownBlock) zy zw) := ⟨h0_⟩
 have n1_ : Aside0 (Kd.R (Kd.int .i64) 3 w26 w.heap.size (fun k_ => some k_ ≠ (zy : Value).ownBlock) zz zx) := ⟨h1_⟩
 have n2_ : Aside0 (w26.heap[zc]? = some (.cells #[.int .i64 a0_0, .slice A0_1 l0_1.length c0_1, .slice A0_2 l0_2.length c0_2] 44 (0, 0))) := ⟨h2_⟩
 have n3_ : Aside0 (w26.heap[zl]? = some (.cells #[.int .i64 0, .slice none 0 0, .slice none 0 0] 44 (0, 0))) := ⟨h3_⟩
 have n4_ : Aside0 (w26.heap[zf]? = some (.cells #[.int .i64 0, .slice none 0 0, .slice none 0 0] 44 (0, 0))) := ⟨h4_⟩
 have n5_ : Aside0 (w.heap.size ≤ zf) := ⟨h5_⟩
 have n6_ : Aside0 (w.heap.size ≤ zf) := ⟨h6_⟩
 have n7_ : Aside0 (zc ≠ zf) := ⟨h7_⟩
 have n8_ : Aside0 (zf ≠ zc) := ⟨h8_⟩
 have n9_ : Aside0 (zl ≠ zf) := ⟨h9_⟩
 have n10_ : Aside0 (zf ≠ zl) := ⟨h10_⟩
 have n11_ : Aside0 (Below w.heap.size w w26) := ⟨h11_⟩
 clear za
 clear zb
 clear HB
 clear h0_ h1_ h2_ h3_ h4_ h5_ h6_ h7_ h8_ h9_ h10_ h11_
 have zn := n0_
 have zo := n1_
 have za := n2_
 have zb := n3_
 have zk := n4_
 have zu := n5_
 have zm := n6_
 have zd := n7_
 have zh := n8_
 have zi := n9_
 have zj := n10_
 have HB := n11_
 clear n0_ n1_ n2_ n3_ n4_ n5_ n6_ n7_ n8_ n9_ n10_ n11_
 have hHeld : w26.cell? ⟨zc, 0, none⟩ = some (.int .i64 a0_0) ∧ w26.cell? ⟨zc, 1, none⟩ = some (.slice A0_1 l0_1.length c0_1) ∧ w26.cell? ⟨zc, 2, none⟩ = some (.slice A0_2 l0_2.length c0_2) := hS_
 obtain ⟨zaw, zax, zap⟩ := Kd.R_slice zo.out
 (first | subst zap | (injection zap with f1_ f2_ f3_; have f4_ := f1_.symm; have f5_ := f3_.symm; clear f1_ f2_ f3_; subst f4_; subst f5_))
 obtain ⟨Ao28, co28, zay⟩ := Kd.R_slice zn.out
 (first | subst zay | (injection zay with f1_ f2_ f3_; have f4_ := f1_.symm; have f5_ := f3_.symm; clear f1_ f2_ f3_; subst f4_; subst f5_))
 refine norm_ (a' := ?_) ?_ ?_
 rotate_left
 ·simp only [putAll, Act.put, sP]
  rfl
 refine one_ (i := 9) (N := none) (bm 10 1023) rfl rfl (one_of HT_.out (by kernel_rfl)) (by decide) (fun K hK => ?_)
 have hs29 : w26.cell? ⟨zf, 0, none⟩ = some (.int .i64 0) := (blk_cell zk.out 0).trans rfl
 have hfs29 := blk_frozen zk.out 0
 have hns29_0 := zd.out
 have hns29_1 := zi.out
 have hms29_0 := zh.out
 have hms29_1 := zj.out
 have hs30 : w26.cell? ⟨zf, 1, none⟩ = some (.slice none 0 0) := (blk_cell zk.out 1).trans rfl
 have hfs30 := blk_frozen zk.out 1
 have hns30_0 := zd.out
 have hns30_1 := zi.out
 have hms30_0 := zh.out
 have hms30_1 := zj.out
 have hs31 : w26.cell? ⟨zf, 2, none⟩ = some (.slice none 0 0) := (blk_cell zk.out 2).trans rfl
 have hfs31 := blk_frozen zk.out 2
 have hns31_0 := zd.out
 have hns31_1 := zi.out
 have hms31_0 := zh.out
 have hms31_1 := zj.out
 refine skip_ (w1 := ?_) (by rfl) rfl ?_ ?_
 rotate_left
 ·go_simp
  rfl
 refine hK.out _ _ ⟨((cell_far (p := ⟨zf, _, none⟩) zd.out _).trans (((cell_far (p := ⟨zf, _, none⟩) zd.out _).trans (((cell_far (p := ⟨zf, _, none⟩) zd.out _).trans (hHeld.1)))))), ((cell_far (p := ⟨zf, _, none⟩) zd.out _).trans (((cell_far (p := ⟨zf, _, none⟩) zd.out _).trans (((cell_far (p := ⟨zf, _, none⟩) zd.out _).trans (hHeld.2.1)))))), ((cell_far (p := ⟨zf, _, none⟩) zd.out _).trans (((cell_far (p := ⟨zf, _, none⟩) zd.out _).trans (((cell_far (p := ⟨zf, _, none⟩) zd.out _).trans (hHeld.2.2))))))⟩ (fun hHeld => ?_)
 clear hK K
 refine done_ (done_of HT_.out (by kernel_rfl)) ?_
 have hnb32 := zd.out
 have hnc32 := zh.out
 obtain ⟨hcz33_0, hcz33_1, hcz33_2, hfz33_0, hfz33_1, hfz33_2⟩ := blk3 za.out
 try go_wp2
 go_loopg [44] k (fun kq v44 w' => ∃ (x44_1 : Int) (zt : List Int) (zp : List Int) (u229001 : Value) (u229002 : Value), v44 = .int .i64 x44_1 ∧ Aside0 (view_Expand.l0 kq (wrap64 ((l1.length : Int) - (l0_1.length : Int))) l0_1 (l0_1.length : Int) x44_1 a0_0 l0_1 l0_2 a0_0 zt zp = some (r1, r2, r3, r4)) ∧ Aside0 (kq ≤ k) ∧ Aside0 (Kd.R (Kd.int .i64) 3 w' w.heap.size (fun k_ => some k_ ≠ (u229002 : Value).ownBlock) u229001 zt) ∧ Aside0 (Kd.R (Kd.int .i64) 3 w' w.heap.size (fun k_ => some k_ ≠ (u229001 : Value).ownBlock) u229002 zp) ∧ Aside0 (w'.heap[zc]? = some (.cells #[.int .i64 a0_0, (.slice A0_1 l0_1.length c0_1), (.slice A0_2 l0_2.length c0_2)] 44 (0, 0))) ∧ Aside0 (w'.heap[zl]? = some (.cells #[.int .i64 0, (.slice none 0 0), (.slice none 0 0)] 44 (0, 0))) ∧ Aside0 (w'.heap[zf]? = some (.cells #[.int .i64 a0_0, u229001, u229002] 44 (0, 0))) ∧ Aside0 (Below w.heap.size w w'))
 case atStart => exact ⟨(0), (zw), (zx), (.slice Ao28 zw.length co28), (.slice zaw zx.length zax), (pF), H', ⟨Nat.le_refl _⟩, ⟨by (with_reducible repeat (first | apply rA | apply rN | apply rD)); exact F3 zn zk (fun _ hk => hk.1)⟩, ⟨by (with_reducible repeat (first | apply rA | apply rN | apply rD)); exact F3 zo zk (fun _ hk => hk.1)⟩, ⟨by refine B3 zd ?_; exact za.out⟩, ⟨by refine B3 zi ?_; exact zb.out⟩, ⟨by exact P3 zk⟩, ⟨qB3 HB ze zg zm⟩⟩
 case round =>
  clear H'
  try clear c1
  try clear c4
  try clear hcz33_0 hcz33_1 hcz33_2 hfz33_0 hfz33_1 hfz33_2
  obtain ⟨x44_1, zt, zp, u229001, u229002, rfl, HA, HK1, zv, zq, za, zb, zk, HB⟩ := hrel
  cases gk with
  | zero => exact absurd HA.out (by simp [view_Expand.l0])
  | succ k1 =>
   have H := HA.out
   clear HA
   simp only [view_Expand.l0] at H
   by_cases c34 : x44_1 < (l0_1.length : Int)
   rotate_left
   ·rw [if_neg c34] at H
    have c34b0 : decide (x44_1 < (l0_1.length : Int)) = false := decide_eq_false c34
    clear c34
    simp only [Option.some.injEq, Prod.mk.injEq] at H
    obtain ⟨rfl, rfl, rfl, rfl⟩ := H
    have hnb45 := zh.out
    have hnc45 := zd.out
    have hnb46 := zj.out
    have hnc46 := zi.out
    obtain ⟨hcz47_0, hcz47_1, hcz47_2, hfz47_0, hfz47_1, hfz47_2⟩ := blk3 zk.out
    have hnb48 := zs.out
    have hnc48 := zr.out
    obtain ⟨hcz49_0, hcz49_1, hcz49_2, hfz49_0, hfz49_1, hfz49_2⟩ := blk3 zb.out
    obtain ⟨Ao50, co50, eo50⟩ := Kd.R_slice zv.out
    subst eo50
    obtain ⟨Ao51, co51, eo51⟩ := Kd.R_slice zq.out
    subst eo51
    go_wp2
    refine bodyPost_ret (results_ct rfl _ _ zl 44 #[.int .i64 a0_0, .slice Ao50 zt.length co50, .slice Ao51 zp.length co51] (0, 0) _ rfl (by exact P3 zb) Try.underlying44 rfl (by kernel_rfl)) rfl ?_
    exact ⟨_, _, pE, by (with_reducible repeat (first | apply rA | apply rN | apply rD)); exact F3 zv zb (fun _ hk => hk.1), by (with_reducible repeat (first | apply rA | apply rN | apply rD)); exact F3 zq zb (fun _ hk => hk.1), qB3 HB ze zg zm⟩
   rw [if_pos c34] at H
   have c34b0 : decide (x44_1 < (l0_1.length : Int)) = true := decide_eq_true c34
   clear c34
   by_cases c35 : 0 ≤ x44_1
   rotate_left
   ·rw [if_neg c35] at H
    exact absurd H (by simp)
   rw [if_pos c35] at H
   have c35b0 : decide (0 ≤ x44_1) = true := decide_eq_true c35
   clear c35
   by_cases c36 : x44_1 < (l0_1.length : Int)
   rotate_left
   ·rw [if_neg c36] at H
    exact absurd H (by simp)
   rw [if_pos c36] at H
   have c36b0 : decide (x44_1 < (l0_1.length : Int)) = true := decide_eq_true c36
   clear c36
   by_cases c37 : (rd l0_1 x44_1) > 1
   rotate_left
   ·rw [if_neg c37] at H
    have c37b0 : decide (1 < (rd l0_1 x44_1)) = false := decide_eq_false c37
    clear c37
    have H' := aM H
    clear H
    have p229 : 0 ≤ (x44_1 : Int) := of_decide_eq_true pD
    have q229 : x44_1 < (l0_1.length : Int) := of_decide_eq_true pD
    obtain ⟨ad229, e229, hx229_0⟩ := Kd.at_int z1.out x44_1 p229 q229
    cases e229
    replace hx229_0 := (HB.out.cell (World.block_lt_of_cell? w _ hx229_0)).trans hx229_0
    replace p229 := eq_true p229
    replace q229 := eq_true q229
    go_wp2
    go_roundg k1
    case measure => have := HK1.out; omega
    case rel => exact ⟨(wrap64 (x44_1 + 1)), (zt), (zp), (u229001), (u229002), (pF), H', ⟨by have := HK1.out; omega⟩, ⟨pR zv.out⟩, ⟨pR zq.out⟩, ⟨pK za.out⟩, ⟨pK zb.out⟩, ⟨pK zk.out⟩, ⟨qB3 HB ze zg zm⟩⟩
   rw [if_pos c37] at H
   have c37b0 : decide (1 < (rd l0_1 x44_1)) = true := decide_eq_true c37
   clear c37
   by_cases c38 : x44_1 < (l0_2.length : Int)
   rotate_left
   ·rw [if_neg c38] at H
    exact absurd H (by simp)
   rw [if_pos c38] at H
   have c38b0 : decide (x44_1 < (l0_2.length : Int)) = true := decide_eq_true c38
   clear c38
   obtain ⟨ji39, hji39⟩ : ∃ j_ : Int, (wrap64 ((wrap64 ((l1.length : Int) - (l0_1.length : Int))) + x44_1)) = j_ := ⟨_, rfl⟩
   replace H : (if 0 ≤ (ji39) then (if (ji39) < (zp.length : Int) then (view_Expand.l0 k1 (wrap64 ((l1.length : Int) - (l0_1.length : Int))) l0_1 (l0_1.length : Int) (wrap64 (x44_1 + 1)) a0_0 l0_1 l0_2 a0_0 zt (zp.set ((ji39) : Int).toNat (rd l0_2 x44_1))) else (none)) else (none)) = some (r1, r2, r3, r4) := by first | (rw [hji39] at H; exact H) | (simp only [hji39] at H ⊢; exact H)
   have hji39w : (IntKind.i64.wrap ((wrap64 ((l1.length : Int) - (l0_1.length : Int))) + x44_1)) = ji39 := (i64_w _).trans hji39
   by_cases c40 : 0 ≤ (ji39)
   rotate_left
   ·rw [if_neg c40] at H
    exact absurd H (by simp)
   rw [if_pos c40] at H
   have c40b0 : decide (0 ≤ (ji39)) = true := decide_eq_true c40
   clear c40
   by_cases c41 : (ji39) < (zp.length : Int)
   rotate_left
   ·rw [if_neg c41] at H
    exact absurd H (by simp)
   rw [if_pos c41] at H
   have c41b0 : decide ((ji39) < (zp.length : Int)) = true := decide_eq_true c41
   clear c41
   obtain ⟨zaz, zaq⟩ : ∃ y_ : List Int, y_ = (zp.set ((ji39) : Int).toNat (rd l0_2 x44_1)) := ⟨_, rfl⟩
   replace H : (view_Expand.l0 k1 (wrap64 ((l1.length : Int) - (l0_1.length : Int))) l0_1 (l0_1.length : Int) (wrap64 (x44_1 + 1)) a0_0 l0_1 l0_2 a0_0 zt zaz) = some (r1, r2, r3, r4) := pH zaq H
   have Ny231 := aM zaq
   clear zaq
   have H' := aM H
   clear H
   have p229 : 0 ≤ (x44_1 : Int) := of_decide_eq_true pD
   have q229 : x44_1 < (l0_1.length : Int) := of_decide_eq_true pD
   obtain ⟨ad229, e229, hx229_0⟩ := Kd.at_int z1.out x44_1 p229 q229
   cases e229
   replace hx229_0 := (HB.out.cell (World.block_lt_of_cell? w _ hx229_0)).trans hx229_0
   replace p229 := eq_true p229
   replace q229 := eq_true q229
   try go_wp2
   replace zv := aM (Kd.R_drew zv.out)
   replace zq := aM (Kd.R_drew zq.out)
   replace za := aM (blk_drew za.out)
   replace zb := aM (blk_drew zb.out)
   replace zk := aM (blk_drew zk.out)
   replace HB := aM (below_drew1 HB.out)
   have p230 : 0 ≤ (x44_1 : Int) := of_decide_eq_true pD
   have q230 : x44_1 < (l0_2.length : Int) := of_decide_eq_true pD
   obtain ⟨ad230, e230, hx230_0⟩ := Kd.at_int zac.out x44_1 p230 q230
   have hw230_0 := hx230_0
   cases e230
   replace hx230_0 := (HB.out.cell (World.block_lt_of_cell? w _ hx230_0)).trans hx230_0
   replace p230 := eq_true p230
   replace q230 := eq_true q230
   have p42 : 0 ≤ ((ji39) : Int) := of_decide_eq_true pD
   have q42 : ((ji39) : Int) < ((zp.length : Int) : Int) := of_decide_eq_true pD
   obtain ⟨go42, za0, za1, za2, gl42, cl42, HG42⟩ := Kd.R_form zq.out (by omega)
   (first | cases za1 | (injection za1 with ea_ en_ ec_; (first | subst ea_ | (injection ea_ with ea_; subst ea_)); subst ec_; clear en_))
   have GB42 := aM za2
   have GG42 := aM HG42
   clear za2 gl42 HG42
   obtain ⟨hx42_0, hf42_0⟩ := Kd.R_celln 0 zq.out ((ji39) : Int) p42 q42
   replace p42 := eq_true p42
   replace q42 := eq_true q42
   have HP44 := Kd.R_putn zq.out ((ji39) : Int) (rd l0_2 x44_1)
   rw [← Ny231.out] at HP44
   have HQ44 := aM HP44
   clear HP44
   refine start_ (n := 12) (S := fun w' => w'.cell? ⟨zf, 0, none⟩ = some (.int .i64 a0_0) ∧ w'.cell? ⟨zf, 1, none⟩ = some (u229001) ∧ w'.cell? ⟨zf, 2, none⟩ = some (.slice (some ⟨go42, 0, none⟩) zp.length za0) ∧ w'.cell? ⟨zc, 0, none⟩ = some (.int .i64 a0_0) ∧ w'.cell? ⟨zc, 1, none⟩ = some (.slice (some ad229) l0_1.length c0_1) ∧ w'.cell? ⟨zc, 2, none⟩ = some (.slice (some ad230) l0_2.length c0_2) ∧ w'.cell? (ad230.add (x44_1).toNat) = some (.int .i64 (rd l0_2 x44_1))) (ds := [11]) (bm 12 0) (by kernel_rfl) rfl rfl ⟨(blk_cell zk.out 0).trans rfl, (blk_cell zk.out 1).trans rfl, (blk_cell zk.out 2).trans rfl, (blk_cell za.out 0).trans rfl, (blk_cell za.out 1).trans rfl, (blk_cell za.out 2).trans rfl, ((HB.out.cell (World.block_lt_of_cell? w _ hw230_0)).trans hw230_0)⟩ (fun hHeld => ?_); refine with_tabW view_Expand.tab14 view_Expand.bits14 (fun HT_ HW_ => ?_)
   generalize wr.drew = w43 at zv zq za zb zk HB GG42 HQ44 hf42_0 hx230_0 hx42_0 hHeld ⊢
   refine pP (i := 0) (N := some 51) (bm 12 1) rfl rfl HT_.out ?_
   refine pP (i := 2) (N := some 53) (bm 12 5) rfl rfl HT_.out ?_
   refine pP (i := 3) (N := some 54) (bm 12 13) rfl rfl HT_.out ?_
   refine pP (i := 4) (N := some 55) (bm 12 29) rfl rfl HT_.out ?_
   refine pP (i := 5) (N := some 56) (bm 12 61) rfl rfl HT_.out ?_
   refine pP (i := 7) (N := some 58) (bm 12 189) rfl rfl HT_.out ?_
   refine pT (i := 1) (N := some 52) (bm 12 191) rfl rfl HT_.out HW_.out hHeld (by rintro w' ⟨s0, s1, s2, s3, s4, s5, s6⟩; go_simp; with_reducible rfl) ?_
   refine pT (i := 6) (N := some 57) (bm 12 255) rfl rfl HT_.out HW_.out hHeld (by rintro w' ⟨s0, s1, s2, s3, s4, s5, s6⟩; go_simp; with_reducible rfl) ?_
   refine pP (i := 8) (N := some 59) (bm 12 511) rfl rfl HT_.out ?_
   refine pT (i := 9) (N := some 60) (bm 12 1023) rfl rfl HT_.out HW_.out hHeld (by rintro w' ⟨s0, s1, s2, s3, s4, s5, s6⟩; go_simp; with_reducible rfl) ?_
   refine pP (i := 10) (N := some 61) (bm 12 2047) rfl rfl HT_.out ?_
   refine last_ (i := 11) (N := none) (bm 12 4095) rfl rfl (one_of HT_.out (by kernel_rfl)) (by decide) (fun K hK => ?_)
   refine skip_ (w1 := ?_) (by rfl) rfl ?_ ?_
   rotate_left
   ·go_simp
    rfl
   refine hK.out _ _ ?_
   clear hK K
   refine done_ (done_of HT_.out (by kernel_rfl)) ?_
   try go_wp2
   go_roundg k1
   case measure => have := HK1.out; omega
   case rel => exact ⟨(wrap64 (x44_1 + 1)), (zt), (zaz), (u229001), (.slice (some ⟨go42, 0, none⟩) zp.length za0), (pF), H', ⟨by have := HK1.out; omega⟩, ⟨by (with_reducible repeat (first | apply rA | apply rN | apply rD)); exact Kd.R_mono (Kd.R_far (p := ⟨go42, ((ji39) : Int).toNat, none⟩) (Kd.R_mono zv.out (fun k_ hk => (⟨hk, fun e_ => hk (by rw [e_]; rfl)⟩ : _ ∧ k_ ≠ go42))) (fun _ hk => hk.2) (.int .i64 (rd l0_2 x44_1))) (fun _ hk => hk.1)⟩, ⟨pR HQ44.out⟩, ⟨by (with_reducible repeat (first | apply bN | apply bD | apply bA)); refine blk_far ?_ (by have h_ := Kd.R_ne zq.out za.out (by decide); intro e_; exact h_ (by rw [e_]; rfl)) _; (with_reducible repeat (first | apply bN | apply bD | apply bA)); exact za.out⟩, ⟨by (with_reducible repeat (first | apply bN | apply bD | apply bA)); refine blk_far ?_ (by have h_ := Kd.R_ne zq.out zb.out (by decide); intro e_; exact h_ (by rw [e_]; rfl)) _; (with_reducible repeat (first | apply bN | apply bD | apply bA)); exact zb.out⟩, ⟨by (with_reducible repeat (first | apply bN | apply bD | apply bA)); refine blk_far ?_ (by have h_ := Kd.R_ne zq.out zk.out (by decide); intro e_; exact h_ (by rw [e_]; rfl)) _; (with_reducible repeat (first | apply bN | apply bD | apply bA)); exact zk.out⟩, ⟨qB4 HB GB42 ze zg zm⟩⟩
def view_copied.f (a0_0 : Int) (l0_1 : List Int) (l0_2 : List Int) : Option (Int × List Int × List Int) := (slices_Clone_int_int.f l0_1).bind fun zi => ((slices_Clone_int_int.f l0_2).bind fun zj => (some (a0_0, zi, zj)))
def view_copied.T1 : Bool × List (List Nat × List Nat) := (true, [([], []), ([0], [0]), ([], []), ([2], [2]), ([3], [3]), ([], []), ([5], [5]), ([6, 4], [6]), ([1, 4, 7], [1, 4, 7]), ([8, 7, 0, 1, 2, 3, 4, 5, 6, 7, 8], [8])])
def view_copied.B1 : List Nat := [0, 1, 0, 4, 12, 0, 32, 124, 255, 511]
theorem view_copied.tab1 : rtab .any (opsOf Try.f72 1) = view_copied.T1 := by kernel_rfl
theorem view_copied.bits1 : waitsOk view_copied.T1.2 view_copied.B1 = true := by kernel_rfl
set_option maxHeartbeats 8000000 in
set_option maxRecDepth 100000 in
theorem view_copied.calls (a0_0 : Int) (A0_1 : Option Addr) (c0_1 : Nat) (l0_1 : List Int) (A0_2 : Option Addr) (c0_2 : Nat) (l0_2 : List Int) (r1 : Int) (r2 : List Int) (r3 : List Int) (w : World) (hr0_1 : Kd.C (Kd.int .i64) w A0_1 l0_1.length l0_1) (hc0_1 : l0_1.length ≤ c0_1) (hr0_2 : Kd.C (Kd.int .i64) w A0_2 l0_2.length l0_2) (hc0_2 : l0_2.length ≤ c0_2) (h : view_copied.f a0_0 l0_1 l0_2 = some (r1, r2, r3)) :
  Calls Try.prog 72 #[.agg #[.int .i64 a0_0, .slice A0_1 l0_1.length c0_1, .slice A0_2 l0_2.length c0_2]] w fun e w' => ∃ v1_ v2_ : Value, e = .returned (.agg #[.int .i64 r1, v1_, v2_]) ∧ Kd.R (Kd.int .i64) 3 w' w.heap.size (fun k_ => some k_ ≠ (v2_ : Value).ownBlock) v1_ r2 ∧ Kd.R (Kd.int .i64) 3 w' w.heap.size (fun k_ => some k_ ≠ (v1_ : Value).ownBlock) v2_ r3 ∧ Below w.heap.size w w' := by
 have hu44 := Try.underlying44
 have HR0_1 := aM hr0_1
 have HC0_1 := aM hc0_1
 clear hr0_1 hc0_1
 have HR0_2 := aM hr0_2
 have HC0_2 := aM hc0_2
 clear hr0_2 hc0_2
 have HB := aM (Below.refl w.heap.size w)
 have H : ((slices_Clone_int_int.f l0_1).bind fun zi => ((slices_Clone_int_int.f l0_2).bind fun zj => (some (a0_0, zi, zj)))) = some (r1, r2, r3) := h
 clear h
 replace H := Option.bind_eq_some_iff.mp H
 obtain ⟨zi, A20, H⟩ := H
 try dsimp only at H
 have A2 := aM A20
 clear A20
 replace H := Option.bind_eq_some_iff.mp H
 obtain ⟨zj, A30, H⟩ := H
 try dsimp only at H
 have A3 := aM A30
 clear A30
 simp only [Option.some.injEq, Prod.mk.injEq] at H
 obtain ⟨rfl, rfl, rfl⟩ := H
 go_enter Try.func72, Try.ntmps72
 try go_wp2_with (first | ((with_reducible refine gate_dst (N := 1) rfl ?_); refine box_event ?hg (N := 1) ?hd (cs := #[.int .i64 a0_0, .slice A0_1 l0_1.length c0_1, .slice A0_2 l0_2.length c0_2]) (t := 44) ?hr ?_; (case hd => rfl); (case hg => rfl); (case hr => first | (go_simp; done) | (go_simp; rfl)); intro zk hg w4 hbox hb; have zc := aM (hbox); have GW167 := gE (w := w) hg (qB HB); have zf := GW167; replace HB := bS (qB HB) hb; clear hb hbox hg) | ((with_reducible refine gate_dst (N := 2) rfl ?_); refine box_event ?hg (N := 2) ?hd (cs := #[.int .i64 0, .slice none 0 0, .slice none 0 0]) (t := 44) ?hr ?_; (case hd => rfl); (case hg => rfl); (case hr => first | (go_simp; done) | (go_simp; rfl)); intro zd hg w5 hbox hb; have zb := aM (hbox); have GW168 := gE (w := w) hg (qB1 HB zf); have zg := GW168; replace HB := bS (qB1 HB zf) hb; have za := nL hg zc; have ze := nG hg zc; replace zc := bK zc hb; clear hb hbox hg))
 replace zc := aM (blk_drew zc.out)
 replace zb := aM (blk_drew zb.out)
 replace HB := aM (below_drew1 HB.out)
 refine start_ (n := 10) (S := fun w' => w'.cell? ⟨zk, 0, none⟩ = some (.int .i64 a0_0) ∧ w'.cell? ⟨zk, 1, none⟩ = some (.slice A0_1 l0_1.length c0_1) ∧ w'.cell? ⟨zk, 2, none⟩ = some (.slice A0_2 l0_2.length c0_2)) (ds := []) (bm 10 0) (by kernel_rfl) rfl rfl (h3 zc) (fun hHeld => ?_); refine with_tabW view_copied.tab1 view_copied.bits1 (fun HT_ HW_ => ?_)
 generalize w5.drew = w6 at zc zb HB hHeld ⊢
 refine pP (i := 0) (N := some 3) (bm 10 1) rfl rfl HT_.out ?_
 refine pP (i := 2) (N := some 5) (bm 10 5) rfl rfl HT_.out ?_
 refine pP (i := 5) (N := some 8) (bm 10 37) rfl rfl HT_.out ?_
 refine pT (i := 1) (N := some 4) (bm 10 39) rfl rfl HT_.out HW_.out hHeld (by rintro w' ⟨s0, s1, s2⟩; go_simp; with_reducible rfl) ?_
 refine pT (i := 3) (N := some 6) (bm 10 47) rfl rfl HT_.out HW_.out hHeld (by rintro w' ⟨s0, s1, s2⟩; go_simp; with_reducible rfl) ?_
 refine pT (i := 6) (N := some 9) (bm 10 111) rfl rfl HT_.out HW_.out hHeld (by rintro w' ⟨s0, s1, s2⟩; go_simp; with_reducible rfl) ?_
 refine one_ (i := 4) (N := some 7) (bm 10 127) rfl rfl (one_of HT_.out (by kernel_rfl)) (by decide) (fun K hK => ?_)
 refine goes_ Try.func42 (by kernel_rfl) rfl #[.slice A0_1 l0_1.length c0_1] (by rfl) rfl rfl pA ?_
 with_reducible refine (slices_Clone_int_int.calls _ _ l0_1 zi _ ?s1 ?s2 A2.out).mono ?_
 (case s1 => exact sC HR0_1 HB)
 (case s2 => exact HC0_1.out)
 rintro e w7 ⟨v170, rfl, ho0, hb⟩
 refine ⟨_, rfl, ?_⟩
 have zh := aM (Kd.R_lower ho0 (below_size (qB2 HB zf zg)))
 replace zc := bK zc hb
 replace zb := bK zb hb
 replace HB := bS (qB2 HB zf zg) hb
 (try clear hb)
 (try clear ho0)
 refine hK.out _ _ (h3 zc) (fun hHeld => ?_)
 clear hK K
 refine norm_ (a' := ?_) ?_ ?_
 rotate_left
 ·show Act.put _ (some 7) _ = _
  simp only [Act.put, sP, i64_w, i32_w]
  rfl
 refine one_ (i := 7) (N := some 10) (bm 10 255) rfl rfl (one_of HT_.out (by kernel_rfl)) (by decide) (fun K hK => ?_)
 refine goes_ Try.func42 (by kernel_rfl) rfl #[.slice A0_2 l0_2.length c0_2] (by rfl) rfl rfl pA ?_
 with_reducible refine (slices_Clone_int_int.calls _ _ l0_2 zj _ ?s1 ?s2 A3.out).mono ?_
 (case s1 => exact sC HR0_2 HB)
 (case s2 => exact HC0_2.out)
 rintro e w8 ⟨v173, rfl, ho0, hb⟩
 refine ⟨_, rfl, ?_⟩
 have zl := aM (Kd.R_lower (Kd.R_new' ho0 (Kd.R_lt (pR zh.out))) (below_size (qB2 HB zf zg)))
 replace zh := eR zh ho0 hb
 replace zc := bK zc hb
 replace zb := bK zb hb
 replace HB := bS (qB2 HB zf zg) hb
 (try clear hb)
 (try clear ho0)
 obtain ⟨Ao9, co9, eo9⟩ := Kd.R_slice zl.out
 (first | subst eo9 | (injection eo9 with f1_ f2_ f3_; have f4_ := f1_.symm; have f5_ := f3_.symm; clear f1_ f2_ f3_; subst f4_; subst f5_))
 obtain ⟨Ao10, co10, zm⟩ := Kd.R_slice zh.out
 (first | subst zm | (injection zm with f1_ f2_ f3_; have f4_ := f1_.symm; have f5_ := f3_.symm; clear f1_ f2_ f3_; subst f4_; subst f5_))
 refine hK.out _ _ (h3 zc) (fun hHeld => ?_)
 clear hK K
 refine norm_ (a' := ?_) ?_ ?_
 rotate_left
 ·show Act.put _ (some 10) _ = _
  simp only [Act.put, sP, i64_w, i32_w]
  rfl
 refine pP (i := 8) (N := some 11) (bm 10 511) rfl rfl HT_.out ?_
 refine one_ (i := 9) (N := none) (bm 10 1023) rfl rfl (one_of HT_.out (by kernel_rfl)) (by decide) (fun K hK => ?_)
 have hs11 : w8.cell? ⟨zd, 0, none⟩ = some (.int .i64 0) := (blk_cell zb.out 0).trans rfl
 have hfs11 := blk_frozen zb.out 0
 have hns11_0 := za.out
 have hms11_0 := ze.out
 have hs12 : w8.cell? ⟨zd, 1, none⟩ = some (.slice none 0 0) := (blk_cell zb.out 1).trans rfl
 have hfs12 := blk_frozen zb.out 1
 have hns12_0 := za.out
 have hms12_0 := ze.out
 have hs13 : w8.cell? ⟨zd, 2, none⟩ = some (.slice none 0 0) := (blk_cell zb.out 2).trans rfl
 have hfs13 := blk_frozen zb.out 2
 have hns13_0 := za.out
 have hms13_0 := ze.out
 refine skip_ (w1 := ?_) (by rfl) rfl ?_ ?_
 rotate_left
 ·go_simp
  rfl
 refine hK.out _ _ ⟨((cell_far (p := ⟨zd, _, none⟩) za.out _).trans (((cell_far (p := ⟨zd, _, none⟩) za.out _).trans (((cell_far (p := ⟨zd, _, none⟩) za.out _).trans (hHeld.1)))))), ((cell_far (p := ⟨zd, _, none⟩) za.out _).trans (((cell_far (p := ⟨zd, _, none⟩) za.out _).trans (((cell_far (p := ⟨zd, _, none⟩) za.out _).trans (hHeld.2.1)))))), ((cell_far (p := ⟨zd, _, none⟩) za.out _).trans (((cell_far (p := ⟨zd, _, none⟩) za.out _).trans (((cell_far (p := ⟨zd, _, none⟩) za.out _).trans (hHeld.2.2))))))⟩ (fun hHeld => ?_)
 clear hK K
 refine done_ (done_of HT_.out (by kernel_rfl)) ?_
 try go_wp2
 refine bodyPost_ret (results_cell_row rfl _ _ zd 44 #[.int .i64 a0_0, .slice Ao10 zi.length co10, .slice Ao9 zj.length co9] (0, 0) _ rfl (by exact P3 zb) Try.underlying44 rfl (by kernel_rfl)) rfl ?_
 exact ⟨_, _, pE, by (with_reducible repeat (first | apply rA | apply rN | apply rD)); exact F3 zh zb (fun _ hk => hk.1.2), by (with_reducible repeat (first | apply rA | apply rN | apply rD)); exact F3 zl zb (fun _ hk => hk.1.2), qB2 HB zf zg⟩
end Go.Proofs.Ytcdiobcldhiemaa.Q
