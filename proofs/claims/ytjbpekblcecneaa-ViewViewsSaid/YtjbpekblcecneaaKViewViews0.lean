/- Texts of the proof of ViewViews, part 0: what functions of the program compute, and that they compute it. -/
import Derived.Test.YtjbpekblcecneaaWordsMore
import Derived.Test.YtjbpekblcecneaaProg
import Derived.Below
import Derived.Deep.Draws
import Derived.Deep.AppendLies
import Derived.Maps.AppendAt
import Derived.OwnWalk
import Derived.Laws.BytesArg
import Derived.Laws.MakeOwn
import Derived.Laws.OwnMore
import Derived.Deep.OwnRows
import Derived.Tactics
import Derived.Lib.ConvBytes
import Derived.Laws.Slices
import Derived.WalkKit
import Derived.KernelRfl
import Derived.RowKit3
import Derived.Deep.LoopGhost
import Derived.Deep.QuietTactic
import Derived.BigQuiet
import Derived.WideLaws
import Derived.Deep.DeepCutAuto
import Derived.Deep.CutBlock
import Derived.Deep.RegionHeld3
import Derived.Laws.Rows
import Derived.Lib.AppendStr
import Derived.ArgAppend
import Derived.Laws.IdiomCopy
import Derived.OrdersHeld
import Derived.Laws.BitsLemmas
import Derived.RowKit
import Derived.WalkMore
import Derived.WalkSpells
namespace Gr
/-- The product of some numbers. -/
def prod : List Int → Int
  | [] => 1
  | x :: l => x * prod l
/-- What is wrong with dims (0: nothing). -/
def chk (d : List Int) : Int :=
  if 6 < d.length then 9 else if d.any (fun x => decide (x < 1)) then 8 else if 64 < prod d then 12 else 0
theorem prod_append (a b : List Int) : prod (a ++ b) = prod a * prod b := by
  induction a with
  | nil => simp [prod]
  | cons x a ih => simp [prod, ih, Int.mul_assoc]
theorem prod_pos (l : List Int) (h : ∀ x ∈ l, 1 ≤ x) : 1 ≤ prod l := by
  induction l with
  | nil => simp [prod]
  | cons x l ih =>
    have h1 := h x (by simp)
    have h2 := ih (fun y hy => h y (by simp [hy]))
    have h3 : 0 < x * prod l := Int.mul_pos (by omega) (by omega)
    simp only [prod]
    omega
theorem prod_take_succ (l : List Int) (k : Nat) (h : k < l.length) : prod (l.take (k + 1)) = prod (l.take k) * l[k] := by
  rw [List.take_succ_eq_append_getElem h, prod_append]
  simp [prod]
theorem prod_take_le (l : List Int) (h : ∀ x ∈ l, 1 ≤ x) (k : Nat) : prod (l.take k) ≤ prod l := by
  have e : prod l = prod (l.take k) * prod (l.drop k) := by
    rw [← prod_append, List.take_append_drop]
  have h1 := prod_pos (l.take k) (fun x hx => h x (List.mem_of_mem_take hx))
  have h2 := prod_pos (l.drop k) (fun x hx => h x (List.mem_of_mem_drop hx))
  rw [e]
  have h3 : prod (l.take k) * 1 ≤ prod (l.take k) * prod (l.drop k) := Int.mul_le_mul_of_nonneg_left h2 (by omega)
  omega
end Gr
namespace Go.Proofs.Ytjbpekblcecneaa.Q
open Go.RowKit Go.Proofs.YtjbpekblcecneaaW.PrintWords Go.Proofs.YtjbpekblcecneaaW.PrintLast Go.Proofs.YtjbpekblcecneaaW.PrintMore
attribute [local go_sem] max2_int min2_int max_two min_two max_three min_three max_four min_four   -- for this text's walks alone
set_option linter.unusedVariables false
set_option linter.unusedSimpArgs false
def errW : Option Int → Value
  | none => .nilIface
  | some c => .iface 0 (.int .i64 c)
theorem errW_none : errW none = .nilIface := rfl
theorem errW_some (c : Int) : errW (some c) = .iface 0 (.int .i64 c) := rfl
theorem info3 : (Try.prog.info? 3).map (fun i => (i.zero, i.size, i.bytes)) = some (some (.int .i64 0), 1, 8) := by kernel_rfl
theorem info4 : (Try.prog.info? 4).map (fun i => (i.zero, i.size, i.bytes)) = some (some (.bool false), 1, 1) := by kernel_rfl
theorem info22 : (Try.prog.info? 22).map (fun i => (i.zero, i.size, i.bytes)) = some (some (.slice none 0 0), 1, 24) := by kernel_rfl
-- the values' own types
def rd_L1 (xs : List (List Int)) (i : Int) : (List Int) := xs.getD i.toNat ([] : List Int)
theorem at_L1 {w : World} {A : Option Addr} {n : Nat} {xs : List (List Int)} (h : Kd.C (Kd.slice 3 (Kd.int .i64)) w A n xs) (i : Int) (h0 : 0 ≤ i) (h1 : i < n) : ∃ ad A0 c0, A = some ad ∧ w.cell? (ad.add i.toNat) = some (.slice A0 (rd_L1 xs i).length c0) ∧ (rd_L1 xs i).length ≤ c0 ∧ (Kd.int .i64).C w A0 (rd_L1 xs i).length (rd_L1 xs i) := by
  obtain ⟨ad, c, e, _, hK, hc0⟩ := Kd.C_get h ([] : List Int) i h0 h1
  have hc : ∀ j u, c[j]? = some u → w.cell? (ad.add (i.toNat * 1 + j)) = some u := hc0
  obtain ⟨A0, c0, rfl, l0, g0⟩ := hK
  exact ⟨ad, A0, c0, e, by have hq := hc 0 _ rfl; rwa [Nat.mul_one, Nat.add_zero] at hq, l0, g0⟩
theorem pB {p q : Prop} (x : q) (h : q → p := by intro h_; repeat (first | (with_reducible first | exact h_ | apply below_alloc | apply pw_below_drewN | apply below_drew1) | exact h_)) : p := h x
theorem pR {p q : Prop} (x : q) (h : q → p := by intro h_; (with_reducible repeat (first | apply Kd.R_alloc | apply Kd.R_drewN | apply Kd.R_drew)); exact h_) : p := h x
theorem pV {p q : Prop} (x : q) (h : q → p := by intro h_; (with_reducible repeat (first | apply Kd.V_alloc | apply Kd.V_drewN | apply Kd.V_drew)); exact h_) : p := h x
theorem pC {p q : Prop} (x : q) (h : q → p := by intro h_; repeat (first | exact h_ | (with_reducible refine Kd.C_alloc ?_ _) | (with_reducible refine Kd.C_drewN ?_ _) | (with_reducible refine Kd.C_drew ?_))) : p := h x
theorem pA {p : Prop} (h : p := by (try simp only [List.map_toArray, List.map_cons, List.map_nil]); first | done | rfl | (simp only [List.length_drop, List.length_take]; rfl)) : p := h
theorem pB1 {p q g0 : Prop} (x : q) (yg0 : g0) (h : q → g0 → p := by intro h_ hg0_; repeat (first | (with_reducible first | exact h_ | apply below_alloc | apply pw_below_drewN | apply below_drew1 | refine below_set ?_ hg0_) | exact h_)) : p := h x yg0
theorem pB2 {p q g0 g1 : Prop} (x : q) (yg0 : g0) (yg1 : g1) (h : q → g0 → g1 → p := by intro h_ hg0_ hg1_; repeat (first | (with_reducible first | exact h_ | apply below_alloc | apply pw_below_drewN | apply below_drew1 | refine below_set ?_ hg0_ | refine below_set ?_ hg1_) | exact h_)) : p := h x yg0 yg1
theorem pB3 {p q g0 g1 g2 : Prop} (x : q) (yg0 : g0) (yg1 : g1) (yg2 : g2) (h : q → g0 → g1 → g2 → p := by intro h_ hg0_ hg1_ hg2_; repeat (first | (with_reducible first | exact h_ | apply below_alloc | apply pw_below_drewN | apply below_drew1 | refine below_set ?_ hg0_ | refine below_set ?_ hg1_ | refine below_set ?_ hg2_) | exact h_)) : p := h x yg0 yg1 yg2
theorem pB4 {p q g0 g1 g2 g3 : Prop} (x : q) (yg0 : g0) (yg1 : g1) (yg2 : g2) (yg3 : g3) (h : q → g0 → g1 → g2 → g3 → p := by intro h_ hg0_ hg1_ hg2_ hg3_; repeat (first | (with_reducible first | exact h_ | apply below_alloc | apply pw_below_drewN | apply below_drew1 | refine below_set ?_ hg0_ | refine below_set ?_ hg1_ | refine below_set ?_ hg2_ | refine below_set ?_ hg3_) | exact h_)) : p := h x yg0 yg1 yg2 yg3
theorem pB5 {p q g0 g1 g2 g3 g4 : Prop} (x : q) (yg0 : g0) (yg1 : g1) (yg2 : g2) (yg3 : g3) (yg4 : g4) (h : q → g0 → g1 → g2 → g3 → g4 → p := by intro h_ hg0_ hg1_ hg2_ hg3_ hg4_; repeat (first | (with_reducible first | exact h_ | apply below_alloc | apply pw_below_drewN | apply below_drew1 | refine below_set ?_ hg0_ | refine below_set ?_ hg1_ | refine below_set ?_ hg2_ | refine below_set ?_ hg3_ | refine below_set ?_ hg4_) | exact h_)) : p := h x yg0 yg1 yg2 yg3 yg4
theorem bN {w : World} {g : Nat} {o : Obj} {n : Nat} (h : w.heap[g]? = some o) : (w.drewN n).heap[g]? = some o := blk_drewN h n
theorem bD {w : World} {g : Nat} {o : Obj} (h : w.heap[g]? = some o) : w.drew.heap[g]? = some o := blk_drew h
theorem bA {w : World} {g : Nat} {o o' : Obj} (h : w.heap[g]? = some o) : (w.alloc o').heap[g]? = some o := blk_alloc h o'
theorem pK {p q : Prop} (x : q) (h : q → p := by intro h_; (with_reducible repeat (first | apply bN | apply bD | apply bA)); exact h_) : p := h x
theorem pE {p : Prop} (h : p := by first | rfl | (simp [errW_none, errW_some] <;> rfl) | (simp [*, errW_none, errW_some] <;> rfl)) : p := h
theorem pF {p : Prop} (h : p := by first | rfl | (simp; done) | (simp [*]; done)) : p := h
section
variable {P : Program} {ops : Array Oper} {Q : Exit → Act → World → Prop} {md : Region.Mode} {S : World → Prop} {ds : List Nat} {T : Bool × List (List Nat × List Nat)} {i : Nat} {N : Option Tmp} {oi : Oper} {v : Value} {fuel : Nat} {l : Array Bool} {a a' : Act} {w : World}
theorem pP (l' : Array Bool) (hi : ops[i]? = some oi) (hN : oi.dst = N) (hT : rtab md ops = T) (h : wpAnyLast P md ops Q S ds fuel l' a' w) (hc : anyT T l.toList l'.toList i = true := by kernel_rfl) (hQ : ∀ c a w, Q (.panic c) (a.put oi.dst v) w → Q (.panic c) a w := by exact fun _ _ _ h => h)
  (hy : Yields P ops oi v a := by refine Or.inl ⟨by rfl, ?_⟩; intro w'; go_simp; with_reducible rfl) (ha : a.put N v = a' := by simp only [Act.put, List.setIfInBounds_toArray, List.set_cons_zero, List.set_cons_succ, i64_w, i32_w]; rfl) : wpAnyLast P md ops Q S ds (fuel + 1) l a w := pure_ l' hi hN (any_of hT hc) hQ hy ha h
theorem pT {B : List Nat} (l' : Array Bool) (hi : ops[i]? = some oi) (hN : oi.dst = N) (hT : rtab md ops = T) (hB : waitsOk T.2 B = true) (hS : S w) (hy : ∀ w', S w' → (execOp a.eval oi).run P w' = .ok (.value v) w') (h : wpAnyLast P md ops Q S ds fuel l' a' w) (hc : takeW T B ds l.toList l'.toList i = true := by kernel_rfl) (hQ : ∀ c a w, Q (.panic c) (a.put oi.dst v) w → Q (.panic c) a w := by exact fun _ _ _ h => h)
  (hw : Region.wanted oi (yielded ops a.tmps) = true := by rfl) (ha : a.put N v = a' := by simp only [Act.put, List.setIfInBounds_toArray, List.set_cons_zero, List.set_cons_succ, i64_w, i32_w]; rfl) : wpAnyLast P md ops Q S ds (fuel + 1) l a w := take_ l' hi hN (take_ofW hT hB hc) hQ (Or.inl ⟨hw, hy⟩) hS ha h
end
theorem pD {p : Prop} (h : p := by first | (with_reducible assumption) | assumption) : p := h
theorem aM {p : Prop} (h : p) : Aside0 p := ⟨h⟩
theorem pH {α : Type} {p q : Prop} {a b : α} (e : a = b) (x : q) (h : a = b → q → p := by intro hy_ H; first | (rw [hy_]; with_reducible exact H) | (have H2_ := (Option.bind_some _ _).symm.trans H; rw [hy_]; with_reducible exact H2_) | (have H2_ := (Option.bind_some _ _).symm.trans H; with_reducible exact H2_) | with_reducible exact H | (rw [hy_]; exact H) | exact H) : p := h e x
theorem pN {p : Prop} (h : p := by first | exact Kd.R_nil _ _ _ _ _ | exact Kd.N_nil _ _ _ _ _ | exact Kd.V_nil _ _ _ _ _ | exact Kd.Q_nil _ _ _ _ _ | exact Kd.S_nil _ _ _ _ _) : p := h
section
variable {α : Type} {d : Kd α} {e base : Nat} {ok : Nat → Prop} {w : World} {v : Value} {xs : List α}
theorem rA (h : d.R e w base ok v xs) (o : Obj) : d.R e (w.alloc o) base ok v xs := Kd.R_alloc h o
theorem rN (h : d.R e w base ok v xs) (m : Nat) : d.R e (w.drewN m) base ok v xs := Kd.R_drewN h m
theorem rD (h : d.R e w base ok v xs) : d.R e w.drew base ok v xs := Kd.R_drew h
end
theorem blk2 {w : World} {g : Nat} {t : TypeId} {a0 a1 : Value} (h : w.heap[g]? = some (.cells #[a0, a1] t (0, 0))) : w.cell? ⟨g, 0, none⟩ = some a0 ∧ w.cell? ⟨g, 1, none⟩ = some a1 ∧ w.frozen? ⟨g, 0, none⟩ = false ∧ w.frozen? ⟨g, 1, none⟩ = false := ⟨(blk_cell h 0).trans rfl, (blk_cell h 1).trans rfl, blk_frozen h 0, blk_frozen h 1⟩
theorem blk3 {w : World} {g : Nat} {t : TypeId} {a0 a1 a2 : Value} (h : w.heap[g]? = some (.cells #[a0, a1, a2] t (0, 0))) : w.cell? ⟨g, 0, none⟩ = some a0 ∧ w.cell? ⟨g, 1, none⟩ = some a1 ∧ w.cell? ⟨g, 2, none⟩ = some a2 ∧ w.frozen? ⟨g, 0, none⟩ = false ∧ w.frozen? ⟨g, 1, none⟩ = false ∧ w.frozen? ⟨g, 2, none⟩ = false := ⟨(blk_cell h 0).trans rfl, (blk_cell h 1).trans rfl, (blk_cell h 2).trans rfl, blk_frozen h 0, blk_frozen h 1, blk_frozen h 2⟩
theorem blk4 {w : World} {g : Nat} {t : TypeId} {a0 a1 a2 a3 : Value} (h : w.heap[g]? = some (.cells #[a0, a1, a2, a3] t (0, 0))) : w.cell? ⟨g, 0, none⟩ = some a0 ∧ w.cell? ⟨g, 1, none⟩ = some a1 ∧ w.cell? ⟨g, 2, none⟩ = some a2 ∧ w.cell? ⟨g, 3, none⟩ = some a3 ∧ w.frozen? ⟨g, 0, none⟩ = false ∧ w.frozen? ⟨g, 1, none⟩ = false ∧ w.frozen? ⟨g, 2, none⟩ = false ∧ w.frozen? ⟨g, 3, none⟩ = false := ⟨(blk_cell h 0).trans rfl, (blk_cell h 1).trans rfl, (blk_cell h 2).trans rfl, (blk_cell h 3).trans rfl, blk_frozen h 0, blk_frozen h 1, blk_frozen h 2, blk_frozen h 3⟩
theorem blk5 {w : World} {g : Nat} {t : TypeId} {a0 a1 a2 a3 a4 : Value} (h : w.heap[g]? = some (.cells #[a0, a1, a2, a3, a4] t (0, 0))) : w.cell? ⟨g, 0, none⟩ = some a0 ∧ w.cell? ⟨g, 1, none⟩ = some a1 ∧ w.cell? ⟨g, 2, none⟩ = some a2 ∧ w.cell? ⟨g, 3, none⟩ = some a3 ∧ w.cell? ⟨g, 4, none⟩ = some a4 ∧ w.frozen? ⟨g, 0, none⟩ = false ∧ w.frozen? ⟨g, 1, none⟩ = false ∧ w.frozen? ⟨g, 2, none⟩ = false ∧ w.frozen? ⟨g, 3, none⟩ = false ∧ w.frozen? ⟨g, 4, none⟩ = false := ⟨(blk_cell h 0).trans rfl, (blk_cell h 1).trans rfl, (blk_cell h 2).trans rfl, (blk_cell h 3).trans rfl, (blk_cell h 4).trans rfl, blk_frozen h 0, blk_frozen h 1, blk_frozen h 2, blk_frozen h 3, blk_frozen h 4⟩
theorem blk6 {w : World} {g : Nat} {t : TypeId} {a0 a1 a2 a3 a4 a5 : Value} (h : w.heap[g]? = some (.cells #[a0, a1, a2, a3, a4, a5] t (0, 0))) : w.cell? ⟨g, 0, none⟩ = some a0 ∧ w.cell? ⟨g, 1, none⟩ = some a1 ∧ w.cell? ⟨g, 2, none⟩ = some a2 ∧ w.cell? ⟨g, 3, none⟩ = some a3 ∧ w.cell? ⟨g, 4, none⟩ = some a4 ∧ w.cell? ⟨g, 5, none⟩ = some a5 ∧ w.frozen? ⟨g, 0, none⟩ = false ∧ w.frozen? ⟨g, 1, none⟩ = false ∧ w.frozen? ⟨g, 2, none⟩ = false ∧ w.frozen? ⟨g, 3, none⟩ = false ∧ w.frozen? ⟨g, 4, none⟩ = false ∧ w.frozen? ⟨g, 5, none⟩ = false := ⟨(blk_cell h 0).trans rfl, (blk_cell h 1).trans rfl, (blk_cell h 2).trans rfl, (blk_cell h 3).trans rfl, (blk_cell h 4).trans rfl, (blk_cell h 5).trans rfl, blk_frozen h 0, blk_frozen h 1, blk_frozen h 2, blk_frozen h 3, blk_frozen h 4, blk_frozen h 5⟩
theorem blk7 {w : World} {g : Nat} {t : TypeId} {a0 a1 a2 a3 a4 a5 a6 : Value} (h : w.heap[g]? = some (.cells #[a0, a1, a2, a3, a4, a5, a6] t (0, 0))) : w.cell? ⟨g, 0, none⟩ = some a0 ∧ w.cell? ⟨g, 1, none⟩ = some a1 ∧ w.cell? ⟨g, 2, none⟩ = some a2 ∧ w.cell? ⟨g, 3, none⟩ = some a3 ∧ w.cell? ⟨g, 4, none⟩ = some a4 ∧ w.cell? ⟨g, 5, none⟩ = some a5 ∧ w.cell? ⟨g, 6, none⟩ = some a6 ∧ w.frozen? ⟨g, 0, none⟩ = false ∧ w.frozen? ⟨g, 1, none⟩ = false ∧ w.frozen? ⟨g, 2, none⟩ = false ∧ w.frozen? ⟨g, 3, none⟩ = false ∧ w.frozen? ⟨g, 4, none⟩ = false ∧ w.frozen? ⟨g, 5, none⟩ = false ∧ w.frozen? ⟨g, 6, none⟩ = false := ⟨(blk_cell h 0).trans rfl, (blk_cell h 1).trans rfl, (blk_cell h 2).trans rfl, (blk_cell h 3).trans rfl, (blk_cell h 4).trans rfl, (blk_cell h 5).trans rfl, (blk_cell h 6).trans rfl, blk_frozen h 0, blk_frozen h 1, blk_frozen h 2, blk_frozen h 3, blk_frozen h 4, blk_frozen h 5, blk_frozen h 6⟩
theorem blk8 {w : World} {g : Nat} {t : TypeId} {a0 a1 a2 a3 a4 a5 a6 a7 : Value} (h : w.heap[g]? = some (.cells #[a0, a1, a2, a3, a4, a5, a6, a7] t (0, 0))) : w.cell? ⟨g, 0, none⟩ = some a0 ∧ w.cell? ⟨g, 1, none⟩ = some a1 ∧ w.cell? ⟨g, 2, none⟩ = some a2 ∧ w.cell? ⟨g, 3, none⟩ = some a3 ∧ w.cell? ⟨g, 4, none⟩ = some a4 ∧ w.cell? ⟨g, 5, none⟩ = some a5 ∧ w.cell? ⟨g, 6, none⟩ = some a6 ∧ w.cell? ⟨g, 7, none⟩ = some a7 ∧ w.frozen? ⟨g, 0, none⟩ = false ∧ w.frozen? ⟨g, 1, none⟩ = false ∧ w.frozen? ⟨g, 2, none⟩ = false ∧ w.frozen? ⟨g, 3, none⟩ = false ∧ w.frozen? ⟨g, 4, none⟩ = false ∧ w.frozen? ⟨g, 5, none⟩ = false ∧ w.frozen? ⟨g, 6, none⟩ = false ∧ w.frozen? ⟨g, 7, none⟩ = false := ⟨(blk_cell h 0).trans rfl, (blk_cell h 1).trans rfl, (blk_cell h 2).trans rfl, (blk_cell h 3).trans rfl, (blk_cell h 4).trans rfl, (blk_cell h 5).trans rfl, (blk_cell h 6).trans rfl, (blk_cell h 7).trans rfl, blk_frozen h 0, blk_frozen h 1, blk_frozen h 2, blk_frozen h 3, blk_frozen h 4, blk_frozen h 5, blk_frozen h 6, blk_frozen h 7⟩
theorem blk9 {w : World} {g : Nat} {t : TypeId} {a0 a1 a2 a3 a4 a5 a6 a7 a8 : Value} (h : w.heap[g]? = some (.cells #[a0, a1, a2, a3, a4, a5, a6, a7, a8] t (0, 0))) : w.cell? ⟨g, 0, none⟩ = some a0 ∧ w.cell? ⟨g, 1, none⟩ = some a1 ∧ w.cell? ⟨g, 2, none⟩ = some a2 ∧ w.cell? ⟨g, 3, none⟩ = some a3 ∧ w.cell? ⟨g, 4, none⟩ = some a4 ∧ w.cell? ⟨g, 5, none⟩ = some a5 ∧ w.cell? ⟨g, 6, none⟩ = some a6 ∧ w.cell? ⟨g, 7, none⟩ = some a7 ∧ w.cell? ⟨g, 8, none⟩ = some a8 ∧ w.frozen? ⟨g, 0, none⟩ = false ∧ w.frozen? ⟨g, 1, none⟩ = false ∧ w.frozen? ⟨g, 2, none⟩ = false ∧ w.frozen? ⟨g, 3, none⟩ = false ∧ w.frozen? ⟨g, 4, none⟩ = false ∧ w.frozen? ⟨g, 5, none⟩ = false ∧ w.frozen? ⟨g, 6, none⟩ = false ∧ w.frozen? ⟨g, 7, none⟩ = false ∧ w.frozen? ⟨g, 8, none⟩ = false := ⟨(blk_cell h 0).trans rfl, (blk_cell h 1).trans rfl, (blk_cell h 2).trans rfl, (blk_cell h 3).trans rfl, (blk_cell h 4).trans rfl, (blk_cell h 5).trans rfl, (blk_cell h 6).trans rfl, (blk_cell h 7).trans rfl, (blk_cell h 8).trans rfl, blk_frozen h 0, blk_frozen h 1, blk_frozen h 2, blk_frozen h 3, blk_frozen h 4, blk_frozen h 5, blk_frozen h 6, blk_frozen h 7, blk_frozen h 8⟩
theorem blk10 {w : World} {g : Nat} {t : TypeId} {a0 a1 a2 a3 a4 a5 a6 a7 a8 a9 : Value} (h : w.heap[g]? = some (.cells #[a0, a1, a2, a3, a4, a5, a6, a7, a8, a9] t (0, 0))) : w.cell? ⟨g, 0, none⟩ = some a0 ∧ w.cell? ⟨g, 1, none⟩ = some a1 ∧ w.cell? ⟨g, 2, none⟩ = some a2 ∧ w.cell? ⟨g, 3, none⟩ = some a3 ∧ w.cell? ⟨g, 4, none⟩ = some a4 ∧ w.cell? ⟨g, 5, none⟩ = some a5 ∧ w.cell? ⟨g, 6, none⟩ = some a6 ∧ w.cell? ⟨g, 7, none⟩ = some a7 ∧ w.cell? ⟨g, 8, none⟩ = some a8 ∧ w.cell? ⟨g, 9, none⟩ = some a9 ∧ w.frozen? ⟨g, 0, none⟩ = false ∧ w.frozen? ⟨g, 1, none⟩ = false ∧ w.frozen? ⟨g, 2, none⟩ = false ∧ w.frozen? ⟨g, 3, none⟩ = false ∧ w.frozen? ⟨g, 4, none⟩ = false ∧ w.frozen? ⟨g, 5, none⟩ = false ∧ w.frozen? ⟨g, 6, none⟩ = false ∧ w.frozen? ⟨g, 7, none⟩ = false ∧ w.frozen? ⟨g, 8, none⟩ = false ∧ w.frozen? ⟨g, 9, none⟩ = false := ⟨(blk_cell h 0).trans rfl, (blk_cell h 1).trans rfl, (blk_cell h 2).trans rfl, (blk_cell h 3).trans rfl, (blk_cell h 4).trans rfl, (blk_cell h 5).trans rfl, (blk_cell h 6).trans rfl, (blk_cell h 7).trans rfl, (blk_cell h 8).trans rfl, (blk_cell h 9).trans rfl, blk_frozen h 0, blk_frozen h 1, blk_frozen h 2, blk_frozen h 3, blk_frozen h 4, blk_frozen h 5, blk_frozen h 6, blk_frozen h 7, blk_frozen h 8, blk_frozen h 9⟩
theorem sP : (∀ {α : Type} (l : List α) (i : Nat) (a : α), l.toArray.setIfInBounds i a = (l.set i a).toArray) ∧ (∀ {α : Type} (a b : α) (l : List α), (a :: l).set 0 b = b :: l) ∧ (∀ {α : Type} (a b : α) (l : List α) (n : Nat), (a :: l).set (n + 1) b = a :: l.set n b) := ⟨fun _ _ _ => by simp, fun _ _ _ => rfl, fun _ _ _ _ => rfl⟩
section
variable {w W w1 : World} {g n : Nat} {o : Obj} {q : Prop}
theorem bK (x : Aside0 q) (hb : Below w.heap.size w w1) (h : q → w.heap[g]? = some o := by intro h_; (with_reducible repeat (first | apply bN | apply bD | apply bA)); exact h_) : Aside0 (w1.heap[g]? = some o) := ⟨blk_below (h x.out) hb⟩
theorem nL (hg : n = w.heap.size) (x : Aside0 q) (h : q → w.heap[g]? = some o := by intro h_; (with_reducible repeat (first | apply bN | apply bD | apply bA)); exact h_) : Aside0 (g ≠ n) := ⟨hg ▸ Nat.ne_of_lt (blk_lt (h x.out))⟩
theorem nG (hg : n = w.heap.size) (x : Aside0 q) (h : q → w.heap[g]? = some o := by intro h_; (with_reducible repeat (first | apply bN | apply bD | apply bA)); exact h_) : Aside0 (n ≠ g) := ⟨hg ▸ Nat.ne_of_gt (blk_lt (h x.out))⟩
theorem bS (h : Below w.heap.size w W) (k : Below W.heap.size W w1) : Aside0 (Below w.heap.size w w1) := ⟨below_step h k⟩
theorem gE (hg : g = W.heap.size) (h : Below w.heap.size w W) : Aside0 (w.heap.size ≤ g) := ⟨hg ▸ below_size h⟩
theorem qB {p : Prop} (x : Aside0 q) (h : q → p := by intro h_; repeat (first | (with_reducible first | exact h_ | apply below_alloc | apply pw_below_drewN | apply below_drew1) | exact h_)) : p := h x.out
theorem B3 {u0 u1 u2 : Value} {i0 i1 i2 : Nat} {g' : Nat} {t : TypeId} {cs : Array Value} (hne : Aside0 (g ≠ g')) (h : w.heap[g]? = some (.cells cs t (0, 0))) : (((w.setCell ⟨g', i0, none⟩ u0).setCell ⟨g', i1, none⟩ u1).setCell ⟨g', i2, none⟩ u2).heap[g]? = some (.cells cs t (0, 0)) := blk_far (blk_far (blk_far h hne.out _) hne.out _) hne.out _
theorem P3 {a0 a1 a2 u0 u1 u2 : Value} {t : TypeId} (h : Aside0 (w.heap[g]? = some (.cells #[a0, a1, a2] t (0, 0)))) : (((w.setCell ⟨g, 0, none⟩ u0).setCell ⟨g, 1, none⟩ u1).setCell ⟨g, 2, none⟩ u2).heap[g]? = some (.cells #[u0, u1, u2] t (0, 0)) := blk_put (cs := #[u0, u1, a2]) (blk_put (cs := #[u0, a1, a2]) (blk_put (cs := #[a0, a1, a2]) h.out 0 u0 rfl) 1 u1 rfl) 2 u2 rfl
section
variable {α β : Type} {d : Kd α} {e base : Nat} {ok ok' : Nat → Prop} {v : Value} {xs : List α}
theorem bR (x : Aside0 q) (hb : Below w.heap.size w w1) (h : q → d.R e w base ok v xs := by intro h_; (with_reducible repeat (first | apply Kd.R_alloc | apply Kd.R_drewN | apply Kd.R_drew)); exact h_) : Aside0 (d.R e w1 base ok v xs) := ⟨Kd.R_below (h x.out) hb⟩
theorem eR {u : Value} {ys : List β} {e' : Nat} {d' : Kd β} (x : Aside0 q) (ho : d'.R e' w1 W.heap.size ok' u ys) (hb : Below W.heap.size W w1) (h : q → d.R e W base ok v xs := by intro h_; (with_reducible repeat (first | apply Kd.R_alloc | apply Kd.R_drewN | apply Kd.R_drew)); exact h_) : Aside0 (d.R e w1 base (fun k => ok k ∧ some k ≠ u.ownBlock) v xs) := ⟨Kd.R_elder' (h x.out) (Kd.R_base ho) hb⟩
theorem eR2 {γ : Type} {u u' : Value} {ys : List β} {zs : List γ} {e' e'' : Nat} {ok'' : Nat → Prop} {d' : Kd β} {d'' : Kd γ} (x : Aside0 q) (ho : d'.R e' w1 W.heap.size ok' u ys) (ho' : d''.R e'' w1 W.heap.size ok'' u' zs) (hb : Below W.heap.size W w1) (h : q → d.R e W base ok v xs := by intro h_; (with_reducible repeat (first | apply Kd.R_alloc | apply Kd.R_drewN | apply Kd.R_drew)); exact h_) : Aside0 (d.R e w1 base (fun k => (ok k ∧ some k ≠ u.ownBlock) ∧ some k ≠ u'.ownBlock) v xs) := ⟨Kd.R_mono (Kd.R_told (Kd.R_told (Kd.R_old (h x.out) hb) (Kd.R_base ho)) (Kd.R_base ho')) (fun _ h_ => h_.1)⟩
theorem sR {A : Option Addr} {m c : Nat} {p : Prop} (x : Aside0 (d.R e w base ok (.slice A m c) xs)) (h : d.C w A xs.length xs → p := by intro h_; repeat (first | exact h_ | (with_reducible refine Kd.C_alloc ?_ _) | (with_reducible refine Kd.C_drewN ?_ _) | (with_reducible refine Kd.C_drew ?_))) : p := h (Kd.R_reads' x.out).2.2
theorem sL {A : Option Addr} {m c : Nat} (x : Aside0 (d.R e w base ok (.slice A m c) xs)) : m ≤ c := (Kd.R_reads' x.out).2.1
theorem sC {A : Option Addr} {m : Nat} {p : Prop} (x : Aside0 (d.C w A m xs)) (hb : Aside0 (Below w.heap.size w w1)) (h : d.C w1 A m xs → p := by intro h_; repeat (first | exact h_ | (with_reducible refine Kd.C_alloc ?_ _) | (with_reducible refine Kd.C_drewN ?_ _) | (with_reducible refine Kd.C_drew ?_))) : p := h (Kd.C_below x.out hb.out)
theorem F3 {cells : Array Value} {t : TypeId} {u0 u1 u2 : Value} (h : Aside0 (d.R e w base ok v xs)) (hb : Aside0 (w.heap[g]? = some (.cells cells t (0, 0)))) (hk : ∀ k, ok k ∧ k ≠ g → ok' k) (ht : ∀ q, q ∈ e :: d.E → q ≠ t := by decide) : d.R e (((w.setCell ⟨g, 0, none⟩ u0).setCell ⟨g, 1, none⟩ u1).setCell ⟨g, 2, none⟩ u2) base ok' v xs := Kd.R_mono (Kd.R_far (p := ⟨g, 2, none⟩) (Kd.R_far (p := ⟨g, 1, none⟩) (Kd.R_far (p := ⟨g, 0, none⟩) (Kd.R_types h.out hb.out ht) (fun _ h => h.2) u0) (fun _ h => h.2) u1) (fun _ h => h.2) u2) hk
end
end
theorem qB1 {p q g0 : Prop} (x : Aside0 q) (yg0 : Aside0 g0) (h : q → g0 → p := by intro h_ hg0_; repeat (first | (with_reducible first | exact h_ | apply below_alloc | apply pw_below_drewN | apply below_drew1 | refine below_set ?_ hg0_) | exact h_)) : p := h x.out yg0.out
theorem qB2 {p q g0 g1 : Prop} (x : Aside0 q) (yg0 : Aside0 g0) (yg1 : Aside0 g1) (h : q → g0 → g1 → p := by intro h_ hg0_ hg1_; repeat (first | (with_reducible first | exact h_ | apply below_alloc | apply pw_below_drewN | apply below_drew1 | refine below_set ?_ hg0_ | refine below_set ?_ hg1_) | exact h_)) : p := h x.out yg0.out yg1.out
theorem qB3 {p q g0 g1 g2 : Prop} (x : Aside0 q) (yg0 : Aside0 g0) (yg1 : Aside0 g1) (yg2 : Aside0 g2) (h : q → g0 → g1 → g2 → p := by intro h_ hg0_ hg1_ hg2_; repeat (first | (with_reducible first | exact h_ | apply below_alloc | apply pw_below_drewN | apply below_drew1 | refine below_set ?_ hg0_ | refine below_set ?_ hg1_ | refine below_set ?_ hg2_) | exact h_)) : p := h x.out yg0.out yg1.out yg2.out
theorem qB4 {p q g0 g1 g2 g3 : Prop} (x : Aside0 q) (yg0 : Aside0 g0) (yg1 : Aside0 g1) (yg2 : Aside0 g2) (yg3 : Aside0 g3) (h : q → g0 → g1 → g2 → g3 → p := by intro h_ hg0_ hg1_ hg2_ hg3_; repeat (first | (with_reducible first | exact h_ | apply below_alloc | apply pw_below_drewN | apply below_drew1 | refine below_set ?_ hg0_ | refine below_set ?_ hg1_ | refine below_set ?_ hg2_ | refine below_set ?_ hg3_) | exact h_)) : p := h x.out yg0.out yg1.out yg2.out yg3.out
theorem qB5 {p q g0 g1 g2 g3 g4 : Prop} (x : Aside0 q) (yg0 : Aside0 g0) (yg1 : Aside0 g1) (yg2 : Aside0 g2) (yg3 : Aside0 g3) (yg4 : Aside0 g4) (h : q → g0 → g1 → g2 → g3 → g4 → p := by intro h_ hg0_ hg1_ hg2_ hg3_ hg4_; repeat (first | (with_reducible first | exact h_ | apply below_alloc | apply pw_below_drewN | apply below_drew1 | refine below_set ?_ hg0_ | refine below_set ?_ hg1_ | refine below_set ?_ hg2_ | refine below_set ?_ hg3_ | refine below_set ?_ hg4_) | exact h_)) : p := h x.out yg0.out yg1.out yg2.out yg3.out yg4.out
def gradinelaw22_Many.f (a0_0 : Int) (l0_1 : List Int) (l0_2 : List Int) : Option (Bool) := if (l0_1.length : Int) > 20 then (some true) else (some (decide ((l0_2.length : Int) > 20)))
set_option maxHeartbeats 8000000 in
set_option maxRecDepth 100000 in
theorem gradinelaw22_Many.calls (a0_0 : Int) (A0_1 : Option Addr) (c0_1 : Nat) (l0_1 : List Int) (A0_2 : Option Addr) (c0_2 : Nat) (l0_2 : List Int) (r : Bool) (w : World) (hr0_1 : Kd.C (Kd.int .i64) w A0_1 l0_1.length l0_1) (hc0_1 : l0_1.length ≤ c0_1) (hr0_2 : Kd.C (Kd.int .i64) w A0_2 l0_2.length l0_2) (hc0_2 : l0_2.length ≤ c0_2) (h : gradinelaw22_Many.f a0_0 l0_1 l0_2 = some r) :
  Calls Try.prog 8 #[.agg #[.int .i64 a0_0, .slice A0_1 l0_1.length c0_1, .slice A0_2 l0_2.length c0_2]] w fun e w' => e = .returned (.bool r) ∧ Below w.heap.size w w' := by
 have hu24 := Try.underlying24
 have HR0_1 := aM hr0_1
 have HC0_1 := aM hc0_1
 clear hr0_1 hc0_1
 have HR0_2 := aM hr0_2
 have HC0_2 := aM hc0_2
 clear hr0_2 hc0_2
 have HB := aM (Below.refl w.heap.size w)
 have H : (if (l0_1.length : Int) > 20 then (some true) else (some (decide ((l0_2.length : Int) > 20)))) = some r := h
 clear h
 by_cases c2 : (l0_1.length : Int) > 20
 ·rw [if_pos c2] at H
  have c2b0 : decide (20 < (l0_1.length : Int)) = true := decide_eq_true c2
  have c2b1 : decide (20 < l0_1.length) = true := decide_eq_true (by omega)
  clear c2
  obtain rfl := Option.some.inj H
  go_enter Try.func8, Try.ntmps8
  go_wp2_with (first | ((with_reducible refine gate_dst (N := 1) rfl ?_); (try (refine gate_guard (by rfl) ?_; dsimp only)); refine box_event ?hg (N := 1) ?hd (cs := #[.int .i64 a0_0, .slice A0_1 l0_1.length c0_1, .slice A0_2 l0_2.length c0_2]) (t := 24) ?hr ?_; (case hd => rfl); (case hg => rfl); (case hr => first | (go_simp; done) | (go_simp; rfl)); intro gb101 hg w3 hbox hb; have BK101 := aM (hbox); have GW101 := gE (w := w) hg (qB HB); have GE101 := GW101; replace HB := bS (qB HB) hb; clear hb hbox hg; obtain ⟨hcz4_0, hcz4_1, hcz4_2, hfz4_0, hfz4_1, hfz4_2⟩ := blk3 BK101.out))
  go_ret
  exact ⟨pE, qB1 HB GE101⟩
 rw [if_neg c2] at H
 have c2b0 : decide (20 < (l0_1.length : Int)) = false := decide_eq_false c2
 have c2b1 : decide (20 < l0_1.length) = false := decide_eq_false (by omega)
 clear c2
 obtain rfl := Option.some.inj H
 go_enter Try.func8, Try.ntmps8
 go_wp2_with (first | ((with_reducible refine gate_dst (N := 1) rfl ?_); (try (refine gate_guard (by rfl) ?_; dsimp only)); refine box_event ?hg (N := 1) ?hd (cs := #[.int .i64 a0_0, .slice A0_1 l0_1.length c0_1, .slice A0_2 l0_2.length c0_2]) (t := 24) ?hr ?_; (case hd => rfl); (case hg => rfl); (case hr => first | (go_simp; done) | (go_simp; rfl)); intro gb101 hg w5 hbox hb; have BK101 := aM (hbox); have GW101 := gE (w := w) hg (qB HB); have GE101 := GW101; replace HB := bS (qB HB) hb; clear hb hbox hg; obtain ⟨hcz6_0, hcz6_1, hcz6_2, hfz6_0, hfz6_1, hfz6_2⟩ := blk3 BK101.out))
 go_ret
 exact ⟨pE, qB1 HB GE101⟩
theorem GrW.rd_get (l : List Int) (k : Nat) (h : k < l.length) : rd l (k : Int) = l[k] := by
  simp [rd, List.getD_eq_getElem?_getD, List.getElem?_eq_getElem h]
theorem GrW.rd_pos (l : List Int) (k : Nat) (h : k < l.length) (hp : ∀ x ∈ l, 1 ≤ x) : 1 ≤ rd l (k : Int) := by
  rw [GrW.rd_get l k h]; exact hp _ (List.getElem_mem h)
theorem GrW.chk_8 (l : List Int) (h6 : ¬ 6 < l.length) (k : Nat) (h : k < l.length) (h1 : rd l (k : Int) < 1) : Gr.chk l = 8 := by
  rw [GrW.rd_get l k h] at h1
  unfold Gr.chk
  rw [if_neg h6, if_pos]
  rw [List.any_eq_true]
  exact ⟨l[k], List.getElem_mem h, by simpa using h1⟩
theorem GrW.all_succ (l : List Int) (k : Nat) (h : k < l.length) (ha : ∀ x ∈ l.take k, 1 ≤ x) (h1 : ¬ rd l (k : Int) < 1) : ∀ x ∈ l.take (k + 1), 1 ≤ x := by
  rw [GrW.rd_get l k h] at h1
  intro x hx
  rw [List.take_succ_eq_append_getElem h, List.mem_append] at hx
  rcases hx with hx | hx
  · exact ha x hx
  · simp at hx; omega
theorem GrW.prod_take_rd (l : List Int) (k : Nat) (h : k < l.length) : Gr.prod (l.take (k + 1)) = Gr.prod (l.take k) * rd l (k : Int) := by
  rw [GrW.rd_get l k h]; exact Gr.prod_take_succ l k h
theorem GrW.any_false (l : List Int) (hp : ∀ x ∈ l, 1 ≤ x) : (l.any fun x => decide (x < 1)) = false := by
  rw [List.any_eq_false]
  intro x hx
  have := hp x hx
  simp; omega
theorem GrW.chk_0 (l : List Int) (h6 : ¬ 6 < l.length) (hp : ∀ x ∈ l, 1 ≤ x) (h : Gr.prod l ≤ 64) : Gr.chk l = 0 := by
  unfold Gr.chk
  rw [if_neg h6, GrW.any_false l hp, if_neg (by simp), if_neg (by omega)]
theorem GrW.chk_12 (l : List Int) (h6 : ¬ 6 < l.length) (hp : ∀ x ∈ l, 1 ≤ x) (k : Nat) (h : k < l.length) (h2 : 64 / Gr.prod (l.take k) < rd l (k : Int)) : Gr.chk l = 12 := by
  have h1 := Gr.prod_pos (l.take k) (fun x hx => hp x (List.mem_of_mem_take hx))
  have h3 : 64 < rd l (k : Int) * Gr.prod (l.take k) := (Int.ediv_lt_iff_lt_mul (by omega)).1 h2
  have h4 := Gr.prod_take_le l hp (k + 1)
  rw [GrW.prod_take_rd l k h, Int.mul_comm] at h4
  unfold Gr.chk
  rw [if_neg h6, GrW.any_false l hp, if_neg (by simp), if_pos (by omega)]
theorem GrW.mul_le_of_div (l : List Int) (k : Nat) (h1 : 1 ≤ Gr.prod (l.take k)) (h : rd l (k : Int) ≤ 64 / Gr.prod (l.take k)) : Gr.prod (l.take k) * rd l (k : Int) ≤ 64 := by
  have := (Int.le_ediv_iff_mul_le (by omega)).1 h
  rw [Int.mul_comm]; exact this
def shape_Check.f (l0 : List Int) : Option Int := some (Gr.chk l0)
set_option maxHeartbeats 400000 in
set_option maxRecDepth 100000 in
theorem shape_Check.calls (A0 : Option Addr) (c0 : Nat) (l0 : List Int) (r : Int) (w : World) (hr0 : Kd.C (Kd.int .i64) w A0 l0.length l0) (hc0 : l0.length ≤ c0) (h : shape_Check.f l0 = some r) :
    Calls Try.prog 41 #[.slice A0 l0.length c0] w fun e w' => e = .returned (.int .i64 r) ∧ Drawn0 w w' := by
  have HR0 := Aside0.mk hr0
  clear hr0 hc0
  obtain rfl := Option.some.inj h
  clear h
  by_cases h6 : 6 < l0.length
  · have h6b : decide (6 < l0.length) = true := decide_eq_true h6
    have h6c : decide (6 < (l0.length : Int)) = true := decide_eq_true (by omega)
    have hr : Gr.chk l0 = 9 := by simp [Gr.chk, h6]
    have HH := Aside0.mk hr
    clear hr
    go_enter Try.func41, Try.ntmps41
    go_wp2
    go_step3
    go_wp2
    try rw [Exit.noGoto_ret]
    go_ret
    exact ⟨by rw [HH.out]; rfl, Drawn0.refl _⟩
  · have h6b : decide (6 < l0.length) = false := decide_eq_false h6
    have h6c : decide (6 < (l0.length : Int)) = false := decide_eq_false (by omega)
    have hlen : (l0.length : Int) ≤ 6 := by omega
    go_enter Try.func41, Try.ntmps41
    go_wp2
    go_step3
    go_wp2
    go_loop [13] (fun i => ∃ k : Nat, k ≤ l0.length ∧ i = .int .i64 k ∧ Aside0 (∀ x ∈ l0.take k, 1 ≤ x)) (fun i => l0.length - (intOf i).toNat)
    case atStart => exact ⟨0, by omega, rfl, ⟨by simp⟩⟩
    case round =>
      obtain ⟨k, hk, rfl, HA⟩ := hrel
      by_cases hlt : k < l0.length
      · have hb : decide ((k : Int) < (l0.length : Int)) = true := decide_eq_true (by omega)
        obtain ⟨ad, e, hx⟩ := Kd.at_int HR0.out (k : Int) (by omega) (by omega)
        cases e
        rw [Int.toNat_natCast] at hx
        by_cases h1 : rd l0 (k : Int) < 1
        · have h1b : decide (rd l0 (k : Int) < 1) = true := decide_eq_true h1
          have HH : Aside0 (Gr.chk l0 = 8) := Aside0.mk (GrW.chk_8 l0 h6 k hlt h1)
          go_wp2
          try rw [Exit.noGoto_ret]
          go_ret
          exact ⟨by rw [HH.out]; rfl, Drawn0.refl _⟩
        · have h1b : decide (rd l0 (k : Int) < 1) = false := decide_eq_false h1
          have HA1 := Aside0.mk (GrW.all_succ l0 k hlt HA.out h1)
          go_wp2
          go_round
          case measure => simp [intOf]; omega
          case rel => exact ⟨k + 1, by omega, by go_num, HA1⟩
      · have hb : decide ((k : Int) < (l0.length : Int)) = false := decide_eq_false (by omega)
        have HP : Aside0 (∀ x ∈ l0, 1 ≤ x) := ⟨by have := HA.out; rwa [List.take_of_length_le (by omega)] at this⟩
        clear HA
        go_wp2
        go_step3
        go_wp2
        go_loop [5, 22] (fun n i => ∃ k : Nat, k ≤ l0.length ∧ i = .int .i64 k ∧ n = .int .i64 (Gr.prod (l0.take k)) ∧ Gr.prod (l0.take k) ≤ 64) (fun n i => l0.length - (intOf i).toNat)
        case atStart => exact ⟨0, by omega, rfl, rfl, by simp [Gr.prod]⟩
        case round =>
          obtain ⟨k, hk, rfl, rfl, h64⟩ := hrel
          have hp1 := Gr.prod_pos (l0.take k) (fun x hx => HP.out x (List.mem_of_mem_take hx))
          by_cases hlt : k < l0.length
          · have hb : decide ((k : Int) < (l0.length : Int)) = true := decide_eq_true (by omega)
            obtain ⟨ad, e, hx⟩ := Kd.at_int HR0.out (k : Int) (by omega) (by omega)
            cases e
            rw [Int.toNat_natCast] at hx
            have hs := Aside0.mk (GrW.prod_take_rd l0 k hlt)
            have hx1 : 1 ≤ rd l0 (k : Int) := GrW.rd_pos l0 k hlt HP.out
            by_cases h1 : rd l0 (k : Int) = 1
            · have h1b : (rd l0 (k : Int) == 1) = true := by rw [h1]; rfl
              have hs2 : Aside0 (Gr.prod (l0.take (k + 1)) = Gr.prod (l0.take k)) := Aside0.mk (by rw [hs.out, h1]; omega)
              clear h1
              go_wp2
              go_round
              case measure => simp [intOf]; omega
              case rel => exact ⟨k + 1, by omega, by go_num, by rw [hs2.out], by rw [hs2.out]; exact h64⟩
            · have h1b : (rd l0 (k : Int) == 1) = false := beq_eq_false_iff_ne.mpr h1
              by_cases h2 : 64 / Gr.prod (l0.take k) < rd l0 (k : Int)
              · have h2b : decide (64 / Gr.prod (l0.take k) < rd l0 (k : Int)) = true := decide_eq_true h2
                have HH : Aside0 (Gr.chk l0 = 12) := Aside0.mk (GrW.chk_12 l0 h6 HP.out k hlt h2)
                go_wp2
                try rw [Exit.noGoto_ret]
                go_ret
                exact ⟨by rw [HH.out]; rfl, Drawn0.refl _⟩
              · have h2b : decide (64 / Gr.prod (l0.take k) < rd l0 (k : Int)) = false := decide_eq_false h2
                have h3 := GrW.mul_le_of_div l0 k hp1 (by omega : rd l0 (k : Int) ≤ 64 / Gr.prod (l0.take k))
                have h4 : 0 ≤ Gr.prod (l0.take k) * rd l0 (k : Int) := Int.mul_nonneg (by omega) (by omega)
                go_wp2
                go_round
                case measure => simp [intOf]; omega
                case rel => exact ⟨k + 1, by omega, by go_num, by rw [hs.out], by rw [hs.out]; exact h3⟩
          · have hb : decide ((k : Int) < (l0.length : Int)) = false := decide_eq_false (by omega)
            have HH : Aside0 (Gr.chk l0 = 0) := Aside0.mk (GrW.chk_0 l0 h6 HP.out (by rwa [List.take_of_length_le (by omega)] at h64))
            go_wp2
            try rw [Exit.noGoto_ret]
            go_ret
            exact ⟨by rw [HH.out]; rfl, Drawn0.refl _⟩
def view_reach.f (a0 : Int) (a1 : Int) (a2 : Int) : Option (Int × Bool) := if a0 = 1 then (some (0, true)) else (if a1 ≥ a2 then (some (0, false)) else (if a1 ≤ (wrap64 (-a2)) then (some (0, false)) else (some (wrap64 ((wrap64 (a0 - 1)) * a1), true))))
set_option maxHeartbeats 8000000 in
set_option maxRecDepth 100000 in
theorem view_reach.calls (a0 : Int) (a1 : Int) (a2 : Int) (r1 : Int) (r2 : Bool) (w : World) (h : view_reach.f a0 a1 a2 = some (r1, r2)) :
  Calls Try.prog 42 #[.int .i64 a0, .int .i64 a1, .int .i64 a2] w fun e w' => e = .returned (.tuple #[.int .i64 r1, .bool r2]) ∧ Drawn0 w w' := by
 have H : (if a0 = 1 then (some (0, true)) else (if a1 ≥ a2 then (some (0, false)) else (if a1 ≤ (wrap64 (-a2)) then (some (0, false)) else (some (wrap64 ((wrap64 (a0 - 1)) * a1), true))))) = some (r1, r2) := h
 clear h
 by_cases c4 : a0 = 1
 ·rw [if_pos c4] at H
  have c4b0 : (a0 == 1) = true := beq_iff_eq.mpr c4
  have c4b1 : (a0 != 1) = false := bne_eq_false_iff_eq.mpr c4
  clear c4
  simp only [Option.some.injEq, Prod.mk.injEq] at H
  obtain ⟨rfl, rfl⟩ := H
  go_enter Try.func42, Try.ntmps42
  go_wp2
  go_ret2
  exact ⟨pF, by repeat (first | exact Drawn0.refl _ | apply Drawn0.step)⟩
 rw [if_neg c4] at H
 have c4b0 : (a0 == 1) = false := beq_eq_false_iff_ne.mpr c4
 have c4b1 : (a0 != 1) = true := bne_iff_ne.mpr c4
 by_cases c5 : a1 ≥ a2
 ·rw [if_pos c5] at H
  have c5b0 : decide (a2 ≤ a1) = true := decide_eq_true c5
  clear c5
  simp only [Option.some.injEq, Prod.mk.injEq] at H
  obtain ⟨rfl, rfl⟩ := H
  go_enter Try.func42, Try.ntmps42
  go_wp2
  go_ret2
  exact ⟨pF, by repeat (first | exact Drawn0.refl _ | apply Drawn0.step)⟩
 rw [if_neg c5] at H
 have c5b0 : decide (a2 ≤ a1) = false := decide_eq_false c5
 clear c5
 by_cases c6 : a1 ≤ (wrap64 (-a2))
 ·rw [if_pos c6] at H
  have c6b0 : decide (a1 ≤ (wrap64 (-a2))) = true := decide_eq_true c6
  clear c6
  simp only [Option.some.injEq, Prod.mk.injEq] at H
  obtain ⟨rfl, rfl⟩ := H
  go_enter Try.func42, Try.ntmps42
  go_wp2
  go_ret2
  exact ⟨pF, by repeat (first | exact Drawn0.refl _ | apply Drawn0.step)⟩
 rw [if_neg c6] at H
 have c6b0 : decide (a1 ≤ (wrap64 (-a2))) = false := decide_eq_false c6
 clear c6
 simp only [Option.some.injEq, Prod.mk.injEq] at H
 obtain ⟨rfl, rfl⟩ := H
 go_enter Try.func42, Try.ntmps42
 go_wp2
 go_ret2
 exact ⟨pF, by repeat (first | exact Drawn0.refl _ | apply Drawn0.step)⟩
mutual
def view_Right.j0 : Nat → Int → Bool → Int → List Int → List Int → Option (Bool)
 | 0, _, _, _, _, _ => none
 | k + 1, x1, x38, x103000, x103001, x103002 => if x38 = true then (some false) else (view_Right.l0 k x1 x103000 x103000 x103001 (x103001.length : Int) 0 x103000 x103001 x103002)
def view_Right.l0 : Nat → Int → Int → Int → List Int → Int → Int → Int → List Int → List Int → Option (Bool)
 | 0, _, _, _, _, _, _, _, _, _ => none
 | k + 1, x1, x5, x6, x44, x45, x46, x103000, x103001, x103002 => if x46 < x45 then (if 0 ≤ x46 then (if x46 < (x44.length : Int) then (if x46 < (x103002.length : Int) then ((view_reach.f (rd x44 x46) (rd x103002 x46) x1).bind fun bt106 => (if bt106.2 = true then (view_Right.l0 k x1 (wrap64 (x5 + (mn bt106.1 0))) (wrap64 (x6 + (mx bt106.1 0))) x44 x45 (wrap64 (x46 + 1)) x103000 x103001 x103002) else (some false))) else (none)) else (none)) else (none)) else (if x5 ≥ 0 then (some (decide (x6 < x1))) else (some false))
end
def view_Right.f (k : Nat) (a0_0 : Int) (l0_1 : List Int) (l0_2 : List Int) (a1 : Int) : Option (Bool) := (shape_Check.f l0_1).bind fun t103 => (if t103 = 0 then (if (l0_2.length : Int) = (l0_1.length : Int) then (if a1 > 64 then (view_Right.j0 k a1 true a0_0 l0_1 l0_2) else (if a0_0 < 0 then (view_Right.j0 k a1 true a0_0 l0_1 l0_2) else (view_Right.j0 k a1 (decide (a0_0 ≥ a1)) a0_0 l0_1 l0_2))) else (view_Right.j0 k a1 true a0_0 l0_1 l0_2)) else (view_Right.j0 k a1 true a0_0 l0_1 l0_2))
set_option maxHeartbeats 8000000 in
set_option maxRecDepth 100000 in
theorem view_Right.calls (k : Nat) (a0_0 : Int) (A0_1 : Option Addr) (c0_1 : Nat) (l0_1 : List Int) (A0_2 : Option Addr) (c0_2 : Nat) (l0_2 : List Int) (a1 : Int) (r : Bool) (w : World) (hr0_1 : Kd.C (Kd.int .i64) w A0_1 l0_1.length l0_1) (hc0_1 : l0_1.length ≤ c0_1) (hr0_2 : Kd.C (Kd.int .i64) w A0_2 l0_2.length l0_2) (hc0_2 : l0_2.length ≤ c0_2) (h : view_Right.f k a0_0 l0_1 l0_2 a1 = some r) :
  Calls Try.prog 12 #[.agg #[.int .i64 a0_0, .slice A0_1 l0_1.length c0_1, .slice A0_2 l0_2.length c0_2], .int .i64 a1] w fun e w' => e = .returned (.bool r) ∧ Below w.heap.size w w' := by
 have hu24 := Try.underlying24
 have HR0_1 := aM hr0_1
 have HC0_1 := aM hc0_1
 clear hr0_1 hc0_1
 have HR0_2 := aM hr0_2
 have HC0_2 := aM hc0_2
 clear hr0_2 hc0_2
 have HB := aM (Below.refl w.heap.size w)
 have H : ((shape_Check.f l0_1).bind fun t103 => (if t103 = 0 then (if (l0_2.length : Int) = (l0_1.length : Int) then (if a1 > 64 then (view_Right.j0 k a1 true a0_0 l0_1 l0_2) else (if a0_0 < 0 then (view_Right.j0 k a1 true a0_0 l0_1 l0_2) else (view_Right.j0 k a1 (decide (a0_0 ≥ a1)) a0_0 l0_1 l0_2))) else (view_Right.j0 k a1 true a0_0 l0_1 l0_2)) else (view_Right.j0 k a1 true a0_0 l0_1 l0_2))) = some r := h
 clear h
 have HC3 := aM H
 clear H
 go_enter Try.func12, Try.ntmps12
 go_upto_region 1 with (first | ((with_reducible refine gate_dst (N := 2) rfl ?_); (try (refine gate_guard (by rfl) ?_; dsimp only)); refine box_event ?hg (N := 2) ?hd (cs := #[.int .i64 a0_0, .slice A0_1 l0_1.length c0_1, .slice A0_2 l0_2.length c0_2]) (t := 24) ?hr ?_; (case hd => rfl); (case hg => rfl); (case hr => first | (go_simp; done) | (go_simp; rfl)); intro gb102 hg w4 hbox hb; have BK102 := aM (hbox); have GW102 := gE (w := w) hg (qB HB); have GE102 := GW102; replace HB := bS (qB HB) hb; clear hb hbox hg))
 repeat (go_quiet (first | ((with_reducible refine gate_dst (N := 2) rfl ?_); (try (refine gate_guard (by rfl) ?_; dsimp only)); refine box_event ?hg (N := 2) ?hd (cs := #[.int .i64 a0_0, .slice A0_1 l0_1.length c0_1, .slice A0_2 l0_2.length c0_2]) (t := 24) ?hr ?_; (case hd => rfl); (case hg => rfl); (case hr => first | (go_simp; done) | (go_simp; rfl)); intro gb102 hg w4 hbox hb; have BK102 := aM (hbox); have GW102 := gE (w := w) hg (qB HB); have GE102 := GW102; replace HB := bS (qB HB) hb; clear hb hbox hg)); go_upto_region 1 with (first | ((with_reducible refine gate_dst (N := 2) rfl ?_); (try (refine gate_guard (by rfl) ?_; dsimp only)); refine box_event ?hg (N := 2) ?hd (cs := #[.int .i64 a0_0, .slice A0_1 l0_1.length c0_1, .slice A0_2 l0_2.length c0_2]) (t := 24) ?hr ?_; (case hd => rfl); (case hg => rfl); (case hr => first | (go_simp; done) | (go_simp; rfl)); intro gb102 hg w4 hbox hb; have BK102 := aM (hbox); have GW102 := gE (w := w) hg (qB HB); have GE102 := GW102; replace HB := bS (qB HB) hb; clear hb hbox hg)))
 (try simp only [Act.put, sP])
 go_cut [38] (fun v38 wc => ∃ (kq : Nat) (x38_2 : Bool), v38 = .bool x38_2 ∧ Aside0 (view_Right.j0 kq a1 x38_2 a0_0 l0_1 l0_2 = some r) ∧ Aside0 (kq ≤ k) ∧ Aside0 (wc.heap[gb102]? = some (.cells #[.int .i64 a0_0, (.slice A0_1 l0_1.length c0_1), (.slice A0_2 l0_2.length c0_2)] 24 (0, 0))) ∧ Aside0 (Below w.heap.size w wc))
 case first =>
  have H := HC3.out
  clear HC3
  replace H := Option.bind_eq_some_iff.mp H
  obtain ⟨t103, A50, H⟩ := H
  try dsimp only at H
  have A5 := aM A50
  clear A50
  by_cases c6 : t103 = 0
  rotate_left
  ·rw [if_neg c6] at H
   have c6b0 : (t103 == 0) = false := beq_eq_false_iff_ne.mpr c6
   have c6b1 : (t103 != 0) = true := bne_iff_ne.mpr c6
   (first | rw [c6b0] | (simp only [i64_w, i32_w]; rw [c6b0]) | skip)
   have H' := aM H
   clear H
   obtain ⟨hcz14_0, hcz14_1, hcz14_2, hfz14_0, hfz14_1, hfz14_2⟩ := blk3 BK102.out
   go_wp2_with (first | (go_at_call 41; (with_reducible refine (shape_Check.calls _ _ l0_1 t103 _ ?s1 ?s2 A5.out).mono ?_); (case s1 => exact sC HR0_1 HB); (case s2 => exact HC0_1.out); rintro e w' ⟨rfl, ⟨nd, rfl⟩⟩; (try first | exact ⟨rfl, _, World.drewN_drewN _ _ _⟩ | exact ⟨rfl, _, Eq.trans (World.drewN_drewN _ _ _) (congrArg (World.drewN _) (Nat.add_assoc _ _ _))⟩)))
   repeat (go_quiet (first | (go_at_call 41; (with_reducible refine (shape_Check.calls _ _ l0_1 t103 _ ?s1 ?s2 A5.out).mono ?_); (case s1 => exact sC HR0_1 HB); (case s2 => exact HC0_1.out); rintro e w' ⟨rfl, ⟨nd, rfl⟩⟩; (try first | exact ⟨rfl, _, World.drewN_drewN _ _ _⟩ | exact ⟨rfl, _, Eq.trans (World.drewN_drewN _ _ _) (congrArg (World.drewN _) (Nat.add_assoc _ _ _))⟩))); try go_wp2_with (first | (go_at_call 41; (with_reducible refine (shape_Check.calls _ _ l0_1 t103 _ ?s1 ?s2 A5.out).mono ?_); (case s1 => exact sC HR0_1 HB); (case s2 => exact HC0_1.out); rintro e w' ⟨rfl, ⟨nd, rfl⟩⟩; (try first | exact ⟨rfl, _, World.drewN_drewN _ _ _⟩ | exact ⟨rfl, _, Eq.trans (World.drewN_drewN _ _ _) (congrArg (World.drewN _) (Nat.add_assoc _ _ _))⟩))))
   go_meet
   case rel => exact ⟨_, (true), (pF), H', ⟨by first | omega | exact Nat.le_refl _⟩, ⟨by (with_reducible repeat (first | apply bN | apply bD | apply bA)); exact BK102.out⟩, ⟨qB1 HB GE102⟩⟩
  rw [if_pos c6] at H
  have c6b0 : (t103 == 0) = true := beq_iff_eq.mpr c6
  have c6b1 : (t103 != 0) = false := bne_eq_false_iff_eq.mpr c6
  clear c6
  (first | rw [c6b0] | (simp only [i64_w, i32_w]; rw [c6b0]) | skip)
  by_cases c7 : (l0_2.length : Int) = (l0_1.length : Int)
  rotate_left
  ·rw [if_neg c7] at H
   have c7b0 : ((l0_2.length : Int) == (l0_1.length : Int)) = false := beq_eq_false_iff_ne.mpr c7
   have c7b1 : ((l0_2.length : Int) != (l0_1.length : Int)) = true := bne_iff_ne.mpr c7
   have c7b2 : (l0_2.length == l0_1.length) = false := by first | simpa using c7 | (simp at c7 ⊢; omega)
   have H' := aM H
   clear H
   obtain ⟨hcz13_0, hcz13_1, hcz13_2, hfz13_0, hfz13_1, hfz13_2⟩ := blk3 BK102.out
   go_wp2_with (first | (go_at_call 41; (with_reducible refine (shape_Check.calls _ _ l0_1 t103 _ ?s1 ?s2 A5.out).mono ?_); (case s1 => exact sC HR0_1 HB); (case s2 => exact HC0_1.out); rintro e w' ⟨rfl, ⟨nd, rfl⟩⟩; (try first | exact ⟨rfl, _, World.drewN_drewN _ _ _⟩ | exact ⟨rfl, _, Eq.trans (World.drewN_drewN _ _ _) (congrArg (World.drewN _) (Nat.add_assoc _ _ _))⟩)))
   repeat (go_quiet (first | (go_at_call 41; (with_reducible refine (shape_Check.calls _ _ l0_1 t103 _ ?s1 ?s2 A5.out).mono ?_); (case s1 => exact sC HR0_1 HB); (case s2 => exact HC0_1.out); rintro e w' ⟨rfl, ⟨nd, rfl⟩⟩; (try first | exact ⟨rfl, _, World.drewN_drewN _ _ _⟩ | exact ⟨rfl, _, Eq.trans (World.drewN_drewN _ _ _) (congrArg (World.drewN _) (Nat.add_assoc _ _ _))⟩))); try go_wp2_with (first | (go_at_call 41; (with_reducible refine (shape_Check.calls _ _ l0_1 t103 _ ?s1 ?s2 A5.out).mono ?_); (case s1 => exact sC HR0_1 HB); (case s2 => exact HC0_1.out); rintro e w' ⟨rfl, ⟨nd, rfl⟩⟩; (try first | exact ⟨rfl, _, World.drewN_drewN _ _ _⟩ | exact ⟨rfl, _, Eq.trans (World.drewN_drewN _ _ _) (congrArg (World.drewN _) (Nat.add_assoc _ _ _))⟩))))
   go_meet
   case rel => exact ⟨_, (true), (pF), H', ⟨by first | omega | exact Nat.le_refl _⟩, ⟨by (with_reducible repeat (first | apply bN | apply bD | apply bA)); exact BK102.out⟩, ⟨qB1 HB GE102⟩⟩
  rw [if_pos c7] at H
  have c7b0 : ((l0_2.length : Int) == (l0_1.length : Int)) = true := beq_iff_eq.mpr c7
  have c7b1 : ((l0_2.length : Int) != (l0_1.length : Int)) = false := bne_eq_false_iff_eq.mpr c7
  have c7b2 : (l0_2.length == l0_1.length) = true := by first | simpa using c7 | (simp at c7 ⊢; omega)
  clear c7
  by_cases c8 : a1 > 64
  ·rw [if_pos c8] at H
   have c8b0 : decide (64 < a1) = true := decide_eq_true c8
   clear c8
   have H' := aM H
   clear H
   obtain ⟨hcz9_0, hcz9_1, hcz9_2, hfz9_0, hfz9_1, hfz9_2⟩ := blk3 BK102.out
   go_wp2_with (first | (go_at_call 41; (with_reducible refine (shape_Check.calls _ _ l0_1 t103 _ ?s1 ?s2 A5.out).mono ?_); (case s1 => exact sC HR0_1 HB); (case s2 => exact HC0_1.out); rintro e w' ⟨rfl, ⟨nd, rfl⟩⟩; (try first | exact ⟨rfl, _, World.drewN_drewN _ _ _⟩ | exact ⟨rfl, _, Eq.trans (World.drewN_drewN _ _ _) (congrArg (World.drewN _) (Nat.add_assoc _ _ _))⟩)))
   repeat (go_quiet (first | (go_at_call 41; (with_reducible refine (shape_Check.calls _ _ l0_1 t103 _ ?s1 ?s2 A5.out).mono ?_); (case s1 => exact sC HR0_1 HB); (case s2 => exact HC0_1.out); rintro e w' ⟨rfl, ⟨nd, rfl⟩⟩; (try first | exact ⟨rfl, _, World.drewN_drewN _ _ _⟩ | exact ⟨rfl, _, Eq.trans (World.drewN_drewN _ _ _) (congrArg (World.drewN _) (Nat.add_assoc _ _ _))⟩))); try go_wp2_with (first | (go_at_call 41; (with_reducible refine (shape_Check.calls _ _ l0_1 t103 _ ?s1 ?s2 A5.out).mono ?_); (case s1 => exact sC HR0_1 HB); (case s2 => exact HC0_1.out); rintro e w' ⟨rfl, ⟨nd, rfl⟩⟩; (try first | exact ⟨rfl, _, World.drewN_drewN _ _ _⟩ | exact ⟨rfl, _, Eq.trans (World.drewN_drewN _ _ _) (congrArg (World.drewN _) (Nat.add_assoc _ _ _))⟩))))
   go_meet
   case rel => exact ⟨_, (true), (pF), H', ⟨by first | omega | exact Nat.le_refl _⟩, ⟨by (with_reducible repeat (first | apply bN | apply bD | apply bA)); exact BK102.out⟩, ⟨qB1 HB GE102⟩⟩
  rw [if_neg c8] at H
  have c8b0 : decide (64 < a1) = false := decide_eq_false c8
  clear c8
  by_cases c10 : a0_0 < 0
  ·rw [if_pos c10] at H
   have c10b0 : decide (a0_0 < 0) = true := decide_eq_true c10
   clear c10
   have H' := aM H
   clear H
   obtain ⟨hcz11_0, hcz11_1, hcz11_2, hfz11_0, hfz11_1, hfz11_2⟩ := blk3 BK102.out
   go_wp2_with (first | (go_at_call 41; (with_reducible refine (shape_Check.calls _ _ l0_1 t103 _ ?s1 ?s2 A5.out).mono ?_); (case s1 => exact sC HR0_1 HB); (case s2 => exact HC0_1.out); rintro e w' ⟨rfl, ⟨nd, rfl⟩⟩; (try first | exact ⟨rfl, _, World.drewN_drewN _ _ _⟩ | exact ⟨rfl, _, Eq.trans (World.drewN_drewN _ _ _) (congrArg (World.drewN _) (Nat.add_assoc _ _ _))⟩)))
   repeat (go_quiet (first | (go_at_call 41; (with_reducible refine (shape_Check.calls _ _ l0_1 t103 _ ?s1 ?s2 A5.out).mono ?_); (case s1 => exact sC HR0_1 HB); (case s2 => exact HC0_1.out); rintro e w' ⟨rfl, ⟨nd, rfl⟩⟩; (try first | exact ⟨rfl, _, World.drewN_drewN _ _ _⟩ | exact ⟨rfl, _, Eq.trans (World.drewN_drewN _ _ _) (congrArg (World.drewN _) (Nat.add_assoc _ _ _))⟩))); try go_wp2_with (first | (go_at_call 41; (with_reducible refine (shape_Check.calls _ _ l0_1 t103 _ ?s1 ?s2 A5.out).mono ?_); (case s1 => exact sC HR0_1 HB); (case s2 => exact HC0_1.out); rintro e w' ⟨rfl, ⟨nd, rfl⟩⟩; (try first | exact ⟨rfl, _, World.drewN_drewN _ _ _⟩ | exact ⟨rfl, _, Eq.trans (World.drewN_drewN _ _ _) (congrArg (World.drewN _) (Nat.add_assoc _ _ _))⟩))))
   go_meet
   case rel => exact ⟨_, (true), (pF), H', ⟨by first | omega | exact Nat.le_refl _⟩, ⟨by (with_reducible repeat (first | apply bN | apply bD | apply bA)); exact BK102.out⟩, ⟨qB1 HB GE102⟩⟩
  rw [if_neg c10] at H
  have c10b0 : decide (a0_0 < 0) = false := decide_eq_false c10
  clear c10
  have H' := aM H
  clear H
  obtain ⟨hcz12_0, hcz12_1, hcz12_2, hfz12_0, hfz12_1, hfz12_2⟩ := blk3 BK102.out
  go_wp2_with (first | (go_at_call 41; (with_reducible refine (shape_Check.calls _ _ l0_1 t103 _ ?s1 ?s2 A5.out).mono ?_); (case s1 => exact sC HR0_1 HB); (case s2 => exact HC0_1.out); rintro e w' ⟨rfl, ⟨nd, rfl⟩⟩; (try first | exact ⟨rfl, _, World.drewN_drewN _ _ _⟩ | exact ⟨rfl, _, Eq.trans (World.drewN_drewN _ _ _) (congrArg (World.drewN _) (Nat.add_assoc _ _ _))⟩)))
  repeat (go_quiet (first | (go_at_call 41; (with_reducible refine (shape_Check.calls _ _ l0_1 t103 _ ?s1 ?s2 A5.out).mono ?_); (case s1 => exact sC HR0_1 HB); (case s2 => exact HC0_1.out); rintro e w' ⟨rfl, ⟨nd, rfl⟩⟩; (try first | exact ⟨rfl, _, World.drewN_drewN _ _ _⟩ | exact ⟨rfl, _, Eq.trans (World.drewN_drewN _ _ _) (congrArg (World.drewN _) (Nat.add_assoc _ _ _))⟩))); try go_wp2_with (first | (go_at_call 41; (with_reducible refine (shape_Check.calls _ _ l0_1 t103 _ ?s1 ?s2 A5.out).mono ?_); (case s1 => exact sC HR0_1 HB); (case s2 => exact HC0_1.out); rintro e w' ⟨rfl, ⟨nd, rfl⟩⟩; (try first | exact ⟨rfl, _, World.drewN_drewN _ _ _⟩ | exact ⟨rfl, _, Eq.trans (World.drewN_drewN _ _ _) (congrArg (World.drewN _) (Nat.add_assoc _ _ _))⟩))))
  go_meet
  case rel => exact ⟨_, (decide (a0_0 ≥ a1)), (pF), H', ⟨by first | omega | exact Nat.le_refl _⟩, ⟨by (with_reducible repeat (first | apply bN | apply bD | apply bA)); exact BK102.out⟩, ⟨qB1 HB GE102⟩⟩
 case rest =>
  clear HC3
  obtain ⟨kq, x38_2, rfl, HA, HJ2, BK102, HB⟩ := hcut
  cases kq with
  | zero => exact absurd HA.out (by simp [view_Right.j0])
  | succ kj2 =>
   have H := HA.out
   clear HA
   simp only [view_Right.j0] at H
   by_cases c15 : x38_2 = true
   ·subst c15
    rw [if_pos rfl] at H
    obtain rfl := Option.some.inj H
    go_wp2
    repeat (go_quiet (fail); try go_wp2)
    go_ret
    exact ⟨pE, qB1 HB GE102⟩
   replace c15 := Bool.eq_false_iff.mpr c15
   subst c15
   rw [if_neg (show ¬ (false = true) by decide)] at H
   have H' := aM H
   clear H
   obtain ⟨hcz16_0, hcz16_1, hcz16_2, hfz16_0, hfz16_1, hfz16_2⟩ := blk3 BK102.out
   go_wp2
   repeat (go_quiet (fail); try go_wp2)
   go_loopg [5, 6, 46] kj2 (fun kq v5 v6 v46 w' => ∃ (x5_2 : Int) (x6_2 : Int) (x46_2 : Int), v5 = .int .i64 x5_2 ∧ v6 = .int .i64 x6_2 ∧ v46 = .int .i64 x46_2 ∧ Aside0 (view_Right.l0 kq a1 x5_2 x6_2 l0_1 (l0_1.length : Int) x46_2 a0_0 l0_1 l0_2 = some r) ∧ Aside0 (kq ≤ kj2) ∧ Aside0 (w'.heap[gb102]? = some (.cells #[.int .i64 a0_0, (.slice A0_1 l0_1.length c0_1), (.slice A0_2 l0_2.length c0_2)] 24 (0, 0))) ∧ Aside0 (Below w.heap.size w w'))
   case atStart => exact ⟨(a0_0), (a0_0), (0), (pF), (pF), (pF), H', ⟨Nat.le_refl _⟩, ⟨by (with_reducible repeat (first | apply bN | apply bD | apply bA)); exact BK102.out⟩, ⟨qB1 HB GE102⟩⟩
   case round =>
    clear H'
    try clear c15
    try clear hcz16_0 hcz16_1 hcz16_2 hfz16_0 hfz16_1 hfz16_2
    obtain ⟨x5_2, x6_2, x46_2, rfl, rfl, rfl, HA, HK2, BK102, HB⟩ := hrel
    cases gk with
    | zero => exact absurd HA.out (by simp [view_Right.l0])
    | succ k2 =>
     have H := HA.out
     clear HA
     simp only [view_Right.l0] at H
     by_cases c17 : x46_2 < (l0_1.length : Int)
     rotate_left
     ·rw [if_neg c17] at H
      have c17b0 : decide (x46_2 < (l0_1.length : Int)) = false := decide_eq_false c17
      clear c17
      by_cases c27 : x5_2 ≥ 0
      ·rw [if_pos c27] at H
       have c27b0 : decide (0 ≤ x5_2) = true := decide_eq_true c27
       clear c27
       obtain rfl := Option.some.inj H
       go_wp2
       repeat (go_quiet (fail); try go_wp2)
       go_ret
       exact ⟨pE, qB1 HB GE102⟩
      rw [if_neg c27] at H
      have c27b0 : decide (0 ≤ x5_2) = false := decide_eq_false c27
      clear c27
      obtain rfl := Option.some.inj H
      go_wp2
      repeat (go_quiet (fail); try go_wp2)
      go_ret
      exact ⟨pE, qB1 HB GE102⟩
     rw [if_pos c17] at H
     have c17b0 : decide (x46_2 < (l0_1.length : Int)) = true := decide_eq_true c17
     clear c17
     by_cases c18 : 0 ≤ x46_2
     rotate_left
     ·rw [if_neg c18] at H
      exact absurd H (by simp)
     rw [if_pos c18] at H
     have c18b0 : decide (0 ≤ x46_2) = true := decide_eq_true c18
     clear c18
     by_cases c19 : x46_2 < (l0_1.length : Int)
     rotate_left
     ·rw [if_neg c19] at H
      exact absurd H (by simp)
     rw [if_pos c19] at H
     have c19b0 : decide (x46_2 < (l0_1.length : Int)) = true := decide_eq_true c19
     clear c19
     by_cases c20 : x46_2 < (l0_2.length : Int)
     rotate_left
     ·rw [if_neg c20] at H
      exact absurd H (by simp)
     rw [if_pos c20] at H
     have c20b0 : decide (x46_2 < (l0_2.length : Int)) = true := decide_eq_true c20
     clear c20
     replace H := Option.bind_eq_some_iff.mp H
     obtain ⟨⟨t106, t107⟩, A210, H⟩ := H
     try dsimp only at H
     have A21 := aM A210
     clear A210
     by_cases c22 : t107 = true
     rotate_left
     ·replace c22 := Bool.eq_false_iff.mpr c22
      subst c22
      rw [if_neg (show ¬ (false = true) by decide)] at H
      obtain rfl := Option.some.inj H
      have p104 : 0 ≤ (x46_2 : Int) := of_decide_eq_true pD
      have q104 : x46_2 < (l0_1.length : Int) := of_decide_eq_true pD
      obtain ⟨ad104, e104, hx104_0⟩ := Kd.at_int HR0_1.out x46_2 p104 q104
      cases e104
      replace hx104_0 := (HB.out.cell (World.block_lt_of_cell? w _ hx104_0)).trans hx104_0
      replace p104 := eq_true p104
      replace q104 := eq_true q104
      obtain ⟨hcz26_0, hcz26_1, hcz26_2, hfz26_0, hfz26_1, hfz26_2⟩ := blk3 BK102.out
      have p105 : 0 ≤ (x46_2 : Int) := of_decide_eq_true pD
      have q105 : x46_2 < (l0_2.length : Int) := of_decide_eq_true pD
      obtain ⟨ad105, e105, hx105_0⟩ := Kd.at_int HR0_2.out x46_2 p105 q105
      cases e105
      replace hx105_0 := (HB.out.cell (World.block_lt_of_cell? w _ hx105_0)).trans hx105_0
      replace p105 := eq_true p105
      replace q105 := eq_true q105
      go_wp2_with (first | (go_at_call 42; (with_reducible refine (view_reach.calls (rd l0_1 x46_2) (rd l0_2 x46_2) a1 t106 false _ A21.out).mono ?_); rintro e w' ⟨rfl, ⟨nd, rfl⟩⟩; (try first | exact ⟨rfl, _, World.drewN_drewN _ _ _⟩ | exact ⟨rfl, _, Eq.trans (World.drewN_drewN _ _ _) (congrArg (World.drewN _) (Nat.add_assoc _ _ _))⟩)))
      repeat (go_quiet (first | (go_at_call 42; (with_reducible refine (view_reach.calls (rd l0_1 x46_2) (rd l0_2 x46_2) a1 t106 false _ A21.out).mono ?_); rintro e w' ⟨rfl, ⟨nd, rfl⟩⟩; (try first | exact ⟨rfl, _, World.drewN_drewN _ _ _⟩ | exact ⟨rfl, _, Eq.trans (World.drewN_drewN _ _ _) (congrArg (World.drewN _) (Nat.add_assoc _ _ _))⟩))); try go_wp2_with (first | (go_at_call 42; (with_reducible refine (view_reach.calls (rd l0_1 x46_2) (rd l0_2 x46_2) a1 t106 false _ A21.out).mono ?_); rintro e w' ⟨rfl, ⟨nd, rfl⟩⟩; (try first | exact ⟨rfl, _, World.drewN_drewN _ _ _⟩ | exact ⟨rfl, _, Eq.trans (World.drewN_drewN _ _ _) (congrArg (World.drewN _) (Nat.add_assoc _ _ _))⟩))))
      go_ret
      exact ⟨pE, qB1 HB GE102⟩
     subst c22
     rw [if_pos rfl] at H
     obtain ⟨ji23, hji23⟩ : ∃ j_ : Int, (mn t106 0) = j_ := ⟨_, rfl⟩
     replace H : (view_Right.l0 k2 a1 (wrap64 (x5_2 + (ji23))) (wrap64 (x6_2 + (mx t106 0))) l0_1 (l0_1.length : Int) (wrap64 (x46_2 + 1)) a0_0 l0_1 l0_2) = some r := by first | (rw [hji23] at H; exact H) | (simp only [hji23] at H ⊢; exact H)
     (try rw [hji23] at A21)
     (try (have hji23h : ji23 ≤ 0 := by (rw [← hji23]; unfold mn; (repeat' split) <;> omega)))
     (try (have hji23g : ji23 ≤ 64 := by omega))
     have hji23_ : (if 0 < t106 then 0 else t106) = ji23 := hji23
     obtain ⟨ji24, hji24⟩ : ∃ j_ : Int, (mx t106 0) = j_ := ⟨_, rfl⟩
     replace H : (view_Right.l0 k2 a1 (wrap64 (x5_2 + (ji23))) (wrap64 (x6_2 + (ji24))) l0_1 (l0_1.length : Int) (wrap64 (x46_2 + 1)) a0_0 l0_1 l0_2) = some r := by first | (rw [hji24] at H; exact H) | (simp only [hji24] at H ⊢; exact H)
     (try rw [hji24] at A21)
     (try (have hji24l : 0 ≤ ji24 := by (rw [← hji24]; unfold mx; (repeat' split) <;> omega)))
     (try (have hji24m : 0 ≤ ji24 := by omega))
     have hji24_ : (if t106 < 0 then 0 else t106) = ji24 := hji24
     have H' := aM H
     clear H
     have p104 : 0 ≤ (x46_2 : Int) := of_decide_eq_true pD
     have q104 : x46_2 < (l0_1.length : Int) := of_decide_eq_true pD
     obtain ⟨ad104, e104, hx104_0⟩ := Kd.at_int HR0_1.out x46_2 p104 q104
     cases e104
     replace hx104_0 := (HB.out.cell (World.block_lt_of_cell? w _ hx104_0)).trans hx104_0
     replace p104 := eq_true p104
     replace q104 := eq_true q104
     obtain ⟨hcz25_0, hcz25_1, hcz25_2, hfz25_0, hfz25_1, hfz25_2⟩ := blk3 BK102.out
     have p105 : 0 ≤ (x46_2 : Int) := of_decide_eq_true pD
     have q105 : x46_2 < (l0_2.length : Int) := of_decide_eq_true pD
     obtain ⟨ad105, e105, hx105_0⟩ := Kd.at_int HR0_2.out x46_2 p105 q105
     cases e105
     replace hx105_0 := (HB.out.cell (World.block_lt_of_cell? w _ hx105_0)).trans hx105_0
     replace p105 := eq_true p105
     replace q105 := eq_true q105
     go_wp2_with (first | (go_at_call 42; (with_reducible refine (view_reach.calls (rd l0_1 x46_2) (rd l0_2 x46_2) a1 t106 true _ A21.out).mono ?_); rintro e w' ⟨rfl, ⟨nd, rfl⟩⟩; (try first | exact ⟨rfl, _, World.drewN_drewN _ _ _⟩ | exact ⟨rfl, _, Eq.trans (World.drewN_drewN _ _ _) (congrArg (World.drewN _) (Nat.add_assoc _ _ _))⟩)))
     repeat (go_quiet (first | (go_at_call 42; (with_reducible refine (view_reach.calls (rd l0_1 x46_2) (rd l0_2 x46_2) a1 t106 true _ A21.out).mono ?_); rintro e w' ⟨rfl, ⟨nd, rfl⟩⟩; (try first | exact ⟨rfl, _, World.drewN_drewN _ _ _⟩ | exact ⟨rfl, _, Eq.trans (World.drewN_drewN _ _ _) (congrArg (World.drewN _) (Nat.add_assoc _ _ _))⟩))); try go_wp2_with (first | (go_at_call 42; (with_reducible refine (view_reach.calls (rd l0_1 x46_2) (rd l0_2 x46_2) a1 t106 true _ A21.out).mono ?_); rintro e w' ⟨rfl, ⟨nd, rfl⟩⟩; (try first | exact ⟨rfl, _, World.drewN_drewN _ _ _⟩ | exact ⟨rfl, _, Eq.trans (World.drewN_drewN _ _ _) (congrArg (World.drewN _) (Nat.add_assoc _ _ _))⟩))))
     go_roundg k2
     case measure => have := HJ2.out; have := HK2.out; omega
     case rel => exact ⟨(wrap64 (x5_2 + (ji23))), (wrap64 (x6_2 + (ji24))), (wrap64 (x46_2 + 1)), (by first | rfl | (simp; done) | (simp only [← hji23] <;> (first | rfl | simp)) | (simp [*]; done)), (by first | rfl | (simp; done) | (simp only [← hji24] <;> (first | rfl | simp)) | (simp [*]; done)), (pF), H', ⟨by have := HJ2.out; have := HK2.out; omega⟩, ⟨by (with_reducible repeat (first | apply bN | apply bD | apply bA)); exact BK102.out⟩, ⟨qB1 HB GE102⟩⟩
def view_right.f (k : Nat) (a0_0 : Int) (l0_1 : List Int) (l0_2 : List Int) : Option (Bool) := (view_Right.f k a0_0 l0_1 l0_2 64).bind fun t109 => (some t109)
set_option maxHeartbeats 8000000 in
set_option maxRecDepth 100000 in
theorem view_right.calls (k : Nat) (a0_0 : Int) (A0_1 : Option Addr) (c0_1 : Nat) (l0_1 : List Int) (A0_2 : Option Addr) (c0_2 : Nat) (l0_2 : List Int) (r : Bool) (w : World) (hr0_1 : Kd.C (Kd.int .i64) w A0_1 l0_1.length l0_1) (hc0_1 : l0_1.length ≤ c0_1) (hr0_2 : Kd.C (Kd.int .i64) w A0_2 l0_2.length l0_2) (hc0_2 : l0_2.length ≤ c0_2) (h : view_right.f k a0_0 l0_1 l0_2 = some r) :
  Calls Try.prog 39 #[.agg #[.int .i64 a0_0, .slice A0_1 l0_1.length c0_1, .slice A0_2 l0_2.length c0_2]] w fun e w' => e = .returned (.bool r) ∧ Below w.heap.size w w' := by
 have hu24 := Try.underlying24
 have HR0_1 := aM hr0_1
 have HC0_1 := aM hc0_1
 clear hr0_1 hc0_1
 have HR0_2 := aM hr0_2
 have HC0_2 := aM hc0_2
 clear hr0_2 hc0_2
 have HB := aM (Below.refl w.heap.size w)
 have H : ((view_Right.f k a0_0 l0_1 l0_2 64).bind fun t109 => (some t109)) = some r := h
 clear h
 replace H := Option.bind_eq_some_iff.mp H
 obtain ⟨t109, A20, H⟩ := H
 try dsimp only at H
 have A2 := aM A20
 clear A20
 obtain rfl := Option.some.inj H
 go_enter Try.func39, Try.ntmps39
 go_wp2_with (first | ((with_reducible refine gate_dst (N := 1) rfl ?_); refine box_event ?hg (N := 1) ?hd (cs := #[.int .i64 a0_0, .slice A0_1 l0_1.length c0_1, .slice A0_2 l0_2.length c0_2]) (t := 24) ?hr ?_; (case hd => rfl); (case hg => rfl); (case hr => first | (go_simp; done) | (go_simp; rfl)); intro gb108 hg w3 hbox hb; have BK108 := aM (hbox); have GW108 := gE (w := w) hg (qB HB); have GE108 := GW108; replace HB := bS (qB HB) hb; clear hb hbox hg; obtain ⟨hcz4_0, hcz4_1, hcz4_2, hfz4_0, hfz4_1, hfz4_2⟩ := blk3 BK108.out) | ((with_reducible refine gate_callee (f := 12) rfl ?_); refine goesL_ (some 4) rfl rfl Try.func12 (by kernel_rfl) rfl #[.agg #[.int .i64 a0_0, .slice A0_1 l0_1.length c0_1, .slice A0_2 l0_2.length c0_2], .int .i64 64] rfl pA ?_; (with_reducible refine (view_Right.calls k a0_0 _ _ l0_1 _ _ l0_2 64 t109 _ ?s1 ?s2 ?s3 ?s4 A2.out).mono ?_); (case s1 => exact sC HR0_1 HB); (case s2 => exact HC0_1.out); (case s3 => exact sC HR0_2 HB); (case s4 => exact HC0_2.out); rintro e w5 ⟨rfl, hb⟩; refine ⟨_, rfl, ?_⟩; replace BK108 := bK BK108 hb; replace HB := bS (qB1 HB GE108) hb; (try clear hb); (try clear hk); (try clear hi)))
 go_ret
 exact ⟨pE, qB1 HB GE108⟩
def shape_Count.l0 : Nat → Int → List Int → Int → Int → Option (Int)
 | 0, _, _, _, _ => none
 | k + 1, x3, x9, x10, x11 => if x11 < x10 then (if 0 ≤ x11 then (if x11 < (x9.length : Int) then (shape_Count.l0 k (wrap64 (x3 * (rd x9 x11))) x9 x10 (wrap64 (x11 + 1))) else (none)) else (none)) else (some x3)
def shape_Count.f (k : Nat) (l0 : List Int) : Option (Int) := (shape_Check.f l0).bind fun t110 => (if t110 = 0 then (shape_Count.l0 k 1 l0 (l0.length : Int) 0) else (some 0))
set_option maxHeartbeats 8000000 in
set_option maxRecDepth 100000 in
theorem shape_Count.calls (k : Nat) (A0 : Option Addr) (c0 : Nat) (l0 : List Int) (r : Int) (w : World) (hr0 : Kd.C (Kd.int .i64) w A0 l0.length l0) (hc0 : l0.length ≤ c0) (h : shape_Count.f k l0 = some r) :
  Calls Try.prog 54 #[.slice A0 l0.length c0] w fun e w' => e = .returned (.int .i64 r) ∧ Drawn0 w w' := by
 have HR0 := aM hr0
 have HC0 := aM hc0
 clear hr0 hc0
 have H : ((shape_Check.f l0).bind fun t110 => (if t110 = 0 then (shape_Count.l0 k 1 l0 (l0.length : Int) 0) else (some 0))) = some r := h
 clear h
 replace H := Option.bind_eq_some_iff.mp H
 obtain ⟨t110, A20, H⟩ := H
 try dsimp only at H
 have A2 := aM A20
 clear A20
 by_cases c3 : t110 = 0
 rotate_left
 ·rw [if_neg c3] at H
  have c3b0 : (t110 == 0) = false := beq_eq_false_iff_ne.mpr c3
  have c3b1 : (t110 != 0) = true := bne_iff_ne.mpr c3
  obtain rfl := Option.some.inj H
  go_enter Try.func54, Try.ntmps54
  go_wp2_with (first | ((with_reducible refine gate_callee (f := 41) rfl ?_); refine goesL_ (some 7) rfl rfl Try.func41 (by kernel_rfl) rfl #[.slice A0 l0.length c0] rfl pA ?_; (with_reducible refine (shape_Check.calls _ _ l0 t110 _ ?s1 ?s2 A2.out).mono ?_); (case s1 => exact pC HR0.out); (case s2 => exact HC0.out); rintro e w' ⟨rfl, ⟨nd, rfl⟩⟩; refine ⟨_, rfl, ?_⟩))
  go_ret
  exact ⟨pF, by repeat (first | exact Drawn0.refl _ | apply Drawn0.step)⟩
 rw [if_pos c3] at H
 have c3b0 : (t110 == 0) = true := beq_iff_eq.mpr c3
 have c3b1 : (t110 != 0) = false := bne_eq_false_iff_eq.mpr c3
 clear c3
 have H' := aM H
 clear H
 go_enter Try.func54, Try.ntmps54
 go_wp2_with (first | ((with_reducible refine gate_callee (f := 41) rfl ?_); refine goesL_ (some 7) rfl rfl Try.func41 (by kernel_rfl) rfl #[.slice A0 l0.length c0] rfl pA ?_; (with_reducible refine (shape_Check.calls _ _ l0 t110 _ ?s1 ?s2 A2.out).mono ?_); (case s1 => exact pC HR0.out); (case s2 => exact HC0.out); rintro e w' ⟨rfl, ⟨nd, rfl⟩⟩; refine ⟨_, rfl, ?_⟩))
 go_loopg [3, 11] k (fun kq v3 v11 w' => ∃ (x3_1 : Int) (x11_1 : Int), v3 = .int .i64 x3_1 ∧ v11 = .int .i64 x11_1 ∧ Aside0 (shape_Count.l0 kq x3_1 l0 (l0.length : Int) x11_1 = some r) ∧ Aside0 (kq ≤ k) ∧ Drawn0 w w')
 case atStart => exact ⟨(1), (0), (pF), (pF), H', ⟨Nat.le_refl _⟩, by repeat (first | exact Drawn0.refl _ | apply Drawn0.step)⟩
 case round =>
  clear H'
  try clear c3b0
  try clear c3b1
  obtain ⟨x3_1, x11_1, rfl, rfl, HA, HK1, ⟨m1, rfl⟩⟩ := hrel
  cases gk with
  | zero => exact absurd HA.out (by simp [shape_Count.l0])
  | succ k1 =>
   have H := HA.out
   clear HA
   simp only [shape_Count.l0] at H
   by_cases c4 : x11_1 < (l0.length : Int)
   rotate_left
   ·rw [if_neg c4] at H
    have c4b0 : decide (x11_1 < (l0.length : Int)) = false := decide_eq_false c4
    clear c4
    obtain rfl := Option.some.inj H
    go_wp2
    go_ret
    exact ⟨pF, by repeat (first | exact Drawn0.refl _ | apply Drawn0.step)⟩
   rw [if_pos c4] at H
   have c4b0 : decide (x11_1 < (l0.length : Int)) = true := decide_eq_true c4
   clear c4
   by_cases c5 : 0 ≤ x11_1
   rotate_left
   ·rw [if_neg c5] at H
    exact absurd H (by simp)
   rw [if_pos c5] at H
   have c5b0 : decide (0 ≤ x11_1) = true := decide_eq_true c5
   clear c5
   by_cases c6 : x11_1 < (l0.length : Int)
   rotate_left
   ·rw [if_neg c6] at H
    exact absurd H (by simp)
   rw [if_pos c6] at H
   have c6b0 : decide (x11_1 < (l0.length : Int)) = true := decide_eq_true c6
   clear c6
   have H' := aM H
   clear H
   have p111 : 0 ≤ (x11_1 : Int) := of_decide_eq_true pD
   have q111 : x11_1 < (l0.length : Int) := of_decide_eq_true pD
   obtain ⟨ad111, e111, hx111_0⟩ := Kd.at_int HR0.out x11_1 p111 q111
   cases e111
   replace p111 := eq_true p111
   replace q111 := eq_true q111
   go_wp2
   go_roundg k1
   case measure => have := HK1.out; omega
   case rel => exact ⟨(wrap64 (x3_1 * (rd l0 x11_1))), (wrap64 (x11_1 + 1)), (pF), (pF), H', ⟨by have := HK1.out; omega⟩, by repeat (first | exact Drawn0.refl _ | apply Drawn0.step)⟩
mutual
def walk_At.j0 : Nat → List Int → Int → Bool → Option (List Int × Bool)
 | 0, _, _, _ => none
 | k + 1, x0, x1, x15 => if x15 = true then (some (([] : List Int), false)) else (if 0 ≤ (x0.length : Int) then (if ((x0.length : Int) : Int).toNat ≤ 35184372088832 then (walk_At.l0 k x0 x1 (List.replicate ((x0.length : Int) : Int).toNat 0) (wrap64 ((x0.length : Int) - 1))) else (none)) else (none))
def walk_At.l0 : Nat → List Int → Int → List Int → Int → Option (List Int × Bool)
 | 0, _, _, _, _ => none
 | k + 1, x0, x1, x6, x7 => if x7 ≥ 0 then (if 0 ≤ x7 then (if x7 < (x0.length : Int) then (if (rd x0 x7) = 0 then (none) else (if x7 < (x6.length : Int) then (walk_At.l0 k x0 (wrap64 (Int.tdiv x1 (rd x0 x7))) (x6.set (x7 : Int).toNat (Int.tmod x1 (rd x0 x7))) (wrap64 (x7 - 1))) else (none))) else (none)) else (none)) else (some (x6, true))
end
def walk_At.f (k : Nat) (l0 : List Int) (a1 : Int) : Option (List Int × Bool) := if a1 < 0 then (walk_At.j0 k l0 a1 true) else ((shape_Count.f k l0).bind fun t112 => (walk_At.j0 k l0 a1 (decide (a1 ≥ t112))))
set_option maxHeartbeats 8000000 in
set_option maxRecDepth 100000 in
theorem walk_At.calls (k : Nat) (A0 : Option Addr) (c0 : Nat) (l0 : List Int) (a1 : Int) (r1 : List Int) (r2 : Bool) (w : World) (hr0 : Kd.C (Kd.int .i64) w A0 l0.length l0) (hc0 : l0.length ≤ c0) (h : walk_At.f k l0 a1 = some (r1, r2)) :
  Calls Try.prog 40 #[.slice A0 l0.length c0, .int .i64 a1] w fun e w' => ∃ v0_ : Value, e = .returned (.tuple #[v0_, .bool r2]) ∧ Kd.R (Kd.int .i64) 3 w' w.heap.size (fun _ => True) v0_ r1 ∧ Below w.heap.size w w' := by
 have HR0 := aM hr0
 have HC0 := aM hc0
 clear hr0 hc0
 have HB := aM (Below.refl w.heap.size w)
 have H : (if a1 < 0 then (walk_At.j0 k l0 a1 true) else ((shape_Count.f k l0).bind fun t112 => (walk_At.j0 k l0 a1 (decide (a1 ≥ t112))))) = some (r1, r2) := h
 clear h
 have HC3 := aM H
 clear H
 go_enter Try.func40, Try.ntmps40
 go_upto_region 1 with (fail)
 go_cut [15] (fun v15 wc => ∃ (kq : Nat) (x15_2 : Bool), v15 = .bool x15_2 ∧ Aside0 (walk_At.j0 kq l0 a1 x15_2 = some (r1, r2)) ∧ Aside0 (kq ≤ k) ∧ Aside0 (Below w.heap.size w wc))
 case first =>
  have H := HC3.out
  clear HC3
  by_cases c4 : a1 < 0
  ·rw [if_pos c4] at H
   have c4b0 : decide (a1 < 0) = true := decide_eq_true c4
   clear c4
   (first | rw [c4b0] | (simp only [i64_w, i32_w]; rw [c4b0]) | skip)
   have H' := aM H
   clear H
   go_wp2
   go_meet
   case rel => exact ⟨_, (true), (pF), H', ⟨by first | omega | exact Nat.le_refl _⟩, ⟨qB HB⟩⟩
  rw [if_neg c4] at H
  have c4b0 : decide (a1 < 0) = false := decide_eq_false c4
  clear c4
  (first | rw [c4b0] | (simp only [i64_w, i32_w]; rw [c4b0]) | skip)
  replace H := Option.bind_eq_some_iff.mp H
  obtain ⟨t112, A50, H⟩ := H
  try dsimp only at H
  have A5 := aM A50
  clear A50
  have H' := aM H
  clear H
  go_wp2_with (first | (go_at_call 54; (with_reducible refine (shape_Count.calls k _ _ l0 t112 _ ?s1 ?s2 A5.out).mono ?_); (case s1 => exact sC HR0 HB); (case s2 => exact HC0.out); rintro e w' ⟨rfl, ⟨nd, rfl⟩⟩))
  go_meet
  case rel => exact ⟨_, (decide (a1 ≥ t112)), (pF), H', ⟨by first | omega | exact Nat.le_refl _⟩, ⟨qB HB⟩⟩
 case rest =>
  clear HC3
  obtain ⟨kq, x15_2, rfl, HA, HJ2, HB⟩ := hcut
  cases kq with
  | zero => exact absurd HA.out (by simp [walk_At.j0])
  | succ kj2 =>
   have H := HA.out
   clear HA
   simp only [walk_At.j0] at H
   by_cases c6 : x15_2 = true
   ·subst c6
    rw [if_pos rfl] at H
    simp only [Option.some.injEq, Prod.mk.injEq] at H
    obtain ⟨rfl, rfl⟩ := H
    go_wp2
    go_ret2
    exact ⟨_, pE, pN, qB HB⟩
   replace c6 := Bool.eq_false_iff.mpr c6
   subst c6
   rw [if_neg (show ¬ (false = true) by decide)] at H
   by_cases c7 : 0 ≤ (l0.length : Int)
   rotate_left
   ·rw [if_neg c7] at H
    exact absurd H (by simp)
   rw [if_pos c7] at H
   have c7b0 := eq_true c7
   have c7b1 : decide (0 ≤ (l0.length : Int)) = true := decide_eq_true c7
   clear c7
   by_cases c8 : ((l0.length : Int) : Int).toNat ≤ 35184372088832
   rotate_left
   ·rw [if_neg c8] at H
    exact absurd H (by simp)
   rw [if_pos c8] at H
   have c8b0 := eq_true c8
   have c8b1 : decide (((l0.length : Int) : Int).toNat ≤ 35184372088832) = true := decide_eq_true c8
   clear c8
   obtain ⟨y113, hy113⟩ : ∃ y_ : List Int, y_ = (List.replicate ((l0.length : Int) : Int).toNat 0) := ⟨_, rfl⟩
   replace H : (walk_At.l0 kj2 l0 a1 y113 (wrap64 ((l0.length : Int) - 1))) = some (r1, r2) := pH hy113 H
   have Ny113 := aM hy113
   clear hy113
   have H' := aM H
   clear H
   go_wp2_with (first | ((with_reducible refine gate_dst (N := 18) rfl ?_); refine Kd.R_make (Kd.int .i64) _ 3 rfl (N := 18) rfl 22 _ _ rfl (l0.length : Int) rfl rfl Try.underlying22 (.int .i64 0) 8 info3 rfl (by decide) (by omega) 0 (ok := fun _ => True) (okp := fun _ => True) rfl (fun _ hk => hk) trivial (of_decide_eq_true pD) (Nat.le_trans (Nat.mul_le_mul_right _ (of_decide_eq_true pD : (l0.length : Int).toNat ≤ 35184372088832)) (by omega)) (Below.refl _ _) (Nat.le_refl _) ?_; intro v114 w9 ho10 hb hg_ hnew_; clear hg_ hnew_; (first | rw [← Ny113.out] at ho10 | (simp only [Int.reduceToNat] at ho10; rw [← Ny113.out] at ho10)); have HO115 := aM (Kd.R_lower ho10 (below_size (qB HB))); replace HB := bS (qB HB) hb; clear hb ho10))
   go_loopg [1, 7] kj2 (fun kq v1 v7 w' => ∃ (x1_2 : Int) (x6_2 : List Int) (x7_2 : Int), v1 = .int .i64 x1_2 ∧ v7 = .int .i64 x7_2 ∧ Aside0 (walk_At.l0 kq l0 x1_2 x6_2 x7_2 = some (r1, r2)) ∧ Aside0 (kq ≤ kj2) ∧ Aside0 (Kd.R (Kd.int .i64) 3 w' w.heap.size (fun _ => True) v114 x6_2) ∧ Aside0 (Below w.heap.size w w'))
   case atStart => exact ⟨(a1), (y113), (wrap64 ((l0.length : Int) - 1)), (pF), (pF), H', ⟨Nat.le_refl _⟩, ⟨pR HO115.out⟩, ⟨qB HB⟩⟩
   case round =>
    clear H'
    try clear c6
    try clear c7b0
    try clear c7b1
    try clear c8b0
    try clear c8b1
    obtain ⟨x1_2, x6_2, x7_2, rfl, rfl, HA, HK2, HO_6, HB⟩ := hrel
    cases gk with
    | zero => exact absurd HA.out (by simp [walk_At.l0])
    | succ k2 =>
     have H := HA.out
     clear HA
     simp only [walk_At.l0] at H
     by_cases c11 : x7_2 ≥ 0
     rotate_left
     ·rw [if_neg c11] at H
      have c11b0 : decide (0 ≤ x7_2) = false := decide_eq_false c11
      clear c11
      simp only [Option.some.injEq, Prod.mk.injEq] at H
      obtain ⟨rfl, rfl⟩ := H
      go_wp2
      go_ret2
      exact ⟨_, pE, pR HO_6.out, qB HB⟩
     rw [if_pos c11] at H
     have c11b0 : decide (0 ≤ x7_2) = true := decide_eq_true c11
     clear c11
     by_cases c12 : 0 ≤ x7_2
     rotate_left
     ·rw [if_neg c12] at H
      exact absurd H (by simp)
     rw [if_pos c12] at H
     have c12b0 : decide (0 ≤ x7_2) = true := decide_eq_true c12
     clear c12
     by_cases c13 : x7_2 < (l0.length : Int)
     rotate_left
     ·rw [if_neg c13] at H
      exact absurd H (by simp)
     rw [if_pos c13] at H
     have c13b0 : decide (x7_2 < (l0.length : Int)) = true := decide_eq_true c13
     clear c13
     by_cases c14 : (rd l0 x7_2) = 0
     ·rw [if_pos c14] at H
      exact absurd H (by simp)
     rw [if_neg c14] at H
     have c14b0 : ((rd l0 x7_2) == 0) = false := beq_eq_false_iff_ne.mpr c14
     have c14b1 : ((rd l0 x7_2) != 0) = true := bne_iff_ne.mpr c14
     by_cases c15 : x7_2 < (x6_2.length : Int)
     rotate_left
     ·rw [if_neg c15] at H
      exact absurd H (by simp)
     rw [if_pos c15] at H
     have c15b0 : decide (x7_2 < (x6_2.length : Int)) = true := decide_eq_true c15
     clear c15
     obtain ⟨y117, hy117⟩ : ∃ y_ : List Int, y_ = (x6_2.set (x7_2 : Int).toNat (Int.tmod x1_2 (rd l0 x7_2))) := ⟨_, rfl⟩
     replace H : (walk_At.l0 k2 l0 (wrap64 (Int.tdiv x1_2 (rd l0 x7_2))) y117 (wrap64 (x7_2 - 1))) = some (r1, r2) := pH hy117 H
     have Ny117 := aM hy117
     clear hy117
     have H' := aM H
     clear H
     have p116 : 0 ≤ (x7_2 : Int) := of_decide_eq_true pD
     have q116 : x7_2 < (l0.length : Int) := of_decide_eq_true pD
     obtain ⟨ad116, e116, hx116_0⟩ := Kd.at_int HR0.out x7_2 p116 q116
     cases e116
     replace hx116_0 := (HB.out.cell (World.block_lt_of_cell? w _ hx116_0)).trans hx116_0
     replace p116 := eq_true p116
     replace q116 := eq_true q116
     have p16 : 0 ≤ (x7_2 : Int) := of_decide_eq_true pD
     have q16 : (x7_2 : Int) < ((x6_2.length : Int) : Int) := of_decide_eq_true pD
     obtain ⟨go16, co16, eo16, gb16, gl16, cl16, HG16⟩ := Kd.R_form HO_6.out (by omega)
     (first | cases eo16 | (injection eo16 with ea_ en_ ec_; (first | subst ea_ | (injection ea_ with ea_; subst ea_)); subst ec_; clear en_))
     have GB16 := aM gb16
     have GG16 := aM HG16
     clear gb16 gl16 HG16
     obtain ⟨hx16_0, hf16_0⟩ := Kd.R_celln 0 HO_6.out (x7_2 : Int) p16 q16
     replace p16 := eq_true p16
     replace q16 := eq_true q16
     have HP17 := Kd.R_putg HO_6.out (x7_2 : Int) (Int.tmod x1_2 (rd l0 x7_2))
     go_wp2_with (first | ((with_reducible refine gate_store (t := 3) (p := 34) rfl ?_); refine store_event (t := 3) (p := 34) (v := ?vo_w18) (w1 := (wr.setCell ⟨go16, (x7_2 : Int).toNat, none⟩ (.int .i64 (Int.tmod x1_2 (rd l0 x7_2))))) ?hg ?ho ?hn ?hr ?_; (case ho => rfl); (case hg => rfl); (case hn => rfl); (case hr => first | (go_simp; done) | (go_simp; rfl)); intro w18 hw; have hg : wr.grownBy w18 (some go16) := (by rw [hw]; exact HP17.2); have hp_ : Kd.R (Kd.int .i64) 3 w18 w.heap.size (fun _ => True) (.slice (some ⟨go16, 0, none⟩) x6_2.length co16) y117 := (by rw [hw, Ny117.out]; exact HP17.1); clear HP17; replace HO_6 := aM (hp_); replace HB := aM ((by rw [hw]; exact below_set (HB.out) GB16.out : Below w.heap.size w w18)); clear hg hw hp_; have p118 : 0 ≤ (x7_2 : Int) := of_decide_eq_true pD; have q118 : x7_2 < (l0.length : Int) := of_decide_eq_true pD; obtain ⟨ad118, e118, hx118_0⟩ := Kd.at_int HR0.out x7_2 p118 q118; obtain rfl : ad116 = ad118 := (by injection e118); replace hx118_0 := (HB.out.cell (World.block_lt_of_cell? w _ hx118_0)).trans hx118_0; replace p118 := eq_true p118; replace q118 := eq_true q118))
     go_roundg k2
     case measure => have := HJ2.out; have := HK2.out; omega
     case rel => exact ⟨(wrap64 (Int.tdiv x1_2 (rd l0 x7_2))), (y117), (wrap64 (x7_2 - 1)), (pF), (pF), H', ⟨by have := HJ2.out; have := HK2.out; omega⟩, ⟨pR HO_6.out⟩, ⟨qB HB⟩⟩
def view_At.l0 : Nat → Int → List Int → Int → Int → Int → List Int → List Int → Option (Int × Bool)
 | 0, _, _, _, _, _, _, _ => none
 | k + 1, x8, x25, x26, x27, x120000, x120001, x120002 => if x27 < x26 then (if 0 ≤ x27 then (if x27 < (x25.length : Int) then (if (rd x25 x27) > 0 then (if x27 < (x120002.length : Int) then (view_At.l0 k (wrap64 (x8 + (wrap64 ((rd x25 x27) * (rd x120002 x27))))) x25 x26 (wrap64 (x27 + 1)) x120000 x120001 x120002) else (none)) else (view_At.l0 k x8 x25 x26 (wrap64 (x27 + 1)) x120000 x120001 x120002)) else (none)) else (none)) else (some (x8, true))
def view_At.f (k : Nat) (a0_0 : Int) (l0_1 : List Int) (l0_2 : List Int) (a1 : Int) : Option (Int × Bool) := (view_right.f k a0_0 l0_1 l0_2).bind fun t120 => (if t120 = true then ((walk_At.f k l0_1 a1).bind fun bt121 => (if bt121.2 = true then (view_At.l0 k a0_0 bt121.1 (bt121.1.length : Int) 0 a0_0 l0_1 l0_2) else (some (0, false)))) else (some (0, false)))
set_option maxHeartbeats 8000000 in
set_option maxRecDepth 100000 in
theorem view_At.calls (k : Nat) (a0_0 : Int) (A0_1 : Option Addr) (c0_1 : Nat) (l0_1 : List Int) (A0_2 : Option Addr) (c0_2 : Nat) (l0_2 : List Int) (a1 : Int) (r1 : Int) (r2 : Bool) (w : World) (hr0_1 : Kd.C (Kd.int .i64) w A0_1 l0_1.length l0_1) (hc0_1 : l0_1.length ≤ c0_1) (hr0_2 : Kd.C (Kd.int .i64) w A0_2 l0_2.length l0_2) (hc0_2 : l0_2.length ≤ c0_2) (h : view_At.f k a0_0 l0_1 l0_2 a1 = some (r1, r2)) :
  Calls Try.prog 11 #[.agg #[.int .i64 a0_0, .slice A0_1 l0_1.length c0_1, .slice A0_2 l0_2.length c0_2], .int .i64 a1] w fun e w' => e = .returned (.tuple #[.int .i64 r1, .bool r2]) ∧ Below w.heap.size w w' := by
 have hu24 := Try.underlying24
 have HR0_1 := aM hr0_1
 have HC0_1 := aM hc0_1
 clear hr0_1 hc0_1
 have HR0_2 := aM hr0_2
 have HC0_2 := aM hc0_2
 clear hr0_2 hc0_2
 have HB := aM (Below.refl w.heap.size w)
 have H : ((view_right.f k a0_0 l0_1 l0_2).bind fun t120 => (if t120 = true then ((walk_At.f k l0_1 a1).bind fun bt121 => (if bt121.2 = true then (view_At.l0 k a0_0 bt121.1 (bt121.1.length : Int) 0 a0_0 l0_1 l0_2) else (some (0, false)))) else (some (0, false)))) = some (r1, r2) := h
 clear h
 replace H := Option.bind_eq_some_iff.mp H
 obtain ⟨t120, A30, H⟩ := H
 try dsimp only at H
 have A3 := aM A30
 clear A30
 by_cases c4 : t120 = true
 rotate_left
 ·replace c4 := Bool.eq_false_iff.mpr c4
  subst c4
  rw [if_neg (show ¬ (false = true) by decide)] at H
  simp only [Option.some.injEq, Prod.mk.injEq] at H
  obtain ⟨rfl, rfl⟩ := H
  go_enter Try.func11, Try.ntmps11
  go_wp2_with (first | ((with_reducible refine gate_dst (N := 2) rfl ?_); refine box_event ?hg (N := 2) ?hd (cs := #[.int .i64 a0_0, .slice A0_1 l0_1.length c0_1, .slice A0_2 l0_2.length c0_2]) (t := 24) ?hr ?_; (case hd => rfl); (case hg => rfl); (case hr => first | (go_simp; done) | (go_simp; rfl)); intro gb119 hg w25 hbox hb; have BK119 := aM (hbox); have GW119 := gE (w := w) hg (qB HB); have GE119 := GW119; replace HB := bS (qB HB) hb; clear hb hbox hg; obtain ⟨hcz26_0, hcz26_1, hcz26_2, hfz26_0, hfz26_1, hfz26_2⟩ := blk3 BK119.out) | ((with_reducible refine gate_callee (f := 39) rfl ?_); refine goesL_ (some 12) rfl rfl Try.func39 (by kernel_rfl) rfl #[.agg #[.int .i64 a0_0, .slice A0_1 l0_1.length c0_1, .slice A0_2 l0_2.length c0_2]] rfl pA ?_; (with_reducible refine (view_right.calls k a0_0 _ _ l0_1 _ _ l0_2 false _ ?s1 ?s2 ?s3 ?s4 A3.out).mono ?_); (case s1 => exact sC HR0_1 HB); (case s2 => exact HC0_1.out); (case s3 => exact sC HR0_2 HB); (case s4 => exact HC0_2.out); rintro e w27 ⟨rfl, hb⟩; refine ⟨_, rfl, ?_⟩; replace BK119 := bK BK119 hb; replace HB := bS (qB1 HB GE119) hb; (try clear hb); (try clear hk); (try clear hi)))
  go_ret2
  exact ⟨pE, qB1 HB GE119⟩
 subst c4
 rw [if_pos rfl] at H
 replace H := Option.bind_eq_some_iff.mp H
 obtain ⟨⟨t121, t122⟩, A50, H⟩ := H
 try dsimp only at H
 have A5 := aM A50
 clear A50
 by_cases c6 : t122 = true
 rotate_left
 ·replace c6 := Bool.eq_false_iff.mpr c6
  subst c6
  rw [if_neg (show ¬ (false = true) by decide)] at H
  simp only [Option.some.injEq, Prod.mk.injEq] at H
  obtain ⟨rfl, rfl⟩ := H
  go_enter Try.func11, Try.ntmps11
  go_wp2_with (first | ((with_reducible refine gate_dst (N := 2) rfl ?_); refine box_event ?hg (N := 2) ?hd (cs := #[.int .i64 a0_0, .slice A0_1 l0_1.length c0_1, .slice A0_2 l0_2.length c0_2]) (t := 24) ?hr ?_; (case hd => rfl); (case hg => rfl); (case hr => first | (go_simp; done) | (go_simp; rfl)); intro gb119 hg w20 hbox hb; have BK119 := aM (hbox); have GW119 := gE (w := w) hg (qB HB); have GE119 := GW119; replace HB := bS (qB HB) hb; clear hb hbox hg; obtain ⟨hcz21_0, hcz21_1, hcz21_2, hfz21_0, hfz21_1, hfz21_2⟩ := blk3 BK119.out) | ((with_reducible refine gate_callee (f := 39) rfl ?_); refine goesL_ (some 12) rfl rfl Try.func39 (by kernel_rfl) rfl #[.agg #[.int .i64 a0_0, .slice A0_1 l0_1.length c0_1, .slice A0_2 l0_2.length c0_2]] rfl pA ?_; (with_reducible refine (view_right.calls k a0_0 _ _ l0_1 _ _ l0_2 true _ ?s1 ?s2 ?s3 ?s4 A3.out).mono ?_); (case s1 => exact sC HR0_1 HB); (case s2 => exact HC0_1.out); (case s3 => exact sC HR0_2 HB); (case s4 => exact HC0_2.out); rintro e w22 ⟨rfl, hb⟩; refine ⟨_, rfl, ?_⟩; replace BK119 := bK BK119 hb; replace HB := bS (qB1 HB GE119) hb; (try clear hb); (try clear hk); (try clear hi); obtain ⟨hcz23_0, hcz23_1, hcz23_2, hfz23_0, hfz23_1, hfz23_2⟩ := blk3 BK119.out) | ((with_reducible refine gate_callee (f := 40) rfl ?_); refine goesL_ (some 18) rfl rfl Try.func40 (by kernel_rfl) rfl #[.slice A0_1 l0_1.length c0_1, .int .i64 a1] rfl pA ?_; (with_reducible refine (walk_At.calls k _ _ l0_1 a1 t121 false _ ?s1 ?s2 A5.out).mono ?_); (case s1 => exact sC HR0_1 HB); (case s2 => exact HC0_1.out); rintro e w24 ⟨v123, rfl, ho0, hb⟩; refine ⟨_, rfl, ?_⟩; have HO124 := aM (Kd.R_lower ho0 (below_size (qB1 HB GE119))); replace BK119 := bK BK119 hb; replace HB := bS (qB1 HB GE119) hb; (try clear hb); (try clear hk); (try clear hi); (try clear ho0)))
  go_ret2
  exact ⟨pE, qB1 HB GE119⟩
 subst c6
 rw [if_pos rfl] at H
 have H' := aM H
 clear H
 go_enter Try.func11, Try.ntmps11
 go_wp2_with (first | ((with_reducible refine gate_dst (N := 2) rfl ?_); refine box_event ?hg (N := 2) ?hd (cs := #[.int .i64 a0_0, .slice A0_1 l0_1.length c0_1, .slice A0_2 l0_2.length c0_2]) (t := 24) ?hr ?_; (case hd => rfl); (case hg => rfl); (case hr => first | (go_simp; done) | (go_simp; rfl)); intro gb119 hg w7 hbox hb; have BK119 := aM (hbox); have GW119 := gE (w := w) hg (qB HB); have GE119 := GW119; replace HB := bS (qB HB) hb; clear hb hbox hg; obtain ⟨hcz8_0, hcz8_1, hcz8_2, hfz8_0, hfz8_1, hfz8_2⟩ := blk3 BK119.out) | ((with_reducible refine gate_callee (f := 39) rfl ?_); refine goesL_ (some 12) rfl rfl Try.func39 (by kernel_rfl) rfl #[.agg #[.int .i64 a0_0, .slice A0_1 l0_1.length c0_1, .slice A0_2 l0_2.length c0_2]] rfl pA ?_; (with_reducible refine (view_right.calls k a0_0 _ _ l0_1 _ _ l0_2 true _ ?s1 ?s2 ?s3 ?s4 A3.out).mono ?_); (case s1 => exact sC HR0_1 HB); (case s2 => exact HC0_1.out); (case s3 => exact sC HR0_2 HB); (case s4 => exact HC0_2.out); rintro e w9 ⟨rfl, hb⟩; refine ⟨_, rfl, ?_⟩; replace BK119 := bK BK119 hb; replace HB := bS (qB1 HB GE119) hb; (try clear hb); (try clear hk); (try clear hi); obtain ⟨hcz10_0, hcz10_1, hcz10_2, hfz10_0, hfz10_1, hfz10_2⟩ := blk3 BK119.out) | ((with_reducible refine gate_callee (f := 40) rfl ?_); refine goesL_ (some 18) rfl rfl Try.func40 (by kernel_rfl) rfl #[.slice A0_1 l0_1.length c0_1, .int .i64 a1] rfl pA ?_; (with_reducible refine (walk_At.calls k _ _ l0_1 a1 t121 true _ ?s1 ?s2 A5.out).mono ?_); (case s1 => exact sC HR0_1 HB); (case s2 => exact HC0_1.out); rintro e w11 ⟨v123, rfl, ho0, hb⟩; refine ⟨_, rfl, ?_⟩; have HO124 := aM (Kd.R_lower ho0 (below_size (qB1 HB GE119))); replace BK119 := bK BK119 hb; replace HB := bS (qB1 HB GE119) hb; (try clear hb); (try clear hk); (try clear hi); (try clear ho0); obtain ⟨hcz12_0, hcz12_1, hcz12_2, hfz12_0, hfz12_1, hfz12_2⟩ := blk3 BK119.out; obtain ⟨Ao13, co13, eo13⟩ := Kd.R_slice HO124.out; subst eo13))
 go_loopg [8, 27] k (fun kq v8 v27 w' => ∃ (x8_1 : Int) (x27_1 : Int), v8 = .int .i64 x8_1 ∧ v27 = .int .i64 x27_1 ∧ Aside0 (view_At.l0 kq x8_1 t121 (t121.length : Int) x27_1 a0_0 l0_1 l0_2 = some (r1, r2)) ∧ Aside0 (kq ≤ k) ∧ Aside0 (Kd.R (Kd.int .i64) 3 w' w.heap.size (fun _ => True) (.slice Ao13 t121.length co13) t121) ∧ Aside0 (w'.heap[gb119]? = some (.cells #[.int .i64 a0_0, (.slice A0_1 l0_1.length c0_1), (.slice A0_2 l0_2.length c0_2)] 24 (0, 0))) ∧ Aside0 (Below w.heap.size w w'))
 case atStart => exact ⟨(a0_0), (0), (pF), (pF), H', ⟨Nat.le_refl _⟩, ⟨pR HO124.out⟩, ⟨by (with_reducible repeat (first | apply bN | apply bD | apply bA)); exact BK119.out⟩, ⟨qB1 HB GE119⟩⟩
 case round =>
  clear H'
  try clear c4
  try clear c6
  try clear hcz10_0 hcz10_1 hcz10_2 hcz12_0 hcz12_1 hcz12_2 hcz8_0 hcz8_1 hcz8_2 hfz10_0 hfz10_1 hfz10_2 hfz12_0 hfz12_1 hfz12_2 hfz8_0 hfz8_1 hfz8_2
  obtain ⟨x8_1, x27_1, rfl, rfl, HA, HK1, HO_25, BK119, HB⟩ := hrel
  cases gk with
  | zero => exact absurd HA.out (by simp [view_At.l0])
  | succ k1 =>
   have H := HA.out
   clear HA
   simp only [view_At.l0] at H
   by_cases c14 : x27_1 < (t121.length : Int)
   rotate_left
   ·rw [if_neg c14] at H
    have c14b0 : decide (x27_1 < (t121.length : Int)) = false := decide_eq_false c14
    clear c14
    simp only [Option.some.injEq, Prod.mk.injEq] at H
    obtain ⟨rfl, rfl⟩ := H
    go_wp2
    go_ret2
    exact ⟨pE, qB1 HB GE119⟩
   rw [if_pos c14] at H
   have c14b0 : decide (x27_1 < (t121.length : Int)) = true := decide_eq_true c14
   clear c14
   by_cases c15 : 0 ≤ x27_1
   rotate_left
   ·rw [if_neg c15] at H
    exact absurd H (by simp)
   rw [if_pos c15] at H
   have c15b0 : decide (0 ≤ x27_1) = true := decide_eq_true c15
   clear c15
   by_cases c16 : x27_1 < (t121.length : Int)
   rotate_left
   ·rw [if_neg c16] at H
    exact absurd H (by simp)
   rw [if_pos c16] at H
   have c16b0 : decide (x27_1 < (t121.length : Int)) = true := decide_eq_true c16
   clear c16
   by_cases c17 : (rd t121 x27_1) > 0
   rotate_left
   ·rw [if_neg c17] at H
    have c17b0 : decide (0 < (rd t121 x27_1)) = false := decide_eq_false c17
    clear c17
    have H' := aM H
    clear H
    have p125 : 0 ≤ (x27_1 : Int) := of_decide_eq_true pD
    have q125 : x27_1 < (t121.length : Int) := of_decide_eq_true pD
    obtain ⟨ad125, e125, hx125_0⟩ := Kd.at_int (Kd.R_reads' HO_25.out).2.2 x27_1 p125 q125
    cases e125
    replace p125 := eq_true p125
    replace q125 := eq_true q125
    go_wp2
    go_roundg k1
    case measure => have := HK1.out; omega
    case rel => exact ⟨(x8_1), (wrap64 (x27_1 + 1)), (pF), (pF), H', ⟨by have := HK1.out; omega⟩, ⟨pR HO_25.out⟩, ⟨by (with_reducible repeat (first | apply bN | apply bD | apply bA)); exact BK119.out⟩, ⟨qB1 HB GE119⟩⟩
   rw [if_pos c17] at H
   have c17b0 : decide (0 < (rd t121 x27_1)) = true := decide_eq_true c17
   clear c17
   by_cases c18 : x27_1 < (l0_2.length : Int)
   rotate_left
   ·rw [if_neg c18] at H
    exact absurd H (by simp)
   rw [if_pos c18] at H
   have c18b0 : decide (x27_1 < (l0_2.length : Int)) = true := decide_eq_true c18
   clear c18
   have H' := aM H
   clear H
   have p125 : 0 ≤ (x27_1 : Int) := of_decide_eq_true pD
   have q125 : x27_1 < (t121.length : Int) := of_decide_eq_true pD
   obtain ⟨ad125, e125, hx125_0⟩ := Kd.at_int (Kd.R_reads' HO_25.out).2.2 x27_1 p125 q125
   cases e125
   replace p125 := eq_true p125
   replace q125 := eq_true q125
   obtain ⟨hcz19_0, hcz19_1, hcz19_2, hfz19_0, hfz19_1, hfz19_2⟩ := blk3 BK119.out
   have p126 : 0 ≤ (x27_1 : Int) := of_decide_eq_true pD
   have q126 : x27_1 < (l0_2.length : Int) := of_decide_eq_true pD
   obtain ⟨ad126, e126, hx126_0⟩ := Kd.at_int HR0_2.out x27_1 p126 q126
   cases e126
   replace hx126_0 := (HB.out.cell (World.block_lt_of_cell? w _ hx126_0)).trans hx126_0
   replace p126 := eq_true p126
   replace q126 := eq_true q126
   go_wp2
   go_roundg k1
   case measure => have := HK1.out; omega
   case rel => exact ⟨(wrap64 (x8_1 + (wrap64 ((rd t121 x27_1) * (rd l0_2 x27_1))))), (wrap64 (x27_1 + 1)), (pF), (pF), H', ⟨by have := HK1.out; omega⟩, ⟨pR HO_25.out⟩, ⟨by (with_reducible repeat (first | apply bN | apply bD | apply bA)); exact BK119.out⟩, ⟨qB1 HB GE119⟩⟩
mutual
def shape_Axes.j0 : Nat → Int → List Int → Bool → Option (List Bool × Int)
 | 0, _, _, _ => none
 | k + 1, x0, x1, x15 => if x15 = true then (some (([] : List Bool), 9)) else (if 0 ≤ x0 then (if (x0 : Int).toNat ≤ 281474976710656 then (shape_Axes.l0 k x0 x1 (List.replicate (x0 : Int).toNat false) x1 (x1.length : Int) 0) else (none)) else (none))
def shape_Axes.l0 : Nat → Int → List Int → List Bool → List Int → Int → Int → Option (List Bool × Int)
 | 0, _, _, _, _, _, _ => none
 | k + 1, x0, x1, x6, x18, x19, x20 => if x20 < x19 then (if 0 ≤ x20 then (if x20 < (x18.length : Int) then (if (rd x18 x20) < 0 then (some (([] : List Bool), 10)) else (if (rd x18 x20) ≥ x0 then (some (([] : List Bool), 10)) else (if 0 ≤ (rd x18 x20) then (if (rd x18 x20) < (x6.length : Int) then (if rdOf false x6 (rd x18 x20) = true then (some (([] : List Bool), 10)) else (shape_Axes.l0 k x0 x1 (x6.set ((rd x18 x20) : Int).toNat true) x18 x19 (wrap64 (x20 + 1)))) else (none)) else (none)))) else (none)) else (none)) else (if (x1.length : Int) = 0 then (shape_Axes.l1 k x6 (x6.length : Int) 0) else (some (x6, 0)))
def shape_Axes.l1 : Nat → List Bool → Int → Int → Option (List Bool × Int)
 | 0, _, _, _ => none
 | k + 1, x6, x45, x46 => if x46 < x45 then (if 0 ≤ x46 then (if x46 < (x6.length : Int) then (shape_Axes.l1 k (x6.set (x46 : Int).toNat true) x45 (wrap64 (x46 + 1))) else (none)) else (none)) else (some (x6, 0))
end
def shape_Axes.f (k : Nat) (a0 : Int) (l1 : List Int) : Option (List Bool × Int) := if a0 < 0 then (shape_Axes.j0 k a0 l1 true) else (shape_Axes.j0 k a0 l1 (decide (a0 > 6)))
set_option maxHeartbeats 8000000 in
set_option maxRecDepth 100000 in
theorem shape_Axes.calls (k : Nat) (a0 : Int) (A1 : Option Addr) (c1 : Nat) (l1 : List Int) (r1 : List Bool) (r2 : Int) (w : World) (hr1 : Kd.C (Kd.int .i64) w A1 l1.length l1) (hc1 : l1.length ≤ c1) (h : shape_Axes.f k a0 l1 = some (r1, r2)) :
  Calls Try.prog 57 #[.int .i64 a0, .slice A1 l1.length c1] w fun e w' => ∃ v0_ : Value, e = .returned (.tuple #[v0_, .int .i64 r2]) ∧ Kd.R Kd.bool 4 w' w.heap.size (fun _ => True) v0_ r1 ∧ Below w.heap.size w w' := by
 have HR1 := aM hr1
 have HC1 := aM hc1
 clear hr1 hc1
 have HB := aM (Below.refl w.heap.size w)
 have H : (if a0 < 0 then (shape_Axes.j0 k a0 l1 true) else (shape_Axes.j0 k a0 l1 (decide (a0 > 6)))) = some (r1, r2) := h
 clear h
 have HC3 := aM H
 clear H
 go_enter Try.func57, Try.ntmps57
 go_upto_region 1 with (fail)
 go_cut [15] (fun v15 wc => ∃ (kq : Nat) (x15_2 : Bool), v15 = .bool x15_2 ∧ Aside0 (shape_Axes.j0 kq a0 l1 x15_2 = some (r1, r2)) ∧ Aside0 (kq ≤ k) ∧ Aside0 (Below w.heap.size w wc))
 case first =>
  have H := HC3.out
  clear HC3
  by_cases c4 : a0 < 0
  ·rw [if_pos c4] at H
   have c4b0 : decide (a0 < 0) = true := decide_eq_true c4
   clear c4
   (first | rw [c4b0] | (simp only [i64_w, i32_w]; rw [c4b0]) | skip)
   have H' := aM H
   clear H
   go_wp2
   go_meet
   case rel => exact ⟨_, (true), (pF), H', ⟨by first | omega | exact Nat.le_refl _⟩, ⟨qB HB⟩⟩
  rw [if_neg c4] at H
  have c4b0 : decide (a0 < 0) = false := decide_eq_false c4
  clear c4
  (first | rw [c4b0] | (simp only [i64_w, i32_w]; rw [c4b0]) | skip)
  have H' := aM H
  clear H
  go_wp2
  go_meet
  case rel => exact ⟨_, (decide (a0 > 6)), (pF), H', ⟨by first | omega | exact Nat.le_refl _⟩, ⟨qB HB⟩⟩
 case rest =>
  clear HC3
  try clear c1
  obtain ⟨kq, x15_2, rfl, HA, HJ2, HB⟩ := hcut
  cases kq with
  | zero => exact absurd HA.out (by simp [shape_Axes.j0])
  | succ kj2 =>
   have H := HA.out
   clear HA
   simp only [shape_Axes.j0] at H
   by_cases c5 : x15_2 = true
   ·subst c5
    rw [if_pos rfl] at H
    simp only [Option.some.injEq, Prod.mk.injEq] at H
    obtain ⟨rfl, rfl⟩ := H
    go_wp2
    go_ret2
    exact ⟨_, pE, pN, qB HB⟩
   replace c5 := Bool.eq_false_iff.mpr c5
   subst c5
   rw [if_neg (show ¬ (false = true) by decide)] at H
   by_cases c6 : 0 ≤ a0
   rotate_left
   ·rw [if_neg c6] at H
    exact absurd H (by simp)
   rw [if_pos c6] at H
   have c6b0 := eq_true c6
   have c6b1 : decide (0 ≤ a0) = true := decide_eq_true c6
   clear c6
   by_cases c7 : (a0 : Int).toNat ≤ 281474976710656
   rotate_left
   ·rw [if_neg c7] at H
    exact absurd H (by simp)
   rw [if_pos c7] at H
   have c7b0 := eq_true c7
   have c7b1 : decide ((a0 : Int).toNat ≤ 281474976710656) = true := decide_eq_true c7
   clear c7
   obtain ⟨y141, hy141⟩ : ∃ y_ : List Bool, y_ = (List.replicate (a0 : Int).toNat false) := ⟨_, rfl⟩
   replace H : (shape_Axes.l0 kj2 a0 l1 y141 l1 (l1.length : Int) 0) = some (r1, r2) := pH hy141 H
   have Ny141 := aM hy141
   clear hy141
   have H' := aM H
   clear H
   go_wp2_with (first | ((with_reducible refine gate_dst (N := 17) rfl ?_); refine Kd.R_make Kd.bool _ 4 rfl (N := 17) rfl 75 _ _ rfl a0 rfl rfl Try.underlying75 (.bool false) 1 info4 rfl (by decide) (by omega) false (ok := fun _ => True) (okp := fun _ => True) rfl (fun _ hk => hk) trivial (of_decide_eq_true pD) (Nat.le_trans (Nat.mul_le_mul_right _ (of_decide_eq_true pD : a0.toNat ≤ 281474976710656)) (by omega)) (Below.refl _ _) (Nat.le_refl _) ?_; intro v142 w8 ho9 hb hg_ hnew_; clear hg_ hnew_; (first | rw [← Ny141.out] at ho9 | (simp only [Int.reduceToNat] at ho9; rw [← Ny141.out] at ho9)); have HO143 := aM (Kd.R_lower ho9 (below_size (qB HB))); replace HB := bS (qB HB) hb; clear hb ho9))
   go_loopg [20] kj2 (fun kq v20 w' => ∃ (x6_2 : List Bool) (x20_2 : Int), v20 = .int .i64 x20_2 ∧ Aside0 (shape_Axes.l0 kq a0 l1 x6_2 l1 (l1.length : Int) x20_2 = some (r1, r2)) ∧ Aside0 (kq ≤ kj2) ∧ Aside0 (Kd.R Kd.bool 4 w' w.heap.size (fun _ => True) v142 x6_2) ∧ Aside0 (Below w.heap.size w w'))
   case atStart => exact ⟨(y141), (0), (pF), H', ⟨Nat.le_refl _⟩, ⟨pR HO143.out⟩, ⟨qB HB⟩⟩
   case round =>
    clear H'
    try clear c5
    try clear c6b0
    try clear c6b1
    try clear c7b0
    try clear c7b1
    obtain ⟨x6_2, x20_2, rfl, HA, HK2, HO_6, HB⟩ := hrel
    cases gk with
    | zero => exact absurd HA.out (by simp [shape_Axes.l0])
    | succ k2 =>
     have H := HA.out
     clear HA
     simp only [shape_Axes.l0] at H
     by_cases c10 : x20_2 < (l1.length : Int)
     ·rw [if_pos c10] at H
      have c10b0 : decide (x20_2 < (l1.length : Int)) = true := decide_eq_true c10
      clear c10
      by_cases c11 : 0 ≤ x20_2
      rotate_left
      ·rw [if_neg c11] at H
       exact absurd H (by simp)
      rw [if_pos c11] at H
      have c11b0 : decide (0 ≤ x20_2) = true := decide_eq_true c11
      clear c11
      by_cases c12 : x20_2 < (l1.length : Int)
      rotate_left
      ·rw [if_neg c12] at H
       exact absurd H (by simp)
      rw [if_pos c12] at H
      have c12b0 : decide (x20_2 < (l1.length : Int)) = true := decide_eq_true c12
      clear c12
      by_cases c13 : (rd l1 x20_2) < 0
      ·rw [if_pos c13] at H
       have c13b0 : decide ((rd l1 x20_2) < 0) = true := decide_eq_true c13
       clear c13
       simp only [Option.some.injEq, Prod.mk.injEq] at H
       obtain ⟨rfl, rfl⟩ := H
       have p144 : 0 ≤ (x20_2 : Int) := of_decide_eq_true pD
       have q144 : x20_2 < (l1.length : Int) := of_decide_eq_true pD
       obtain ⟨ad144, e144, hx144_0⟩ := Kd.at_int HR1.out x20_2 p144 q144
       cases e144
       replace hx144_0 := (HB.out.cell (World.block_lt_of_cell? w _ hx144_0)).trans hx144_0
       replace p144 := eq_true p144
       replace q144 := eq_true q144
       go_wp2
       go_ret2
       exact ⟨_, pE, pN, qB HB⟩
      rw [if_neg c13] at H
      have c13b0 : decide ((rd l1 x20_2) < 0) = false := decide_eq_false c13
      clear c13
      by_cases c14 : (rd l1 x20_2) ≥ a0
      ·rw [if_pos c14] at H
       have c14b0 : decide (a0 ≤ (rd l1 x20_2)) = true := decide_eq_true c14
       clear c14
       simp only [Option.some.injEq, Prod.mk.injEq] at H
       obtain ⟨rfl, rfl⟩ := H
       have p144 : 0 ≤ (x20_2 : Int) := of_decide_eq_true pD
       have q144 : x20_2 < (l1.length : Int) := of_decide_eq_true pD
       obtain ⟨ad144, e144, hx144_0⟩ := Kd.at_int HR1.out x20_2 p144 q144
       cases e144
       replace hx144_0 := (HB.out.cell (World.block_lt_of_cell? w _ hx144_0)).trans hx144_0
       replace p144 := eq_true p144
       replace q144 := eq_true q144
       go_wp2
       go_ret2
       exact ⟨_, pE, pN, qB HB⟩
      rw [if_neg c14] at H
      have c14b0 : decide (a0 ≤ (rd l1 x20_2)) = false := decide_eq_false c14
      clear c14
      by_cases c15 : 0 ≤ (rd l1 x20_2)
      rotate_left
      ·rw [if_neg c15] at H
       exact absurd H (by simp)
      rw [if_pos c15] at H
      have c15b0 : decide (0 ≤ (rd l1 x20_2)) = true := decide_eq_true c15
      clear c15
      by_cases c16 : (rd l1 x20_2) < (x6_2.length : Int)
      rotate_left
      ·rw [if_neg c16] at H
       exact absurd H (by simp)
      rw [if_pos c16] at H
      have c16b0 : decide ((rd l1 x20_2) < (x6_2.length : Int)) = true := decide_eq_true c16
      clear c16
      obtain ⟨bq17, hbq17⟩ : ∃ b_ : Bool, b_ = (rdOf false x6_2 (rd l1 x20_2)) := ⟨_, rfl⟩
      replace H : (if bq17 = true then (some (([] : List Bool), 10)) else (shape_Axes.l0 k2 a0 l1 (x6_2.set ((rd l1 x20_2) : Int).toNat true) l1 (l1.length : Int) (wrap64 (x20_2 + 1)))) = some (r1, r2) := by rw [← hbq17] at H; exact H
      have Nbq17 := aM hbq17
      clear hbq17
      by_cases c18 : bq17 = true
      ·subst c18
       rw [if_pos rfl] at H
       simp only [Option.some.injEq, Prod.mk.injEq] at H
       obtain ⟨rfl, rfl⟩ := H
       have p144 : 0 ≤ (x20_2 : Int) := of_decide_eq_true pD
       have q144 : x20_2 < (l1.length : Int) := of_decide_eq_true pD
       obtain ⟨ad144, e144, hx144_0⟩ := Kd.at_int HR1.out x20_2 p144 q144
       cases e144
       replace hx144_0 := (HB.out.cell (World.block_lt_of_cell? w _ hx144_0)).trans hx144_0
       replace p144 := eq_true p144
       replace q144 := eq_true q144
       obtain ⟨Ao19, co19, eo19⟩ := Kd.R_slice HO_6.out
       subst eo19
       have p145 : 0 ≤ ((rd l1 x20_2) : Int) := of_decide_eq_true pD
       have q145 : (rd l1 x20_2) < (x6_2.length : Int) := of_decide_eq_true pD
       obtain ⟨ad145, e145, hx145_0⟩ := Kd.at_bool (Kd.R_reads' HO_6.out).2.2 (rd l1 x20_2) p145 q145
       (try rw [← Nbq17.out] at hx145_0)
       cases e145
       replace p145 := eq_true p145
       replace q145 := eq_true q145
       go_wp2
       go_ret2
       exact ⟨_, pE, pN, qB HB⟩
      replace c18 := Bool.eq_false_iff.mpr c18
      subst c18
      rw [if_neg (show ¬ (false = true) by decide)] at H
      obtain ⟨y146, hy146⟩ : ∃ y_ : List Bool, y_ = (x6_2.set ((rd l1 x20_2) : Int).toNat true) := ⟨_, rfl⟩
      replace H : (shape_Axes.l0 k2 a0 l1 y146 l1 (l1.length : Int) (wrap64 (x20_2 + 1))) = some (r1, r2) := pH hy146 H
      have Ny146 := aM hy146
      clear hy146
      have H' := aM H
      clear H
      have p144 : 0 ≤ (x20_2 : Int) := of_decide_eq_true pD
      have q144 : x20_2 < (l1.length : Int) := of_decide_eq_true pD
      obtain ⟨ad144, e144, hx144_0⟩ := Kd.at_int HR1.out x20_2 p144 q144
      cases e144
      replace hx144_0 := (HB.out.cell (World.block_lt_of_cell? w _ hx144_0)).trans hx144_0
      replace p144 := eq_true p144
      replace q144 := eq_true q144
      obtain ⟨Ao21, co21, eo21⟩ := Kd.R_slice HO_6.out
      subst eo21
      have p145 : 0 ≤ ((rd l1 x20_2) : Int) := of_decide_eq_true pD
      have q145 : (rd l1 x20_2) < (x6_2.length : Int) := of_decide_eq_true pD
      obtain ⟨ad145, e145, hx145_0⟩ := Kd.at_bool (Kd.R_reads' HO_6.out).2.2 (rd l1 x20_2) p145 q145
      (try rw [← Nbq17.out] at hx145_0)
      cases e145
      replace p145 := eq_true p145
      replace q145 := eq_true q145
      have p20 : 0 ≤ ((rd l1 x20_2) : Int) := of_decide_eq_true pD
      have q20 : ((rd l1 x20_2) : Int) < ((x6_2.length : Int) : Int) := of_decide_eq_true pD
      obtain ⟨go20, co20, eo20, gb20, gl20, cl20, HG20⟩ := Kd.R_form HO_6.out (by omega)
      (first | cases eo20 | (injection eo20 with ea_ en_ ec_; (first | subst ea_ | (injection ea_ with ea_; subst ea_)); subst ec_; clear en_))
      have GB20 := aM gb20
      have GG20 := aM HG20
      clear gb20 gl20 HG20
      (first | simp only [add_plain] at hx145_0 | skip)
      obtain ⟨hx20_0, hf20_0⟩ := Kd.R_celln false HO_6.out ((rd l1 x20_2) : Int) p20 q20
      replace p20 := eq_true p20
      replace q20 := eq_true q20
      have HP22 := Kd.R_putg HO_6.out ((rd l1 x20_2) : Int) true
      go_wp2_with (first | ((with_reducible refine gate_store (t := 4) (p := 39) rfl ?_); refine store_event (t := 4) (p := 39) (v := ?vo_w23) (w1 := (wr.setCell ⟨go20, ((rd l1 x20_2) : Int).toNat, none⟩ (.bool true))) ?hg ?ho ?hn ?hr ?_; (case ho => rfl); (case hg => rfl); (case hn => rfl); (case hr => first | (go_simp; done) | (go_simp; rfl)); intro w23 hw; have hg : wr.grownBy w23 (some go20) := (by rw [hw]; exact HP22.2); have hp_ : Kd.R Kd.bool 4 w23 w.heap.size (fun _ => True) (.slice (some ⟨go20, 0, none⟩) x6_2.length co21) y146 := (by rw [hw, Ny146.out]; exact HP22.1); clear HP22; replace HO_6 := aM (hp_); replace HB := aM ((by rw [hw]; exact below_set (HB.out) GB20.out : Below w.heap.size w w23)); clear hg hw hp_))
      go_roundg k2
      case measure => have := HJ2.out; have := HK2.out; omega
      case rel => exact ⟨(y146), (wrap64 (x20_2 + 1)), (pF), H', ⟨by have := HJ2.out; have := HK2.out; omega⟩, ⟨pR HO_6.out⟩, ⟨qB HB⟩⟩
     rw [if_neg c10] at H
     have c10b0 : decide (x20_2 < (l1.length : Int)) = false := decide_eq_false c10
     clear c10
     by_cases c24 : (l1.length : Int) = 0
     rotate_left
     ·rw [if_neg c24] at H
      have c24b0 : ((l1.length : Int) == 0) = false := beq_eq_false_iff_ne.mpr c24
      have c24b1 : ((l1.length : Int) != 0) = true := bne_iff_ne.mpr c24
      have c24b2 : ¬ (l1 = []) := fun h_ => c24 (by rw [h_]; rfl)
      simp only [Option.some.injEq, Prod.mk.injEq] at H
      obtain ⟨rfl, rfl⟩ := H
      go_wp2
      go_ret2
      exact ⟨_, pE, pR HO_6.out, qB HB⟩
     rw [if_pos c24] at H
     have c24b0 : ((l1.length : Int) == 0) = true := beq_iff_eq.mpr c24
     have c24b1 : ((l1.length : Int) != 0) = false := bne_eq_false_iff_eq.mpr c24
     clear c24
     have H' := aM H
     clear H
     obtain ⟨Ao25, co25, eo25⟩ := Kd.R_slice HO_6.out
     subst eo25
     go_wp2
     go_loopg [46] k2 (fun kq v46 w' => ∃ (x6_3 : List Bool) (x46_3 : Int), v46 = .int .i64 x46_3 ∧ Aside0 (shape_Axes.l1 kq x6_3 (x6_2.length : Int) x46_3 = some (r1, r2)) ∧ Aside0 (kq ≤ k2) ∧ Aside0 (Kd.R Kd.bool 4 w' w.heap.size (fun _ => True) (.slice Ao25 x6_2.length co25) x6_3) ∧ Aside0 (Below w.heap.size w w'))
     case atStart => exact ⟨(x6_2), (0), (pF), H', ⟨Nat.le_refl _⟩, ⟨pR HO_6.out⟩, ⟨qB HB⟩⟩
     case round =>
      clear H'
      try clear c10b0
      try clear c24b0
      try clear c24b1
      obtain ⟨x6_3, x46_3, rfl, HA, HK3, HO_6, HB⟩ := hrel
      have hl6_3 := (Kd.R_reads' HO_6.out).1
      rw [hl6_3] at HO_6
      (try simp only [hl6_3])
      cases gk with
      | zero => exact absurd HA.out (by simp [shape_Axes.l1])
      | succ k3 =>
       have H := HA.out
       clear HA
       simp only [shape_Axes.l1] at H
       by_cases c26 : x46_3 < (x6_2.length : Int)
       rotate_left
       ·rw [if_neg c26] at H
        have c26b0 : decide (x46_3 < (x6_2.length : Int)) = false := decide_eq_false c26
        (try simp only [hl6_3] at c26b0)
        clear c26
        simp only [Option.some.injEq, Prod.mk.injEq] at H
        obtain ⟨rfl, rfl⟩ := H
        go_wp2
        go_ret2
        exact ⟨_, pE, pR HO_6.out, qB HB⟩
       rw [if_pos c26] at H
       have c26b0 : decide (x46_3 < (x6_2.length : Int)) = true := decide_eq_true c26
       (try simp only [hl6_3] at c26b0)
       clear c26
       by_cases c27 : 0 ≤ x46_3
       rotate_left
       ·rw [if_neg c27] at H
        exact absurd H (by simp)
       rw [if_pos c27] at H
       have c27b0 : decide (0 ≤ x46_3) = true := decide_eq_true c27
       clear c27
       by_cases c28 : x46_3 < (x6_3.length : Int)
       rotate_left
       ·rw [if_neg c28] at H
        exact absurd H (by simp)
       rw [if_pos c28] at H
       have c28b0 : decide (x46_3 < (x6_3.length : Int)) = true := decide_eq_true c28
       (try simp only [hl6_3] at c28b0)
       clear c28
       obtain ⟨y147, hy147⟩ : ∃ y_ : List Bool, y_ = (x6_3.set (x46_3 : Int).toNat true) := ⟨_, rfl⟩
       replace H : (shape_Axes.l1 k3 y147 (x6_2.length : Int) (wrap64 (x46_3 + 1))) = some (r1, r2) := pH hy147 H
       have Ny147 := aM hy147
       clear hy147
       have H' := aM H
       clear H
       have p29 : 0 ≤ (x46_3 : Int) := of_decide_eq_true pD
       have q29 : (x46_3 : Int) < ((x6_3.length : Int) : Int) := of_decide_eq_true pD
       obtain ⟨go29, co29, eo29, gb29, gl29, cl29, HG29⟩ := Kd.R_form HO_6.out (by omega)
       (first | cases eo29 | (injection eo29 with ea_ en_ ec_; (first | subst ea_ | (injection ea_ with ea_; subst ea_)); subst ec_; clear en_))
       have GB29 := aM gb29
       have GG29 := aM HG29
       clear gb29 gl29 HG29
       obtain ⟨hx29_0, hf29_0⟩ := Kd.R_celln false HO_6.out (x46_3 : Int) p29 q29
       replace p29 := eq_true p29
       replace q29 := eq_true q29
       have HP30 := Kd.R_putg HO_6.out (x46_3 : Int) true
       go_wp2_with (first | ((with_reducible refine gate_store (t := 4) (p := 51) rfl ?_); refine store_event (t := 4) (p := 51) (v := ?vo_w31) (w1 := (wr.setCell ⟨go29, (x46_3 : Int).toNat, none⟩ (.bool true))) ?hg ?ho ?hn ?hr ?_; (case ho => rfl); (case hg => rfl); (case hn => rfl); (case hr => first | (go_simp; done) | (go_simp; rfl)); intro w31 hw; have hg : wr.grownBy w31 (some go29) := (by rw [hw]; exact HP30.2); have hp_ : Kd.R Kd.bool 4 w31 w.heap.size (fun _ => True) (.slice (some ⟨go29, 0, none⟩) x6_3.length co25) y147 := (by rw [hw, Ny147.out]; exact HP30.1); clear HP30; replace HO_6 := aM (hp_); replace HB := aM ((by rw [hw]; exact below_set (HB.out) GB29.out : Below w.heap.size w w31)); clear hg hw hp_))
       (try simp only [← hl6_3])
       go_roundg k3
       case measure => have := HJ2.out; have := HK2.out; have := HK3.out; omega
       case rel => exact ⟨(y147), (wrap64 (x46_3 + 1)), (pF), H', ⟨by have := HJ2.out; have := HK2.out; have := HK3.out; omega⟩, ⟨by (try simp only [hl6_3]); (with_reducible repeat (first | apply rA | apply rN | apply rD)); exact HO_6.out⟩, ⟨qB HB⟩⟩
def shape_Perm.l0 : Nat → List Int → List Int → List Int → Int → Int → Option (List Int × Int)
 | 0, _, _, _, _, _ => none
 | k + 1, x0, x9, x32, x33, x34 => if x34 < x33 then (if 0 ≤ x34 then (if x34 < (x32.length : Int) then (if 0 ≤ (rd x32 x34) then (if (rd x32 x34) < (x0.length : Int) then (if x9.length < 17592186044416 then (shape_Perm.l0 k x0 (x9 ++ [rd x0 (rd x32 x34)]) x32 x33 (wrap64 (x34 + 1))) else (none)) else (none)) else (none)) else (none)) else (none)) else (some (x9, 0))
def shape_Perm.f (k : Nat) (l0 : List Int) (l1 : List Int) : Option (List Int × Int) := (shape_Check.f l0).bind fun t148 => (if t148 = 0 then (if (l1.length : Int) = (l0.length : Int) then ((shape_Axes.f k (l0.length : Int) l1).bind fun bt149 => (if bt149.2 = 0 then (shape_Perm.l0 k l0 ([] : List Int) l1 (l1.length : Int) 0) else (some (([] : List Int), bt149.2)))) else (some (([] : List Int), 10))) else (some (([] : List Int), t148)))
set_option maxHeartbeats 8000000 in
set_option maxRecDepth 100000 in
theorem shape_Perm.calls (k : Nat) (A0 : Option Addr) (c0 : Nat) (l0 : List Int) (A1 : Option Addr) (c1 : Nat) (l1 : List Int) (r1 : List Int) (r2 : Int) (w : World) (hr0 : Kd.C (Kd.int .i64) w A0 l0.length l0) (hc0 : l0.length ≤ c0) (hr1 : Kd.C (Kd.int .i64) w A1 l1.length l1) (hc1 : l1.length ≤ c1) (h : shape_Perm.f k l0 l1 = some (r1, r2)) :
  Calls Try.prog 46 #[.slice A0 l0.length c0, .slice A1 l1.length c1] w fun e w' => ∃ v0_ : Value, e = .returned (.tuple #[v0_, .int .i64 r2]) ∧ Kd.R (Kd.int .i64) 3 w' w.heap.size (fun _ => True) v0_ r1 ∧ Below w.heap.size w w' := by
 have HR0 := aM hr0
 have HC0 := aM hc0
 clear hr0 hc0
 have HR1 := aM hr1
 have HC1 := aM hc1
 clear hr1 hc1
 have HB := aM (Below.refl w.heap.size w)
 have H : ((shape_Check.f l0).bind fun t148 => (if t148 = 0 then (if (l1.length : Int) = (l0.length : Int) then ((shape_Axes.f k (l0.length : Int) l1).bind fun bt149 => (if bt149.2 = 0 then (shape_Perm.l0 k l0 ([] : List Int) l1 (l1.length : Int) 0) else (some (([] : List Int), bt149.2)))) else (some (([] : List Int), 10))) else (some (([] : List Int), t148)))) = some (r1, r2) := h
 clear h
 replace H := Option.bind_eq_some_iff.mp H
 obtain ⟨t148, A30, H⟩ := H
 try dsimp only at H
 have A3 := aM A30
 clear A30
 by_cases c4 : t148 = 0
 rotate_left
 ·rw [if_neg c4] at H
  have c4b0 : (t148 == 0) = false := beq_eq_false_iff_ne.mpr c4
  have c4b1 : (t148 != 0) = true := bne_iff_ne.mpr c4
  simp only [Option.some.injEq, Prod.mk.injEq] at H
  obtain ⟨rfl, rfl⟩ := H
  go_enter Try.func46, Try.ntmps46
  go_wp2_with (first | ((with_reducible refine gate_callee (f := 41) rfl ?_); refine goesL_ (some 13) rfl rfl Try.func41 (by kernel_rfl) rfl #[.slice A0 l0.length c0] rfl pA ?_; (with_reducible refine (shape_Check.calls _ _ l0 t148 _ ?s1 ?s2 A3.out).mono ?_); (case s1 => exact pC HR0.out); (case s2 => exact HC0.out); rintro e w' ⟨rfl, ⟨nd, rfl⟩⟩; refine ⟨_, rfl, ?_⟩))
  go_ret2
  exact ⟨_, pE, pN, qB HB⟩
 rw [if_pos c4] at H
 have c4b0 : (t148 == 0) = true := beq_iff_eq.mpr c4
 have c4b1 : (t148 != 0) = false := bne_eq_false_iff_eq.mpr c4
 clear c4
 by_cases c5 : (l1.length : Int) = (l0.length : Int)
 rotate_left
 ·rw [if_neg c5] at H
  have c5b0 : ((l1.length : Int) == (l0.length : Int)) = false := beq_eq_false_iff_ne.mpr c5
  have c5b1 : ((l1.length : Int) != (l0.length : Int)) = true := bne_iff_ne.mpr c5
  have c5b2 : (l1.length == l0.length) = false := by first | simpa using c5 | (simp at c5 ⊢; omega)
  simp only [Option.some.injEq, Prod.mk.injEq] at H
  obtain ⟨rfl, rfl⟩ := H
  go_enter Try.func46, Try.ntmps46
  go_wp2_with (first | ((with_reducible refine gate_callee (f := 41) rfl ?_); refine goesL_ (some 13) rfl rfl Try.func41 (by kernel_rfl) rfl #[.slice A0 l0.length c0] rfl pA ?_; (with_reducible refine (shape_Check.calls _ _ l0 t148 _ ?s1 ?s2 A3.out).mono ?_); (case s1 => exact pC HR0.out); (case s2 => exact HC0.out); rintro e w' ⟨rfl, ⟨nd, rfl⟩⟩; refine ⟨_, rfl, ?_⟩))
  go_ret2
  exact ⟨_, pE, pN, qB HB⟩
 rw [if_pos c5] at H
 have c5b0 : ((l1.length : Int) == (l0.length : Int)) = true := beq_iff_eq.mpr c5
 have c5b1 : ((l1.length : Int) != (l0.length : Int)) = false := bne_eq_false_iff_eq.mpr c5
 have c5b2 : (l1.length == l0.length) = true := by first | simpa using c5 | (simp at c5 ⊢; omega)
 clear c5
 replace H := Option.bind_eq_some_iff.mp H
 obtain ⟨⟨t149, t150⟩, A60, H⟩ := H
 try dsimp only at H
 have A6 := aM A60
 clear A60
 by_cases c7 : t150 = 0
 rotate_left
 ·rw [if_neg c7] at H
  have c7b0 : (t150 == 0) = false := beq_eq_false_iff_ne.mpr c7
  have c7b1 : (t150 != 0) = true := bne_iff_ne.mpr c7
  simp only [Option.some.injEq, Prod.mk.injEq] at H
  obtain ⟨rfl, rfl⟩ := H
  go_enter Try.func46, Try.ntmps46
  go_wp2_with (first | ((with_reducible refine gate_callee (f := 41) rfl ?_); refine goesL_ (some 13) rfl rfl Try.func41 (by kernel_rfl) rfl #[.slice A0 l0.length c0] rfl pA ?_; (with_reducible refine (shape_Check.calls _ _ l0 t148 _ ?s1 ?s2 A3.out).mono ?_); (case s1 => exact pC HR0.out); (case s2 => exact HC0.out); rintro e w' ⟨rfl, ⟨nd, rfl⟩⟩; refine ⟨_, rfl, ?_⟩) | ((with_reducible refine gate_callee (f := 57) rfl ?_); refine goesL_ (some 26) rfl rfl Try.func57 (by kernel_rfl) rfl #[.int .i64 (l0.length : Int), .slice A1 l1.length c1] rfl pA ?_; (with_reducible refine (shape_Axes.calls k (l0.length : Int) _ _ l1 t149 t150 _ ?s1 ?s2 A6.out).mono ?_); (case s1 => exact pC HR1.out); (case s2 => exact HC1.out); rintro e w16 ⟨v151, rfl, ho0, hb⟩; refine ⟨_, rfl, ?_⟩; have HO152 := aM (Kd.R_lower ho0 (below_size (qB HB))); replace HB := bS (qB HB) hb; (try clear hb); (try clear hk); (try clear hi); (try clear ho0)))
  go_ret2
  exact ⟨_, pE, pN, qB HB⟩
 rw [if_pos c7] at H
 have c7b0 : (t150 == 0) = true := beq_iff_eq.mpr c7
 have c7b1 : (t150 != 0) = false := bne_eq_false_iff_eq.mpr c7
 clear c7
 have H' := aM H
 clear H
 go_enter Try.func46, Try.ntmps46
 go_wp2_with (first | ((with_reducible refine gate_callee (f := 41) rfl ?_); refine goesL_ (some 13) rfl rfl Try.func41 (by kernel_rfl) rfl #[.slice A0 l0.length c0] rfl pA ?_; (with_reducible refine (shape_Check.calls _ _ l0 t148 _ ?s1 ?s2 A3.out).mono ?_); (case s1 => exact pC HR0.out); (case s2 => exact HC0.out); rintro e w' ⟨rfl, ⟨nd, rfl⟩⟩; refine ⟨_, rfl, ?_⟩) | ((with_reducible refine gate_callee (f := 57) rfl ?_); refine goesL_ (some 26) rfl rfl Try.func57 (by kernel_rfl) rfl #[.int .i64 (l0.length : Int), .slice A1 l1.length c1] rfl pA ?_; (with_reducible refine (shape_Axes.calls k (l0.length : Int) _ _ l1 t149 t150 _ ?s1 ?s2 A6.out).mono ?_); (case s1 => exact pC HR1.out); (case s2 => exact HC1.out); rintro e w8 ⟨v151, rfl, ho0, hb⟩; refine ⟨_, rfl, ?_⟩; have HO152 := aM (Kd.R_lower ho0 (below_size (qB HB))); replace HB := bS (qB HB) hb; (try clear hb); (try clear hk); (try clear hi); (try clear ho0)))
 go_loopg [9, 34] k (fun kq v9 v34 w' => ∃ (x9_1 : List Int) (x34_1 : Int), v34 = .int .i64 x34_1 ∧ Aside0 (shape_Perm.l0 kq l0 x9_1 l1 (l1.length : Int) x34_1 = some (r1, r2)) ∧ Aside0 (kq ≤ k) ∧ Aside0 (Kd.R (Kd.int .i64) 3 w' w.heap.size (fun _ => True) v9 x9_1) ∧ Aside0 (Below w.heap.size w w'))
 case atStart => exact ⟨(([] : List Int)), (0), (pF), H', ⟨Nat.le_refl _⟩, ⟨pN⟩, ⟨qB HB⟩⟩
 case round =>
  clear H'
  try clear c1
  try clear c4b0
  try clear c4b1
  try clear c5b0
  try clear c5b1
  try clear c5b2
  try clear c7b0
  try clear c7b1
  obtain ⟨x9_1, x34_1, rfl, HA, HK1, HO_9, HB⟩ := hrel
  cases gk with
  | zero => exact absurd HA.out (by simp [shape_Perm.l0])
  | succ k1 =>
   have H := HA.out
   clear HA
   simp only [shape_Perm.l0] at H
   by_cases c9 : x34_1 < (l1.length : Int)
   rotate_left
   ·rw [if_neg c9] at H
    have c9b0 : decide (x34_1 < (l1.length : Int)) = false := decide_eq_false c9
    clear c9
    simp only [Option.some.injEq, Prod.mk.injEq] at H
    obtain ⟨rfl, rfl⟩ := H
    go_wp2
    go_ret2
    exact ⟨_, pE, pR HO_9.out, qB HB⟩
   rw [if_pos c9] at H
   have c9b0 : decide (x34_1 < (l1.length : Int)) = true := decide_eq_true c9
   clear c9
   by_cases c10 : 0 ≤ x34_1
   rotate_left
   ·rw [if_neg c10] at H
    exact absurd H (by simp)
   rw [if_pos c10] at H
   have c10b0 : decide (0 ≤ x34_1) = true := decide_eq_true c10
   clear c10
   by_cases c11 : x34_1 < (l1.length : Int)
   rotate_left
   ·rw [if_neg c11] at H
    exact absurd H (by simp)
   rw [if_pos c11] at H
   have c11b0 : decide (x34_1 < (l1.length : Int)) = true := decide_eq_true c11
   clear c11
   by_cases c12 : 0 ≤ (rd l1 x34_1)
   rotate_left
   ·rw [if_neg c12] at H
    exact absurd H (by simp)
   rw [if_pos c12] at H
   have c12b0 : decide (0 ≤ (rd l1 x34_1)) = true := decide_eq_true c12
   clear c12
   by_cases c13 : (rd l1 x34_1) < (l0.length : Int)
   rotate_left
   ·rw [if_neg c13] at H
    exact absurd H (by simp)
   rw [if_pos c13] at H
   have c13b0 : decide ((rd l1 x34_1) < (l0.length : Int)) = true := decide_eq_true c13
   clear c13
   by_cases c14 : x9_1.length < 17592186044416
   rotate_left
   ·rw [if_neg c14] at H
    exact absurd H (by simp)
   rw [if_pos c14] at H
   have LMc14 := aM c14
   clear c14
   obtain ⟨y155, hy155⟩ : ∃ y_ : List Int, y_ = (x9_1 ++ [rd l0 (rd l1 x34_1)]) := ⟨_, rfl⟩
   replace H : (shape_Perm.l0 k1 l0 y155 l1 (l1.length : Int) (wrap64 (x34_1 + 1))) = some (r1, r2) := pH hy155 H
   have Ny155 := aM hy155
   clear hy155
   have H' := aM H
   clear H
   have p153 : 0 ≤ (x34_1 : Int) := of_decide_eq_true pD
   have q153 : x34_1 < (l1.length : Int) := of_decide_eq_true pD
   obtain ⟨ad153, e153, hx153_0⟩ := Kd.at_int HR1.out x34_1 p153 q153
   cases e153
   replace hx153_0 := (HB.out.cell (World.block_lt_of_cell? w _ hx153_0)).trans hx153_0
   replace p153 := eq_true p153
   replace q153 := eq_true q153
   have p154 : 0 ≤ ((rd l1 x34_1) : Int) := of_decide_eq_true pD
   have q154 : (rd l1 x34_1) < (l0.length : Int) := of_decide_eq_true pD
   obtain ⟨ad154, e154, hx154_0⟩ := Kd.at_int HR0.out (rd l1 x34_1) p154 q154
   cases e154
   replace hx154_0 := (HB.out.cell (World.block_lt_of_cell? w _ hx154_0)).trans hx154_0
   replace p154 := eq_true p154
   replace q154 := eq_true q154
   go_wp2_with (first | ((with_reducible refine gate_builtin (b := .append) (xs := #[.tmp 38, .tmp 43]) rfl ?_); at_builtin; refine Kd.R_append (Kd.int .i64) (w0 := w) w.heap.size rfl (.tmp 38) (.tmp 43) 22 3 (.int .i64 0) 8 rfl Try.underlying22 info3 rfl (by decide) (by omega) u9 x9_1 (rd l0 (rd l1 x34_1)) [.int .i64 (rd l0 (rd l1 x34_1))] (fun _ => True) (fun _ => False) rfl rfl ?aP (fun _ hk => hk.elim) ?aF ?aO ?aB ?aS ?aL ?_; (case aP => exact rfl); (case aB => exact (qB HB)); (case aF => exact (fun _ _ => trivial)); (case aO => exact (pR HO_9.out)); (case aS => exact (below_size (qB HB))); (case aL => have := LMc14.out; omega); intro v156 w15 ho hb hg hat; rw [← Ny155.out] at ho; replace HB := aM (hb); have HO157 := aM (ho); clear HO_9; clear ho hb hg hat))
   go_roundg k1
   case measure => have := HK1.out; omega
   case rel => exact ⟨(y155), (wrap64 (x34_1 + 1)), (pF), H', ⟨by have := HK1.out; omega⟩, ⟨pR HO157.out⟩, ⟨qB HB⟩⟩
def view_Permute.l0 : Nat → List Int → List Int → List Int → Int → Int → Int → List Int → List Int → Option (Int × List Int × List Int × Int)
 | 0, _, _, _, _, _, _, _, _ => none
 | k + 1, x6, x8, x26, x27, x28, x159000, x159001, x159002 => if x28 < x27 then (if 0 ≤ x28 then (if x28 < (x26.length : Int) then (if 0 ≤ (rd x26 x28) then (if (rd x26 x28) < (x159002.length : Int) then (if x8.length < 17592186044416 then (view_Permute.l0 k x6 (x8 ++ [rd x159002 (rd x26 x28)]) x26 x27 (wrap64 (x28 + 1)) x159000 x159001 x159002) else (none)) else (none)) else (none)) else (none)) else (none)) else (some (x159000, x6, x8, 0))
def view_Permute.f (k : Nat) (a0_0 : Int) (l0_1 : List Int) (l0_2 : List Int) (l1 : List Int) : Option (Int × List Int × List Int × Int) := (view_right.f k a0_0 l0_1 l0_2).bind fun t160 => (if t160 = true then ((shape_Perm.f k l0_1 l1).bind fun bt161 => (if bt161.2 = 0 then (view_Permute.l0 k bt161.1 ([] : List Int) l1 (l1.length : Int) 0 a0_0 l0_1 l0_2) else (some (0, ([] : List Int), ([] : List Int), bt161.2)))) else (some (0, ([] : List Int), ([] : List Int), 1)))
set_option maxHeartbeats 8000000 in
set_option maxRecDepth 100000 in
theorem view_Permute.calls (k : Nat) (a0_0 : Int) (A0_1 : Option Addr) (c0_1 : Nat) (l0_1 : List Int) (A0_2 : Option Addr) (c0_2 : Nat) (l0_2 : List Int) (A1 : Option Addr) (c1 : Nat) (l1 : List Int) (r1 : Int) (r2 : List Int) (r3 : List Int) (r4 : Int) (w : World) (hr0_1 : Kd.C (Kd.int .i64) w A0_1 l0_1.length l0_1) (hc0_1 : l0_1.length ≤ c0_1) (hr0_2 : Kd.C (Kd.int .i64) w A0_2 l0_2.length l0_2) (hc0_2 : l0_2.length ≤ c0_2) (hr1 : Kd.C (Kd.int .i64) w A1 l1.length l1) (hc1 : l1.length ≤ c1) (h : view_Permute.f k a0_0 l0_1 l0_2 l1 = some (r1, r2, r3, r4)) :
  Calls Try.prog 21 #[.agg #[.int .i64 a0_0, .slice A0_1 l0_1.length c0_1, .slice A0_2 l0_2.length c0_2], .slice A1 l1.length c1] w fun e w' => ∃ v1_ v2_ : Value, e = .returned (.tuple #[.agg #[.int .i64 r1, v1_, v2_], .int .i64 r4]) ∧ Kd.R (Kd.int .i64) 3 w' w.heap.size (fun k_ => some k_ ≠ (v2_ : Value).ownBlock) v1_ r2 ∧ Kd.R (Kd.int .i64) 3 w' w.heap.size (fun k_ => some k_ ≠ (v1_ : Value).ownBlock) v2_ r3 ∧ Below w.heap.size w w' := by
 have hu24 := Try.underlying24
 have HR0_1 := aM hr0_1
 have HC0_1 := aM hc0_1
 clear hr0_1 hc0_1
 have HR0_2 := aM hr0_2
 have HC0_2 := aM hc0_2
 clear hr0_2 hc0_2
 have HR1 := aM hr1
 have HC1 := aM hc1
 clear hr1 hc1
 have HB := aM (Below.refl w.heap.size w)
 have H : ((view_right.f k a0_0 l0_1 l0_2).bind fun t160 => (if t160 = true then ((shape_Perm.f k l0_1 l1).bind fun bt161 => (if bt161.2 = 0 then (view_Permute.l0 k bt161.1 ([] : List Int) l1 (l1.length : Int) 0 a0_0 l0_1 l0_2) else (some (0, ([] : List Int), ([] : List Int), bt161.2)))) else (some (0, ([] : List Int), ([] : List Int), 1)))) = some (r1, r2, r3, r4) := h
 clear h
 replace H := Option.bind_eq_some_iff.mp H
 obtain ⟨t160, A30, H⟩ := H
 try dsimp only at H
 have A3 := aM A30
 clear A30
 by_cases c4 : t160 = true
 rotate_left
 ·replace c4 := Bool.eq_false_iff.mpr c4
  subst c4
  rw [if_neg (show ¬ (false = true) by decide)] at H
  simp only [Option.some.injEq, Prod.mk.injEq] at H
  obtain ⟨rfl, rfl, rfl, rfl⟩ := H
  go_enter Try.func21, Try.ntmps21
  go_wp2_with (first | ((with_reducible refine gate_dst (N := 2) rfl ?_); refine box_event ?hg (N := 2) ?hd (cs := #[.int .i64 a0_0, .slice A0_1 l0_1.length c0_1, .slice A0_2 l0_2.length c0_2]) (t := 24) ?hr ?_; (case hd => rfl); (case hg => rfl); (case hr => first | (go_simp; done) | (go_simp; rfl)); intro gb158 hg w36 hbox hb; have BK158 := aM (hbox); have GW158 := gE (w := w) hg (qB HB); have GE158 := GW158; replace HB := bS (qB HB) hb; clear hb hbox hg) | ((with_reducible refine gate_dst (N := 4) rfl ?_); refine box_event ?hg (N := 4) ?hd (cs := #[.int .i64 0, .slice none 0 0, .slice none 0 0]) (t := 24) ?hr ?_; (case hd => rfl); (case hg => rfl); (case hr => first | (go_simp; done) | (go_simp; rfl)); intro gb159 hg w37 hbox hb; have BK159 := aM (hbox); have GW159 := gE (w := w) hg (qB1 HB GE158); have GE159 := GW159; replace HB := bS (qB1 HB GE158) hb; have NB158_159 := nL hg BK158; have NB159_158 := nG hg BK158; replace BK158 := bK BK158 hb; clear hb hbox hg; have hnb38 := NB158_159.out; have hnc38 := NB159_158.out; obtain ⟨hcz39_0, hcz39_1, hcz39_2, hfz39_0, hfz39_1, hfz39_2⟩ := blk3 BK158.out) | ((with_reducible refine gate_callee (f := 39) rfl ?_); refine goesL_ (some 12) rfl rfl Try.func39 (by kernel_rfl) rfl #[.agg #[.int .i64 a0_0, .slice A0_1 l0_1.length c0_1, .slice A0_2 l0_2.length c0_2]] rfl pA ?_; (with_reducible refine (view_right.calls k a0_0 _ _ l0_1 _ _ l0_2 false _ ?s1 ?s2 ?s3 ?s4 A3.out).mono ?_); (case s1 => exact sC HR0_1 HB); (case s2 => exact HC0_1.out); (case s3 => exact sC HR0_2 HB); (case s4 => exact HC0_2.out); rintro e w40 ⟨rfl, hb⟩; refine ⟨_, rfl, ?_⟩; replace BK158 := bK BK158 hb; replace BK159 := bK BK159 hb; replace HB := bS (qB2 HB GE158 GE159) hb; (try clear hb); (try clear hk); (try clear hi); obtain ⟨hcz41_0, hcz41_1, hcz41_2, hfz41_0, hfz41_1, hfz41_2⟩ := blk3 BK159.out))
  refine bodyPost_ret (results_ct rfl _ _ gb159 24 #[.int .i64 0, .slice none 0 0, .slice none 0 0] (0, 0) _ rfl (by exact P3 BK159) Try.underlying24 rfl (by kernel_rfl)) rfl ?_
  exact ⟨_, _, pE, pN, pN, qB2 HB GE158 GE159⟩
 subst c4
 rw [if_pos rfl] at H
 replace H := Option.bind_eq_some_iff.mp H
 obtain ⟨⟨t161, t162⟩, A50, H⟩ := H
 try dsimp only at H
 have A5 := aM A50
 clear A50
 by_cases c6 : t162 = 0
 rotate_left
 ·rw [if_neg c6] at H
  have c6b0 : (t162 == 0) = false := beq_eq_false_iff_ne.mpr c6
  have c6b1 : (t162 != 0) = true := bne_iff_ne.mpr c6
  simp only [Option.some.injEq, Prod.mk.injEq] at H
  obtain ⟨rfl, rfl, rfl, rfl⟩ := H
  go_enter Try.func21, Try.ntmps21
  go_wp2_with (first | ((with_reducible refine gate_dst (N := 2) rfl ?_); refine box_event ?hg (N := 2) ?hd (cs := #[.int .i64 a0_0, .slice A0_1 l0_1.length c0_1, .slice A0_2 l0_2.length c0_2]) (t := 24) ?hr ?_; (case hd => rfl); (case hg => rfl); (case hr => first | (go_simp; done) | (go_simp; rfl)); intro gb158 hg w28 hbox hb; have BK158 := aM (hbox); have GW158 := gE (w := w) hg (qB HB); have GE158 := GW158; replace HB := bS (qB HB) hb; clear hb hbox hg) | ((with_reducible refine gate_dst (N := 4) rfl ?_); refine box_event ?hg (N := 4) ?hd (cs := #[.int .i64 0, .slice none 0 0, .slice none 0 0]) (t := 24) ?hr ?_; (case hd => rfl); (case hg => rfl); (case hr => first | (go_simp; done) | (go_simp; rfl)); intro gb159 hg w29 hbox hb; have BK159 := aM (hbox); have GW159 := gE (w := w) hg (qB1 HB GE158); have GE159 := GW159; replace HB := bS (qB1 HB GE158) hb; have NB158_159 := nL hg BK158; have NB159_158 := nG hg BK158; replace BK158 := bK BK158 hb; clear hb hbox hg; have hnb30 := NB158_159.out; have hnc30 := NB159_158.out; obtain ⟨hcz31_0, hcz31_1, hcz31_2, hfz31_0, hfz31_1, hfz31_2⟩ := blk3 BK158.out) | ((with_reducible refine gate_callee (f := 39) rfl ?_); refine goesL_ (some 12) rfl rfl Try.func39 (by kernel_rfl) rfl #[.agg #[.int .i64 a0_0, .slice A0_1 l0_1.length c0_1, .slice A0_2 l0_2.length c0_2]] rfl pA ?_; (with_reducible refine (view_right.calls k a0_0 _ _ l0_1 _ _ l0_2 true _ ?s1 ?s2 ?s3 ?s4 A3.out).mono ?_); (case s1 => exact sC HR0_1 HB); (case s2 => exact HC0_1.out); (case s3 => exact sC HR0_2 HB); (case s4 => exact HC0_2.out); rintro e w32 ⟨rfl, hb⟩; refine ⟨_, rfl, ?_⟩; replace BK158 := bK BK158 hb; replace BK159 := bK BK159 hb; replace HB := bS (qB2 HB GE158 GE159) hb; (try clear hb); (try clear hk); (try clear hi); obtain ⟨hcz33_0, hcz33_1, hcz33_2, hfz33_0, hfz33_1, hfz33_2⟩ := blk3 BK158.out) | ((with_reducible refine gate_callee (f := 46) rfl ?_); refine goesL_ (some 19) rfl rfl Try.func46 (by kernel_rfl) rfl #[.slice A0_1 l0_1.length c0_1, .slice A1 l1.length c1] rfl pA ?_; (with_reducible refine (shape_Perm.calls k _ _ l0_1 _ _ l1 t161 t162 _ ?s1 ?s2 ?s3 ?s4 A5.out).mono ?_); (case s1 => exact sC HR0_1 HB); (case s2 => exact HC0_1.out); (case s3 => exact sC HR1 HB); (case s4 => exact HC1.out); rintro e w34 ⟨v163, rfl, ho0, hb⟩; refine ⟨_, rfl, ?_⟩; have HO164 := aM (Kd.R_lower ho0 (below_size (qB2 HB GE158 GE159))); replace BK158 := bK BK158 hb; replace BK159 := bK BK159 hb; replace HB := bS (qB2 HB GE158 GE159) hb; (try clear hb); (try clear hk); (try clear hi); (try clear ho0); obtain ⟨hcz35_0, hcz35_1, hcz35_2, hfz35_0, hfz35_1, hfz35_2⟩ := blk3 BK159.out))
  refine bodyPost_ret (results_ct rfl _ _ gb159 24 #[.int .i64 0, .slice none 0 0, .slice none 0 0] (0, 0) _ rfl (by exact P3 BK159) Try.underlying24 rfl (by kernel_rfl)) rfl ?_
  exact ⟨_, _, pE, pN, pN, qB2 HB GE158 GE159⟩
 rw [if_pos c6] at H
 have c6b0 : (t162 == 0) = true := beq_iff_eq.mpr c6
 have c6b1 : (t162 != 0) = false := bne_eq_false_iff_eq.mpr c6
 clear c6
 have H' := aM H
 clear H
 go_enter Try.func21, Try.ntmps21
 go_wp2_with (first | ((with_reducible refine gate_dst (N := 2) rfl ?_); refine box_event ?hg (N := 2) ?hd (cs := #[.int .i64 a0_0, .slice A0_1 l0_1.length c0_1, .slice A0_2 l0_2.length c0_2]) (t := 24) ?hr ?_; (case hd => rfl); (case hg => rfl); (case hr => first | (go_simp; done) | (go_simp; rfl)); intro gb158 hg w7 hbox hb; have BK158 := aM (hbox); have GW158 := gE (w := w) hg (qB HB); have GE158 := GW158; replace HB := bS (qB HB) hb; clear hb hbox hg) | ((with_reducible refine gate_dst (N := 4) rfl ?_); refine box_event ?hg (N := 4) ?hd (cs := #[.int .i64 0, .slice none 0 0, .slice none 0 0]) (t := 24) ?hr ?_; (case hd => rfl); (case hg => rfl); (case hr => first | (go_simp; done) | (go_simp; rfl)); intro gb159 hg w8 hbox hb; have BK159 := aM (hbox); have GW159 := gE (w := w) hg (qB1 HB GE158); have GE159 := GW159; replace HB := bS (qB1 HB GE158) hb; have NB158_159 := nL hg BK158; have NB159_158 := nG hg BK158; replace BK158 := bK BK158 hb; clear hb hbox hg; have hnb9 := NB158_159.out; have hnc9 := NB159_158.out; obtain ⟨hcz10_0, hcz10_1, hcz10_2, hfz10_0, hfz10_1, hfz10_2⟩ := blk3 BK158.out) | ((with_reducible refine gate_callee (f := 39) rfl ?_); refine goesL_ (some 12) rfl rfl Try.func39 (by kernel_rfl) rfl #[.agg #[.int .i64 a0_0, .slice A0_1 l0_1.length c0_1, .slice A0_2 l0_2.length c0_2]] rfl pA ?_; (with_reducible refine (view_right.calls k a0_0 _ _ l0_1 _ _ l0_2 true _ ?s1 ?s2 ?s3 ?s4 A3.out).mono ?_); (case s1 => exact sC HR0_1 HB); (case s2 => exact HC0_1.out); (case s3 => exact sC HR0_2 HB); (case s4 => exact HC0_2.out); rintro e w11 ⟨rfl, hb⟩; refine ⟨_, rfl, ?_⟩; replace BK158 := bK BK158 hb; replace BK159 := bK BK159 hb; replace HB := bS (qB2 HB GE158 GE159) hb; (try clear hb); (try clear hk); (try clear hi); obtain ⟨hcz12_0, hcz12_1, hcz12_2, hfz12_0, hfz12_1, hfz12_2⟩ := blk3 BK158.out) | ((with_reducible refine gate_callee (f := 46) rfl ?_); refine goesL_ (some 19) rfl rfl Try.func46 (by kernel_rfl) rfl #[.slice A0_1 l0_1.length c0_1, .slice A1 l1.length c1] rfl pA ?_; (with_reducible refine (shape_Perm.calls k _ _ l0_1 _ _ l1 t161 t162 _ ?s1 ?s2 ?s3 ?s4 A5.out).mono ?_); (case s1 => exact sC HR0_1 HB); (case s2 => exact HC0_1.out); (case s3 => exact sC HR1 HB); (case s4 => exact HC1.out); rintro e w13 ⟨v163, rfl, ho0, hb⟩; refine ⟨_, rfl, ?_⟩; have HO164 := aM (Kd.R_lower ho0 (below_size (qB2 HB GE158 GE159))); replace BK158 := bK BK158 hb; replace BK159 := bK BK159 hb; replace HB := bS (qB2 HB GE158 GE159) hb; (try clear hb); (try clear hk); (try clear hi); (try clear ho0)))
 go_loopg [8, 28] k (fun kq v8 v28 w' => ∃ (x8_1 : List Int) (x28_1 : Int), v28 = .int .i64 x28_1 ∧ Aside0 (view_Permute.l0 kq t161 x8_1 l1 (l1.length : Int) x28_1 a0_0 l0_1 l0_2 = some (r1, r2, r3, r4)) ∧ Aside0 (kq ≤ k) ∧ Aside0 (Kd.R (Kd.int .i64) 3 w' w.heap.size (fun k_ => some k_ ≠ (v8 : Value).ownBlock) v163 t161) ∧ Aside0 (Kd.R (Kd.int .i64) 3 w' w.heap.size (fun k_ => some k_ ≠ (v163 : Value).ownBlock) v8 x8_1) ∧ Aside0 (w'.heap[gb158]? = some (.cells #[.int .i64 a0_0, (.slice A0_1 l0_1.length c0_1), (.slice A0_2 l0_2.length c0_2)] 24 (0, 0))) ∧ Aside0 (w'.heap[gb159]? = some (.cells #[.int .i64 0, (.slice none 0 0), (.slice none 0 0)] 24 (0, 0))) ∧ Aside0 (Below w.heap.size w w'))
 case atStart => exact ⟨(([] : List Int)), (0), (pF), H', ⟨Nat.le_refl _⟩, ⟨by (with_reducible repeat (first | apply rA | apply rN | apply rD)); exact Kd.R_mono HO164.out (fun _ hk => (by simp [Value.ownBlock]))⟩, ⟨pN⟩, ⟨by (with_reducible repeat (first | apply bN | apply bD | apply bA)); exact BK158.out⟩, ⟨by (with_reducible repeat (first | apply bN | apply bD | apply bA)); exact BK159.out⟩, ⟨qB2 HB GE158 GE159⟩⟩
 case round =>
  clear H'
  try clear c1
  try clear c4
  try clear c6b0
  try clear c6b1
  try clear hcz10_0 hcz10_1 hcz10_2 hcz12_0 hcz12_1 hcz12_2 hfz10_0 hfz10_1 hfz10_2 hfz12_0 hfz12_1 hfz12_2
  obtain ⟨x8_1, x28_1, rfl, HA, HK1, HO_6, HO_8, BK158, BK159, HB⟩ := hrel
  cases gk with
  | zero => exact absurd HA.out (by simp [view_Permute.l0])
  | succ k1 =>
   have H := HA.out
   clear HA
   simp only [view_Permute.l0] at H
   by_cases c14 : x28_1 < (l1.length : Int)
   rotate_left
   ·rw [if_neg c14] at H
    have c14b0 : decide (x28_1 < (l1.length : Int)) = false := decide_eq_false c14
    clear c14
    simp only [Option.some.injEq, Prod.mk.injEq] at H
    obtain ⟨rfl, rfl, rfl, rfl⟩ := H
    have hnb23 := NB158_159.out
    have hnc23 := NB159_158.out
    obtain ⟨hcz24_0, hcz24_1, hcz24_2, hfz24_0, hfz24_1, hfz24_2⟩ := blk3 BK158.out
    obtain ⟨Ao25, co25, eo25⟩ := Kd.R_slice HO_8.out
    subst eo25
    obtain ⟨Ao26, co26, eo26⟩ := Kd.R_slice HO_6.out
    subst eo26
    obtain ⟨hcz27_0, hcz27_1, hcz27_2, hfz27_0, hfz27_1, hfz27_2⟩ := blk3 BK159.out
    go_wp2
    refine bodyPost_ret (results_ct rfl _ _ gb159 24 #[.int .i64 a0_0, .slice Ao26 t161.length co26, .slice Ao25 x8_1.length co25] (0, 0) _ rfl (by exact P3 BK159) Try.underlying24 rfl (by kernel_rfl)) rfl ?_
    exact ⟨_, _, pE, by (with_reducible repeat (first | apply rA | apply rN | apply rD)); exact F3 HO_6 BK159 (fun _ hk => hk.1), by (with_reducible repeat (first | apply rA | apply rN | apply rD)); exact F3 HO_8 BK159 (fun _ hk => hk.1), qB2 HB GE158 GE159⟩
   rw [if_pos c14] at H
   have c14b0 : decide (x28_1 < (l1.length : Int)) = true := decide_eq_true c14
   clear c14
   by_cases c15 : 0 ≤ x28_1
   rotate_left
   ·rw [if_neg c15] at H
    exact absurd H (by simp)
   rw [if_pos c15] at H
   have c15b0 : decide (0 ≤ x28_1) = true := decide_eq_true c15
   clear c15
   by_cases c16 : x28_1 < (l1.length : Int)
   rotate_left
   ·rw [if_neg c16] at H
    exact absurd H (by simp)
   rw [if_pos c16] at H
   have c16b0 : decide (x28_1 < (l1.length : Int)) = true := decide_eq_true c16
   clear c16
   by_cases c17 : 0 ≤ (rd l1 x28_1)
   rotate_left
   ·rw [if_neg c17] at H
    exact absurd H (by simp)
   rw [if_pos c17] at H
   have c17b0 : decide (0 ≤ (rd l1 x28_1)) = true := decide_eq_true c17
   clear c17
   by_cases c18 : (rd l1 x28_1) < (l0_2.length : Int)
   rotate_left
   ·rw [if_neg c18] at H
    exact absurd H (by simp)
   rw [if_pos c18] at H
   have c18b0 : decide ((rd l1 x28_1) < (l0_2.length : Int)) = true := decide_eq_true c18
   clear c18
   by_cases c19 : x8_1.length < 17592186044416
   rotate_left
   ·rw [if_neg c19] at H
    exact absurd H (by simp)
   rw [if_pos c19] at H
   have LMc19 := aM c19
   clear c19
   obtain ⟨y167, hy167⟩ : ∃ y_ : List Int, y_ = (x8_1 ++ [rd l0_2 (rd l1 x28_1)]) := ⟨_, rfl⟩
   replace H : (view_Permute.l0 k1 t161 y167 l1 (l1.length : Int) (wrap64 (x28_1 + 1)) a0_0 l0_1 l0_2) = some (r1, r2, r3, r4) := pH hy167 H
   have Ny167 := aM hy167
   clear hy167
   have H' := aM H
   clear H
   have p165 : 0 ≤ (x28_1 : Int) := of_decide_eq_true pD
   have q165 : x28_1 < (l1.length : Int) := of_decide_eq_true pD
   obtain ⟨ad165, e165, hx165_0⟩ := Kd.at_int HR1.out x28_1 p165 q165
   cases e165
   replace hx165_0 := (HB.out.cell (World.block_lt_of_cell? w _ hx165_0)).trans hx165_0
   replace p165 := eq_true p165
   replace q165 := eq_true q165
   have hnb20 := NB158_159.out
   have hnc20 := NB159_158.out
   obtain ⟨hcz21_0, hcz21_1, hcz21_2, hfz21_0, hfz21_1, hfz21_2⟩ := blk3 BK158.out
   have p166 : 0 ≤ ((rd l1 x28_1) : Int) := of_decide_eq_true pD
   have q166 : (rd l1 x28_1) < (l0_2.length : Int) := of_decide_eq_true pD
   obtain ⟨ad166, e166, hx166_0⟩ := Kd.at_int HR0_2.out (rd l1 x28_1) p166 q166
   cases e166
   replace hx166_0 := (HB.out.cell (World.block_lt_of_cell? w _ hx166_0)).trans hx166_0
   replace p166 := eq_true p166
   replace q166 := eq_true q166
   go_wp2_with (first | ((with_reducible refine gate_builtin (b := .append) (xs := #[.tmp 32, .tmp 38]) rfl ?_); at_builtin; refine Kd.R_append (Kd.int .i64) (w0 := w) w.heap.size rfl (.tmp 32) (.tmp 38) 22 3 (.int .i64 0) 8 rfl Try.underlying22 info3 rfl (by decide) (by omega) u8 x8_1 (rd l0_2 (rd l1 x28_1)) [.int .i64 (rd l0_2 (rd l1 x28_1))] (fun k_ => some k_ ≠ (v163 : Value).ownBlock) (fun _ => False) rfl rfl ?aP (fun _ hk => hk.elim) ?aF ?aO ?aB ?aS ?aL ?_; (case aP => exact rfl); (case aB => exact (qB2 HB GE158 GE159)); (case aF => exact (fun k_ hk => Kd.fresh' (Kd.R_lt (pR HO_6.out)) k_ hk)); (case aO => exact (pR HO_8.out)); (case aS => exact (below_size (qB2 HB GE158 GE159))); (case aL => have := LMc19.out; omega); intro v168 w22 ho hb hg hat; rw [← Ny167.out] at ho; replace HO_6 := aM (Kd.R_after (ok := (fun _ => True)) (by (with_reducible repeat (first | apply rA | apply rN | apply rD)); exact Kd.R_mono HO_6.out (fun _ hk => ⟨trivial, hk⟩)) hg hat); replace BK158 := aM (blk_grown (g := gb158) (pK BK158.out) hg (Kd.R_ne HO_8.out BK158.out (by decide))); replace BK159 := aM (blk_grown (g := gb159) (pK BK159.out) hg (Kd.R_ne HO_8.out BK159.out (by decide))); replace HB := aM (hb); have HO169 := aM (ho); clear HO_8; clear ho hb hg hat))
   go_roundg k1
   case measure => have := HK1.out; omega
   case rel => exact ⟨(y167), (wrap64 (x28_1 + 1)), (pF), H', ⟨by have := HK1.out; omega⟩, ⟨by (with_reducible repeat (first | apply rA | apply rN | apply rD)); exact Kd.R_mono HO_6.out (fun _ hk => hk.2)⟩, ⟨pR HO169.out⟩, ⟨by (with_reducible repeat (first | apply bN | apply bD | apply bA)); exact BK158.out⟩, ⟨by (with_reducible repeat (first | apply bN | apply bD | apply bA)); exact BK159.out⟩, ⟨qB2 HB GE158 GE159⟩⟩
def slices_Clone_int_int.f (l0 : List Int) : Option (List Int) := if l0.length < 17592186044416 then some l0 else none
set_option maxHeartbeats 1000000 in
set_option maxRecDepth 100000 in
theorem slices_Clone_int_int.calls (A0 : Option Addr) (c0 : Nat) (l0 : List Int) (r1 : List Int) (w : World) (hr0 : Kd.C (Kd.int .i64) w A0 l0.length l0) (hc0 : l0.length ≤ c0) (h : slices_Clone_int_int.f l0 = some r1) :
    Calls Try.prog 43 #[.slice A0 l0.length c0] w fun e w' => ∃ v0_ : Value, e = .returned v0_ ∧ Kd.R (Kd.int .i64) 3 w' w.heap.size (fun _ => True) v0_ r1 ∧ Below w.heap.size w w' := by
  unfold slices_Clone_int_int.f at h
  split at h
  · rename_i hlen
    obtain rfl := Option.some.inj h
    clear h
    have LM := Aside0.mk hlen
    clear hlen
    have HB := Aside0.mk (Below.refl w.heap.size w)
    cases A0 with
    | none =>
      have hz : l0.length = 0 := by
        rcases Nat.eq_zero_or_pos l0.length with h0 | h0
        · exact h0
        · obtain ⟨ad, e, _⟩ := Kd.at_int hr0 0 (by omega) (by omega)
          cases e
      obtain rfl : l0 = [] := List.eq_nil_of_length_eq_zero hz
      clear hz hr0 hc0
      have hnil := fun (W : World) => Lib.run_eql_slice_nil (P := Try.prog) W 22 3 none 0 c0 0 0 Try.underlying22
      go_enter Try.func43, Try.ntmps43
      go_wp2
      go_ret
      exact ⟨_, rfl, Kd.R_nil _ _ _ _ _, HB.out⟩
    | some ad =>
      have hnil := fun (W : World) => Lib.run_eql_slice_nil (P := Try.prog) W 22 3 (some ad) l0.length c0 0 0 Try.underlying22
      have HR1 := Aside0.mk hr0
      clear hr0 hc0
      obtain ⟨y323, hy323⟩ : ∃ y_ : List Int, y_ = (([] : List Int)) := ⟨_, rfl⟩
      have LMc5 : Aside0 (y323.length + l0.length < 17592186044416) := ⟨by rw [hy323]; simpa using LM.out⟩
      have Ny323 := Aside0.mk hy323
      clear hy323
      obtain ⟨y326, hy326⟩ : ∃ y_ : List Int, y_ = (y323 ++ l0) := ⟨_, rfl⟩
      have hfin : Aside0 (y326 = l0) := ⟨by rw [hy326, Ny323.out]; rfl⟩
      have Ny326 := Aside0.mk hy326
      clear hy326
      go_enter Try.func43, Try.ntmps43
      go_wp2_with (first | ((with_reducible refine gate_dst (N := 5) rfl ?_); refine Kd.R_lit (Kd.int .i64) _ 3 ?hg (N := 5) ?hd (xs := ([] : List Int)) (inner := []) (ok := fun _ => True) (okp := fun _ => True) ?hr ?hp (fun _ hk => hk) trivial (Below.refl _ _) (Nat.le_refl _) (by simp) ?_; (case hd => rfl); (case hg => rfl); (case hr => first | (go_simp; done) | (go_simp; rfl)); (case hp => exact (Reps.none _ _)); intro v324 w6 ho7 hb hg_ hnew_; clear hg_ hnew_; (first | rw [← Ny323.out] at ho7 | (simp only [Int.reduceToNat] at ho7; rw [← Ny323.out] at ho7)); have n0_ := Aside0.mk (Kd.R_lower ho7 (below_size (by repeat (first | (with_reducible first | exact HB.out | apply below_alloc | apply pw_below_drewN | apply below_drew1) | exact HB.out)))); have n1_ := Aside0.mk (below_step (by repeat (first | (with_reducible first | exact HB.out | apply below_alloc | apply pw_below_drewN | apply below_drew1) | exact HB.out)) hb); clear HB; have HO325 := n0_; have HB := n1_; clear n0_ n1_; clear hb ho7) | ((with_reducible refine gate_builtin (b := .append) (xs := #[.tmp 5, .tmp 6]) rfl ?_); at_builtin; refine Kd.R_append_rows (Kd.int .i64) (w0 := w) w.heap.size rfl (.tmp 5) (.tmp 6) 22 3 (.int .i64 0) 8 rfl Try.underlying22 info3 rfl (by decide) (by omega) v324 y323 l0 _ _ _ (fun _ => True) (fun _ => False) rfl rfl ?aO ?aR (fun _ _ h => h) (fun _ h => h.elim) ?aF ?aB ?aS ?aL ?_; (case aR => repeat (first | exact (Kd.C_below HR1.out HB.out) | (with_reducible refine Kd.C_alloc ?_ _) | (with_reducible refine Kd.C_drewN ?_ _) | (with_reducible refine Kd.C_drew ?_))); (case aB => exact (by repeat (first | (with_reducible first | exact HB.out | apply below_alloc | apply pw_below_drewN | apply below_drew1) | exact HB.out))); (case aF => exact (fun _ _ => trivial)); (case aO => exact (by (with_reducible repeat (first | apply Kd.R_alloc | apply Kd.R_drewN | apply Kd.R_drew)); exact HO325.out)); (case aS => exact (below_size (by repeat (first | (with_reducible first | exact HB.out | apply below_alloc | apply pw_below_drewN | apply below_drew1) | exact HB.out)))); (case aL => have := LMc5.out; omega); intro v327 w8 ho hb hg hat; rw [← Ny326.out] at ho; have n0_ := Aside0.mk (hb); have n1_ := Aside0.mk (ho); clear HB; clear HO325; have HB := n0_; have HO328 := n1_; clear n0_ n1_; clear ho hb hg hat))
      go_ret
      exact ⟨_, rfl, by rw [← hfin.out]; exact HO328.out, HB.out⟩
  · cases h
def view_copied.f (a0_0 : Int) (l0_1 : List Int) (l0_2 : List Int) : Option (Int × List Int × List Int) := (slices_Clone_int_int.f l0_1).bind fun t172 => ((slices_Clone_int_int.f l0_2).bind fun t175 => (some (a0_0, t172, t175)))
def view_copied.T1 : Bool × List (List Nat × List Nat) := (true, [([], []), ([0], [0]), ([], []), ([2], [2]), ([3], [3]), ([], []), ([5], [5]), ([6, 4], [6]), ([1, 4, 7], [1, 4, 7]), ([8, 7, 0, 1, 2, 3, 4, 5, 6, 7, 8], [8])])
def view_copied.B1 : List Nat := [0, 1, 0, 4, 12, 0, 32, 124, 255, 511]
theorem view_copied.tab1 : rtab .any (opsOf Try.f45 1) = view_copied.T1 := by kernel_rfl
theorem view_copied.bits1 : waitsOk view_copied.T1.2 view_copied.B1 = true := by kernel_rfl
set_option maxHeartbeats 8000000 in
set_option maxRecDepth 100000 in
theorem view_copied.calls (a0_0 : Int) (A0_1 : Option Addr) (c0_1 : Nat) (l0_1 : List Int) (A0_2 : Option Addr) (c0_2 : Nat) (l0_2 : List Int) (r1 : Int) (r2 : List Int) (r3 : List Int) (w : World) (hr0_1 : Kd.C (Kd.int .i64) w A0_1 l0_1.length l0_1) (hc0_1 : l0_1.length ≤ c0_1) (hr0_2 : Kd.C (Kd.int .i64) w A0_2 l0_2.length l0_2) (hc0_2 : l0_2.length ≤ c0_2) (h : view_copied.f a0_0 l0_1 l0_2 = some (r1, r2, r3)) :
  Calls Try.prog 45 #[.agg #[.int .i64 a0_0, .slice A0_1 l0_1.length c0_1, .slice A0_2 l0_2.length c0_2]] w fun e w' => ∃ v1_ v2_ : Value, e = .returned (.agg #[.int .i64 r1, v1_, v2_]) ∧ Kd.R (Kd.int .i64) 3 w' w.heap.size (fun k_ => some k_ ≠ (v2_ : Value).ownBlock) v1_ r2 ∧ Kd.R (Kd.int .i64) 3 w' w.heap.size (fun k_ => some k_ ≠ (v1_ : Value).ownBlock) v2_ r3 ∧ Below w.heap.size w w' := by
 have hu24 := Try.underlying24
 have HR0_1 := aM hr0_1
 have HC0_1 := aM hc0_1
 clear hr0_1 hc0_1
 have HR0_2 := aM hr0_2
 have HC0_2 := aM hc0_2
 clear hr0_2 hc0_2
 have HB := aM (Below.refl w.heap.size w)
 have H : ((slices_Clone_int_int.f l0_1).bind fun t172 => ((slices_Clone_int_int.f l0_2).bind fun t175 => (some (a0_0, t172, t175)))) = some (r1, r2, r3) := h
 clear h
 replace H := Option.bind_eq_some_iff.mp H
 obtain ⟨t172, A20, H⟩ := H
 try dsimp only at H
 have A2 := aM A20
 clear A20
 replace H := Option.bind_eq_some_iff.mp H
 obtain ⟨t175, A30, H⟩ := H
 try dsimp only at H
 have A3 := aM A30
 clear A30
 simp only [Option.some.injEq, Prod.mk.injEq] at H
 obtain ⟨rfl, rfl, rfl⟩ := H
 go_enter Try.func45, Try.ntmps45
 try go_wp2_with (first | ((with_reducible refine gate_dst (N := 1) rfl ?_); refine box_event ?hg (N := 1) ?hd (cs := #[.int .i64 a0_0, .slice A0_1 l0_1.length c0_1, .slice A0_2 l0_2.length c0_2]) (t := 24) ?hr ?_; (case hd => rfl); (case hg => rfl); (case hr => first | (go_simp; done) | (go_simp; rfl)); intro gb170 hg w4 hbox hb; have BK170 := aM (hbox); have GW170 := gE (w := w) hg (qB HB); have GE170 := GW170; replace HB := bS (qB HB) hb; clear hb hbox hg) | ((with_reducible refine gate_dst (N := 2) rfl ?_); refine box_event ?hg (N := 2) ?hd (cs := #[.int .i64 0, .slice none 0 0, .slice none 0 0]) (t := 24) ?hr ?_; (case hd => rfl); (case hg => rfl); (case hr => first | (go_simp; done) | (go_simp; rfl)); intro gb171 hg w5 hbox hb; have BK171 := aM (hbox); have GW171 := gE (w := w) hg (qB1 HB GE170); have GE171 := GW171; replace HB := bS (qB1 HB GE170) hb; have NB170_171 := nL hg BK170; have NB171_170 := nG hg BK170; replace BK170 := bK BK170 hb; clear hb hbox hg))
 replace BK170 := aM (blk_drew BK170.out)
 replace BK171 := aM (blk_drew BK171.out)
 replace HB := aM (below_drew1 HB.out)
 refine start_ (n := 10) (S := fun w' => w'.cell? ⟨gb170, 0, none⟩ = some (.int .i64 a0_0) ∧ w'.cell? ⟨gb170, 1, none⟩ = some (.slice A0_1 l0_1.length c0_1) ∧ w'.cell? ⟨gb170, 2, none⟩ = some (.slice A0_2 l0_2.length c0_2)) (ds := []) #[false, false, false, false, false, false, false, false, false, false] (by kernel_rfl) rfl rfl ⟨(blk_cell BK170.out 0).trans rfl, (blk_cell BK170.out 1).trans rfl, (blk_cell BK170.out 2).trans rfl⟩ (fun hHeld => ?_); refine with_tabW view_copied.tab1 view_copied.bits1 (fun HT_ HW_ => ?_)
 generalize w5.drew = w6 at BK170 BK171 HB hHeld ⊢
 refine pP (i := 0) (N := some 3) #[true, false, false, false, false, false, false, false, false, false] rfl rfl HT_.out ?_
 refine pP (i := 2) (N := some 5) #[true, false, true, false, false, false, false, false, false, false] rfl rfl HT_.out ?_
 refine pP (i := 5) (N := some 8) #[true, false, true, false, false, true, false, false, false, false] rfl rfl HT_.out ?_
 refine pT (i := 1) (N := some 4) #[true, true, true, false, false, true, false, false, false, false] rfl rfl HT_.out HW_.out hHeld (by rintro w' ⟨s0, s1, s2⟩; go_simp; with_reducible rfl) ?_
 refine pT (i := 3) (N := some 6) #[true, true, true, true, false, true, false, false, false, false] rfl rfl HT_.out HW_.out hHeld (by rintro w' ⟨s0, s1, s2⟩; go_simp; with_reducible rfl) ?_
 refine pT (i := 6) (N := some 9) #[true, true, true, true, false, true, true, false, false, false] rfl rfl HT_.out HW_.out hHeld (by rintro w' ⟨s0, s1, s2⟩; go_simp; with_reducible rfl) ?_
 refine one_ (i := 4) (N := some 7) #[true, true, true, true, true, true, true, false, false, false] rfl rfl (one_of HT_.out (by kernel_rfl)) (by decide) (fun K hK => ?_)
 refine goes_ Try.func43 (by kernel_rfl) rfl #[.slice A0_1 l0_1.length c0_1] (by rfl) rfl rfl pA ?_
 with_reducible refine (slices_Clone_int_int.calls _ _ l0_1 t172 _ ?s1 ?s2 A2.out).mono ?_
 (case s1 => exact sC HR0_1 HB)
 (case s2 => exact HC0_1.out)
 rintro e w7 ⟨v173, rfl, ho0, hb⟩
 refine ⟨_, rfl, ?_⟩
 have HO174 := aM (Kd.R_lower ho0 (below_size (qB2 HB GE170 GE171)))
 replace BK170 := bK BK170 hb
 replace BK171 := bK BK171 hb
 replace HB := bS (qB2 HB GE170 GE171) hb
 (try clear hb)
 (try clear ho0)
 refine hK.out _ _ ⟨(blk_cell BK170.out 0).trans rfl, (blk_cell BK170.out 1).trans rfl, (blk_cell BK170.out 2).trans rfl⟩ (fun hHeld => ?_)
 clear hK K
 refine norm_ (a' := ?_) ?_ ?_
 rotate_left
 ·show Act.put _ (some 7) _ = _
  simp only [Act.put, sP, i64_w, i32_w]
  rfl
 refine one_ (i := 7) (N := some 10) #[true, true, true, true, true, true, true, true, false, false] rfl rfl (one_of HT_.out (by kernel_rfl)) (by decide) (fun K hK => ?_)
 refine goes_ Try.func43 (by kernel_rfl) rfl #[.slice A0_2 l0_2.length c0_2] (by rfl) rfl rfl pA ?_
 with_reducible refine (slices_Clone_int_int.calls _ _ l0_2 t175 _ ?s1 ?s2 A3.out).mono ?_
 (case s1 => exact sC HR0_2 HB)
 (case s2 => exact HC0_2.out)
 rintro e w8 ⟨v176, rfl, ho0, hb⟩
 refine ⟨_, rfl, ?_⟩
 have HO177 := aM (Kd.R_lower (Kd.R_new' ho0 (Kd.R_lt (pR HO174.out))) (below_size (qB2 HB GE170 GE171)))
 replace HO174 := eR HO174 ho0 hb
 replace BK170 := bK BK170 hb
 replace BK171 := bK BK171 hb
 replace HB := bS (qB2 HB GE170 GE171) hb
 (try clear hb)
 (try clear ho0)
 obtain ⟨Ao9, co9, eo9⟩ := Kd.R_slice HO177.out
 (first | subst eo9 | (injection eo9 with f1_ f2_ f3_; have f4_ := f1_.symm; have f5_ := f3_.symm; clear f1_ f2_ f3_; subst f4_; subst f5_))
 obtain ⟨Ao10, co10, eo10⟩ := Kd.R_slice HO174.out
 (first | subst eo10 | (injection eo10 with f1_ f2_ f3_; have f4_ := f1_.symm; have f5_ := f3_.symm; clear f1_ f2_ f3_; subst f4_; subst f5_))
 refine hK.out _ _ ⟨(blk_cell BK170.out 0).trans rfl, (blk_cell BK170.out 1).trans rfl, (blk_cell BK170.out 2).trans rfl⟩ (fun hHeld => ?_)
 clear hK K
 refine norm_ (a' := ?_) ?_ ?_
 rotate_left
 ·show Act.put _ (some 10) _ = _
  simp only [Act.put, sP, i64_w, i32_w]
  rfl
 refine pP (i := 8) (N := some 11) #[true, true, true, true, true, true, true, true, true, false] rfl rfl HT_.out ?_
 refine one_ (i := 9) (N := none) #[true, true, true, true, true, true, true, true, true, true] rfl rfl (one_of HT_.out (by kernel_rfl)) (by decide) (fun K hK => ?_)
 have hs11 : w8.cell? ⟨gb171, 0, none⟩ = some (.int .i64 0) := (blk_cell BK171.out 0).trans rfl
 have hfs11 := blk_frozen BK171.out 0
 have hns11_0 := NB170_171.out
 have hms11_0 := NB171_170.out
 have hs12 : w8.cell? ⟨gb171, 1, none⟩ = some (.slice none 0 0) := (blk_cell BK171.out 1).trans rfl
 have hfs12 := blk_frozen BK171.out 1
 have hns12_0 := NB170_171.out
 have hms12_0 := NB171_170.out
 have hs13 : w8.cell? ⟨gb171, 2, none⟩ = some (.slice none 0 0) := (blk_cell BK171.out 2).trans rfl
 have hfs13 := blk_frozen BK171.out 2
 have hns13_0 := NB170_171.out
 have hms13_0 := NB171_170.out
 refine skip_ (w1 := ?_) (by rfl) rfl ?_ ?_
 rotate_left
 ·go_simp
  rfl
 refine hK.out _ _ ⟨((cell_far (p := ⟨gb171, _, none⟩) NB170_171.out _).trans (((cell_far (p := ⟨gb171, _, none⟩) NB170_171.out _).trans (((cell_far (p := ⟨gb171, _, none⟩) NB170_171.out _).trans (hHeld.1)))))), ((cell_far (p := ⟨gb171, _, none⟩) NB170_171.out _).trans (((cell_far (p := ⟨gb171, _, none⟩) NB170_171.out _).trans (((cell_far (p := ⟨gb171, _, none⟩) NB170_171.out _).trans (hHeld.2.1)))))), ((cell_far (p := ⟨gb171, _, none⟩) NB170_171.out _).trans (((cell_far (p := ⟨gb171, _, none⟩) NB170_171.out _).trans (((cell_far (p := ⟨gb171, _, none⟩) NB170_171.out _).trans (hHeld.2.2))))))⟩ (fun hHeld => ?_)
 clear hK K
 refine done_ (done_of HT_.out (by kernel_rfl)) ?_
 try go_wp2
 refine bodyPost_ret (results_cell_row rfl _ _ gb171 24 #[.int .i64 a0_0, .slice Ao10 t172.length co10, .slice Ao9 t175.length co9] (0, 0) _ rfl (by exact P3 BK171) Try.underlying24 rfl (by kernel_rfl)) rfl ?_
 exact ⟨_, _, pE, by (with_reducible repeat (first | apply rA | apply rN | apply rD)); exact F3 HO174 BK171 (fun _ hk => hk.1.2), by (with_reducible repeat (first | apply rA | apply rN | apply rD)); exact F3 HO177 BK171 (fun _ hk => hk.1.2), qB2 HB GE170 GE171⟩
mutual
def view_Slice.j0 : Nat → Int → Int → Int → Int → Bool → Int → List Int → List Int → Option (Int × List Int × List Int × Int)
 | 0, _, _, _, _, _, _, _, _ => none
 | k + 1, x1, x2, x3, x4, x27, x179000, x179001, x179002 => if x27 = true then (some (0, ([] : List Int), ([] : List Int), 10)) else (if 0 ≤ x1 then (if x1 < (x179001.length : Int) then (if x2 < 0 then (view_Slice.j1 k x1 x2 x3 x4 (rd x179001 x1) true x179000 x179001 x179002) else (if x2 ≥ (rd x179001 x1) then (view_Slice.j1 k x1 x2 x3 x4 (rd x179001 x1) true x179000 x179001 x179002) else (if x3 < 1 then (view_Slice.j1 k x1 x2 x3 x4 (rd x179001 x1) true x179000 x179001 x179002) else (view_Slice.j1 k x1 x2 x3 x4 (rd x179001 x1) (decide (x3 > (rd x179001 x1))) x179000 x179001 x179002)))) else (none)) else (none))
def view_Slice.j1 : Nat → Int → Int → Int → Int → Int → Bool → Int → List Int → List Int → Option (Int × List Int × List Int × Int)
 | 0, _, _, _, _, _, _, _, _, _ => none
 | k + 1, x1, x2, x3, x4, x12, x49, x179000, x179001, x179002 => if x49 = true then (some (0, ([] : List Int), ([] : List Int), 11)) else ((view_copied.f x179000 x179001 x179002).bind fun bt182 => (if x3 > 1 then (if x4 = 0 then (view_Slice.j2 k x1 x2 x3 x4 x12 true x179000 x179001 x179002 bt182.1 bt182.2.1 bt182.2.2) else (if x4 ≥ x12 then (view_Slice.j2 k x1 x2 x3 x4 x12 true x179000 x179001 x179002 bt182.1 bt182.2.1 bt182.2.2) else (view_Slice.j2 k x1 x2 x3 x4 x12 (decide (x4 ≤ (wrap64 (-x12)))) x179000 x179001 x179002 bt182.1 bt182.2.1 bt182.2.2))) else (view_Slice.j3 k x1 x2 x3 x179000 x179001 x179002 bt182.1 bt182.2.1 bt182.2.2)))
def view_Slice.j3 : Nat → Int → Int → Int → Int → List Int → List Int → Int → List Int → List Int → Option (Int × List Int × List Int × Int)
 | 0, _, _, _, _, _, _, _, _, _ => none
 | k + 1, x1, x2, x3, x179000, x179001, x179002, x190000, x190001, x190002 => if x2 > 0 then (if 0 ≤ x1 then (if x1 < (x179002.length : Int) then (if x1 < (x190001.length : Int) then ((some (x190001.set (x1 : Int).toNat x3 : List Int)).bind fun y193 => (if x3 = 1 then (if x1 < (x190002.length : Int) then (some (wrap64 (x190000 + (wrap64 (x2 * (rd x179002 x1)))), y193, (x190002.set (x1 : Int).toNat 0), 0)) else (none)) else (some (wrap64 (x190000 + (wrap64 (x2 * (rd x179002 x1)))), y193, x190002, 0)))) else (none)) else (none)) else (none)) else (if 0 ≤ x1 then (if x1 < (x190001.length : Int) then ((some (x190001.set (x1 : Int).toNat x3 : List Int)).bind fun y195 => (if x3 = 1 then (if x1 < (x190002.length : Int) then (some (x190000, y195, (x190002.set (x1 : Int).toNat 0), 0)) else (none)) else (some (x190000, y195, x190002, 0)))) else (none)) else (none))
def view_Slice.j2 : Nat → Int → Int → Int → Int → Int → Bool → Int → List Int → List Int → Int → List Int → List Int → Option (Int × List Int × List Int × Int)
 | 0, _, _, _, _, _, _, _, _, _, _, _, _ => none
 | k + 1, x1, x2, x3, x4, x12, x67, x179000, x179001, x179002, x190000, x190001, x190002 => if x67 = true then (some (0, ([] : List Int), ([] : List Int), 11)) else (if (wrap64 (x2 + (wrap64 ((wrap64 (x3 - 1)) * x4)))) < 0 then (some (0, ([] : List Int), ([] : List Int), 11)) else (if (wrap64 (x2 + (wrap64 ((wrap64 (x3 - 1)) * x4)))) ≥ x12 then (some (0, ([] : List Int), ([] : List Int), 11)) else (if 0 ≤ x1 then (if x1 < (x179002.length : Int) then (if x1 < (x190002.length : Int) then (view_Slice.j3 k x1 x2 x3 x179000 x179001 x179002 x190000 x190001 (x190002.set (x1 : Int).toNat (wrap64 ((rd x179002 x1) * x4)))) else (none)) else (none)) else (none))))
end
def view_Slice.f (k : Nat) (a0_0 : Int) (l0_1 : List Int) (l0_2 : List Int) (a1 : Int) (a2 : Int) (a3 : Int) (a4 : Int) : Option (Int × List Int × List Int × Int) := (view_right.f k a0_0 l0_1 l0_2).bind fun t180 => (if t180 = true then (if a1 < 0 then (view_Slice.j0 k a1 a2 a3 a4 true a0_0 l0_1 l0_2) else (view_Slice.j0 k a1 a2 a3 a4 (decide (a1 ≥ (l0_1.length : Int))) a0_0 l0_1 l0_2)) else (some (0, ([] : List Int), ([] : List Int), 1)))
def view_Slice.T15 : Bool × List (List Nat × List Nat) := (true, [([], []), ([0], [0]), ([], []), ([], []), ([3], [3]), ([], []), ([4, 5], [4, 5]), ([6], [6]), ([], []), ([7, 8], [7, 8]), ([1, 2, 0, 1, 2, 3, 4, 5, 6, 7, 8, 9], [1, 2]), ([10, 9, 0, 1, 2, 3, 4, 5, 6, 7, 8, 9], [9, 10])])
def view_Slice.B15 : List Nat := [0, 1, 0, 0, 8, 0, 56, 120, 0, 504, 1023, 2047]
theorem view_Slice.tab15 : rtab .any (opsOf Try.f37 15) = view_Slice.T15 := by kernel_rfl
theorem view_Slice.bits15 : waitsOk view_Slice.T15.2 view_Slice.B15 = true := by kernel_rfl
def view_Slice.T17 : Bool × List (List Nat × List Nat) := (true, [([], []), ([0], [0]), ([], []), ([], []), ([3], [3]), ([], []), ([4, 5], [4, 5]), ([6], [6]), ([2, 7], [2, 7]), ([1, 8], [1, 8]), ([0, 1, 2, 3, 4, 5, 6, 7, 8, 9], []), ([10, 9, 0, 1, 2, 3, 4, 5, 6, 7, 8, 9], [9, 10])])
def view_Slice.B17 : List Nat := [0, 1, 0, 0, 8, 0, 56, 120, 252, 511, 1023, 2047]
theorem view_Slice.tab17 : rtab .any (opsOf Try.f37 17) = view_Slice.T17 := by kernel_rfl
theorem view_Slice.bits17 : waitsOk view_Slice.T17.2 view_Slice.B17 = true := by kernel_rfl
set_option maxHeartbeats 8000000 in
set_option maxRecDepth 100000 in
theorem view_Slice.calls (k : Nat) (a0_0 : Int) (A0_1 : Option Addr) (c0_1 : Nat) (l0_1 : List Int) (A0_2 : Option Addr) (c0_2 : Nat) (l0_2 : List Int) (a1 : Int) (a2 : Int) (a3 : Int) (a4 : Int) (r1 : Int) (r2 : List Int) (r3 : List Int) (r4 : Int) (w : World) (hr0_1 : Kd.C (Kd.int .i64) w A0_1 l0_1.length l0_1) (hc0_1 : l0_1.length ≤ c0_1) (hr0_2 : Kd.C (Kd.int .i64) w A0_2 l0_2.length l0_2) (hc0_2 : l0_2.length ≤ c0_2) (h : view_Slice.f k a0_0 l0_1 l0_2 a1 a2 a3 a4 = some (r1, r2, r3, r4)) :
  Calls Try.prog 37 #[.agg #[.int .i64 a0_0, .slice A0_1 l0_1.length c0_1, .slice A0_2 l0_2.length c0_2], .int .i64 a1, .int .i64 a2, .int .i64 a3, .int .i64 a4] w fun e w' => ∃ v1_ v2_ : Value, e = .returned (.tuple #[.agg #[.int .i64 r1, v1_, v2_], .int .i64 r4]) ∧ Kd.R (Kd.int .i64) 3 w' w.heap.size (fun k_ => some k_ ≠ (v2_ : Value).ownBlock) v1_ r2 ∧ Kd.R (Kd.int .i64) 3 w' w.heap.size (fun k_ => some k_ ≠ (v1_ : Value).ownBlock) v2_ r3 ∧ Below w.heap.size w w' := by
 have hu24 := Try.underlying24
 have HR0_1 := aM hr0_1
 have HC0_1 := aM hc0_1
 clear hr0_1 hc0_1
 have HR0_2 := aM hr0_2
 have HC0_2 := aM hc0_2
 clear hr0_2 hc0_2
 have HB := aM (Below.refl w.heap.size w)
 have H : ((view_right.f k a0_0 l0_1 l0_2).bind fun t180 => (if t180 = true then (if a1 < 0 then (view_Slice.j0 k a1 a2 a3 a4 true a0_0 l0_1 l0_2) else (view_Slice.j0 k a1 a2 a3 a4 (decide (a1 ≥ (l0_1.length : Int))) a0_0 l0_1 l0_2)) else (some (0, ([] : List Int), ([] : List Int), 1)))) = some (r1, r2, r3, r4) := h
 clear h
 replace H := Option.bind_eq_some_iff.mp H
 obtain ⟨t180, A60, H⟩ := H
 try dsimp only at H
 have A6 := aM A60
 clear A60
 by_cases c7 : t180 = true
 rotate_left
 ·replace c7 := Bool.eq_false_iff.mpr c7
  subst c7
  rw [if_neg (show ¬ (false = true) by decide)] at H
  simp only [Option.some.injEq, Prod.mk.injEq] at H
  obtain ⟨rfl, rfl, rfl, rfl⟩ := H
  go_enter Try.func37, Try.ntmps37
  go_wp2_with (first | ((with_reducible refine gate_dst (N := 5) rfl ?_); (try (refine gate_guard (by rfl) ?_; dsimp only)); refine box_event ?hg (N := 5) ?hd (cs := #[.int .i64 a0_0, .slice A0_1 l0_1.length c0_1, .slice A0_2 l0_2.length c0_2]) (t := 24) ?hr ?_; (case hd => rfl); (case hg => rfl); (case hr => first | (go_simp; done) | (go_simp; rfl)); intro gb178 hg w124 hbox hb; have BK178 := aM (hbox); have GW178 := gE (w := w) hg (qB HB); have GE178 := GW178; replace HB := bS (qB HB) hb; clear hb hbox hg) | ((with_reducible refine gate_dst (N := 10) rfl ?_); (try (refine gate_guard (by rfl) ?_; dsimp only)); refine box_event ?hg (N := 10) ?hd (cs := #[.int .i64 0, .slice none 0 0, .slice none 0 0]) (t := 24) ?hr ?_; (case hd => rfl); (case hg => rfl); (case hr => first | (go_simp; done) | (go_simp; rfl)); intro gb179 hg w125 hbox hb; have BK179 := aM (hbox); have GW179 := gE (w := w) hg (qB1 HB GE178); have GE179 := GW179; replace HB := bS (qB1 HB GE178) hb; have NB178_179 := nL hg BK178; have NB179_178 := nG hg BK178; replace BK178 := bK BK178 hb; clear hb hbox hg; have hnb126 := NB178_179.out; have hnc126 := NB179_178.out; obtain ⟨hcz127_0, hcz127_1, hcz127_2, hfz127_0, hfz127_1, hfz127_2⟩ := blk3 BK178.out) | ((with_reducible refine gate_callee (f := 39) rfl ?_); refine goesL_ (some 16) rfl rfl Try.func39 (by kernel_rfl) rfl #[.agg #[.int .i64 a0_0, .slice A0_1 l0_1.length c0_1, .slice A0_2 l0_2.length c0_2]] rfl pA ?_; (with_reducible refine (view_right.calls k a0_0 _ _ l0_1 _ _ l0_2 false _ ?s1 ?s2 ?s3 ?s4 A6.out).mono ?_); (case s1 => exact sC HR0_1 HB); (case s2 => exact HC0_1.out); (case s3 => exact sC HR0_2 HB); (case s4 => exact HC0_2.out); rintro e w128 ⟨rfl, hb⟩; refine ⟨_, rfl, ?_⟩; replace BK178 := bK BK178 hb; replace BK179 := bK BK179 hb; replace HB := bS (qB2 HB GE178 GE179) hb; (try clear hb); (try clear hk); (try clear hi); obtain ⟨hcz129_0, hcz129_1, hcz129_2, hfz129_0, hfz129_1, hfz129_2⟩ := blk3 BK179.out))
  refine bodyPost_ret (results_ct rfl _ _ gb179 24 #[.int .i64 0, .slice none 0 0, .slice none 0 0] (0, 0) _ rfl (by exact P3 BK179) Try.underlying24 rfl (by kernel_rfl)) rfl ?_
  exact ⟨_, _, pE, pN, pN, qB2 HB GE178 GE179⟩
 subst c7
 rw [if_pos rfl] at H
 have HC8 := aM H
 clear H
 go_enter Try.func37, Try.ntmps37
 go_upto_region 3 with (first | ((with_reducible refine gate_dst (N := 5) rfl ?_); (try (refine gate_guard (by rfl) ?_; dsimp only)); refine box_event ?hg (N := 5) ?hd (cs := #[.int .i64 a0_0, .slice A0_1 l0_1.length c0_1, .slice A0_2 l0_2.length c0_2]) (t := 24) ?hr ?_; (case hd => rfl); (case hg => rfl); (case hr => first | (go_simp; done) | (go_simp; rfl)); intro gb178 hg w9 hbox hb; have BK178 := aM (hbox); have GW178 := gE (w := w) hg (qB HB); have GE178 := GW178; replace HB := bS (qB HB) hb; clear hb hbox hg) | ((with_reducible refine gate_dst (N := 10) rfl ?_); (try (refine gate_guard (by rfl) ?_; dsimp only)); refine box_event ?hg (N := 10) ?hd (cs := #[.int .i64 0, .slice none 0 0, .slice none 0 0]) (t := 24) ?hr ?_; (case hd => rfl); (case hg => rfl); (case hr => first | (go_simp; done) | (go_simp; rfl)); intro gb179 hg w10 hbox hb; have BK179 := aM (hbox); have GW179 := gE (w := w) hg (qB1 HB GE178); have GE179 := GW179; replace HB := bS (qB1 HB GE178) hb; have NB178_179 := nL hg BK178; have NB179_178 := nG hg BK178; replace BK178 := bK BK178 hb; clear hb hbox hg; have hnb11 := NB178_179.out; have hnc11 := NB179_178.out; obtain ⟨hcz12_0, hcz12_1, hcz12_2, hfz12_0, hfz12_1, hfz12_2⟩ := blk3 BK178.out) | ((with_reducible refine gate_callee (f := 39) rfl ?_); refine goesL_ (some 16) rfl rfl Try.func39 (by kernel_rfl) rfl #[.agg #[.int .i64 a0_0, .slice A0_1 l0_1.length c0_1, .slice A0_2 l0_2.length c0_2]] rfl pA ?_; (with_reducible refine (view_right.calls k a0_0 _ _ l0_1 _ _ l0_2 true _ ?s1 ?s2 ?s3 ?s4 A6.out).mono ?_); (case s1 => exact sC HR0_1 HB); (case s2 => exact HC0_1.out); (case s3 => exact sC HR0_2 HB); (case s4 => exact HC0_2.out); rintro e w13 ⟨rfl, hb⟩; refine ⟨_, rfl, ?_⟩; replace BK178 := bK BK178 hb; replace BK179 := bK BK179 hb; replace HB := bS (qB2 HB GE178 GE179) hb; (try clear hb); (try clear hk); (try clear hi)))
 (try simp only [Act.put, sP])
 go_cut [27] (fun v27 wc => ∃ (kq : Nat) (x27_7 : Bool), v27 = .bool x27_7 ∧ Aside0 (view_Slice.j0 kq a1 a2 a3 a4 x27_7 a0_0 l0_1 l0_2 = some (r1, r2, r3, r4)) ∧ Aside0 (kq ≤ k) ∧ Aside0 (wc.heap[gb178]? = some (.cells #[.int .i64 a0_0, (.slice A0_1 l0_1.length c0_1), (.slice A0_2 l0_2.length c0_2)] 24 (0, 0))) ∧ Aside0 (wc.heap[gb179]? = some (.cells #[.int .i64 0, (.slice none 0 0), (.slice none 0 0)] 24 (0, 0))) ∧ Aside0 (Below w.heap.size w wc))
 case first =>
  have H := HC8.out
  clear HC8
  by_cases c14 : a1 < 0
  ·rw [if_pos c14] at H
   have c14b0 : decide (a1 < 0) = true := decide_eq_true c14
   clear c14
   (first | rw [c14b0] | (simp only [i64_w, i32_w]; rw [c14b0]) | skip)
   have H' := aM H
   clear H
   go_wp2
   go_meet
   case rel => exact ⟨_, (true), (pF), H', ⟨by first | omega | exact Nat.le_refl _⟩, ⟨by (with_reducible repeat (first | apply bN | apply bD | apply bA)); exact BK178.out⟩, ⟨by (with_reducible repeat (first | apply bN | apply bD | apply bA)); exact BK179.out⟩, ⟨qB2 HB GE178 GE179⟩⟩
  rw [if_neg c14] at H
  have c14b0 : decide (a1 < 0) = false := decide_eq_false c14
  clear c14
  (first | rw [c14b0] | (simp only [i64_w, i32_w]; rw [c14b0]) | skip)
  have H' := aM H
  clear H
  have hnb15 := NB178_179.out
  have hnc15 := NB179_178.out
  obtain ⟨hcz16_0, hcz16_1, hcz16_2, hfz16_0, hfz16_1, hfz16_2⟩ := blk3 BK178.out
  go_wp2
  go_meet
  case rel => exact ⟨_, (decide (a1 ≥ (l0_1.length : Int))), (pF), H', ⟨by first | omega | exact Nat.le_refl _⟩, ⟨by (with_reducible repeat (first | apply bN | apply bD | apply bA)); exact BK178.out⟩, ⟨by (with_reducible repeat (first | apply bN | apply bD | apply bA)); exact BK179.out⟩, ⟨qB2 HB GE178 GE179⟩⟩
 case rest =>
  clear HC8
  try clear c7
  try clear hcz12_0 hcz12_1 hcz12_2 hfz12_0 hfz12_1 hfz12_2
  obtain ⟨kq, x27_7, rfl, HA, HJ7, BK178, BK179, HB⟩ := hcut
  cases kq with
  | zero => exact absurd HA.out (by simp [view_Slice.j0])
  | succ kj7 =>
   have H := HA.out
   clear HA
   simp only [view_Slice.j0] at H
   by_cases c17 : x27_7 = true
   ·subst c17
    rw [if_pos rfl] at H
    simp only [Option.some.injEq, Prod.mk.injEq] at H
    obtain ⟨rfl, rfl, rfl, rfl⟩ := H
    have hnb18 := NB179_178.out
    have hnc18 := NB178_179.out
    obtain ⟨hcz19_0, hcz19_1, hcz19_2, hfz19_0, hfz19_1, hfz19_2⟩ := blk3 BK179.out
    go_wp2
    refine bodyPost_ret (results_ct rfl _ _ gb179 24 #[.int .i64 0, .slice none 0 0, .slice none 0 0] (0, 0) _ rfl (by exact P3 BK179) Try.underlying24 rfl (by kernel_rfl)) rfl ?_
    exact ⟨_, _, pE, pN, pN, qB2 HB GE178 GE179⟩
   replace c17 := Bool.eq_false_iff.mpr c17
   subst c17
   rw [if_neg (show ¬ (false = true) by decide)] at H
   by_cases c20 : 0 ≤ a1
   rotate_left
   ·rw [if_neg c20] at H
    exact absurd H (by simp)
   rw [if_pos c20] at H
   have c20b0 : decide (0 ≤ a1) = true := decide_eq_true c20
   clear c20
   by_cases c21 : a1 < (l0_1.length : Int)
   rotate_left
   ·rw [if_neg c21] at H
    exact absurd H (by simp)
   rw [if_pos c21] at H
   have c21b0 : decide (a1 < (l0_1.length : Int)) = true := decide_eq_true c21
   clear c21
   have HC22 := aM H
   clear H
   have hnb23 := NB178_179.out
   have hnc23 := NB179_178.out
   obtain ⟨hcz24_0, hcz24_1, hcz24_2, hfz24_0, hfz24_1, hfz24_2⟩ := blk3 BK178.out
   have p181 : 0 ≤ (a1 : Int) := of_decide_eq_true pD
   have q181 : a1 < (l0_1.length : Int) := of_decide_eq_true pD
   obtain ⟨ad181, e181, hx181_0⟩ := Kd.at_int HR0_1.out a1 p181 q181
   cases e181
   replace hx181_0 := (HB.out.cell (World.block_lt_of_cell? w _ hx181_0)).trans hx181_0
   replace p181 := eq_true p181
   replace q181 := eq_true q181
   go_upto_region 6 with (fail)
   go_cut [49] (fun v49 wc => ∃ (kq : Nat) (x49_21 : Bool), v49 = .bool x49_21 ∧ Aside0 (view_Slice.j1 kq a1 a2 a3 a4 (rd l0_1 a1) x49_21 a0_0 l0_1 l0_2 = some (r1, r2, r3, r4)) ∧ Aside0 (kq ≤ kj7) ∧ Aside0 (wc.heap[gb178]? = some (.cells #[.int .i64 a0_0, (.slice (some ad181) l0_1.length c0_1), (.slice A0_2 l0_2.length c0_2)] 24 (0, 0))) ∧ Aside0 (wc.heap[gb179]? = some (.cells #[.int .i64 0, (.slice none 0 0), (.slice none 0 0)] 24 (0, 0))) ∧ Aside0 (Below w.heap.size w wc))
   case first =>
    have H := HC22.out
    clear HC22
    by_cases c25 : a2 < 0
    ·rw [if_pos c25] at H
     have c25b0 : decide (a2 < 0) = true := decide_eq_true c25
     clear c25
     (first | rw [c25b0] | (simp only [i64_w, i32_w]; rw [c25b0]) | skip)
     have H' := aM H
     clear H
     go_wp2
     go_meet
     case rel => exact ⟨_, (true), (pF), H', ⟨by have := HJ7.out; first | omega | exact Nat.le_refl _⟩, ⟨by (with_reducible repeat (first | apply bN | apply bD | apply bA)); exact BK178.out⟩, ⟨by (with_reducible repeat (first | apply bN | apply bD | apply bA)); exact BK179.out⟩, ⟨qB2 HB GE178 GE179⟩⟩
    rw [if_neg c25] at H
    have c25b0 : decide (a2 < 0) = false := decide_eq_false c25
    clear c25
    (first | rw [c25b0] | (simp only [i64_w, i32_w]; rw [c25b0]) | skip)
    by_cases c26 : a2 ≥ (rd l0_1 a1)
    ·rw [if_pos c26] at H
     have c26b0 : decide ((rd l0_1 a1) ≤ a2) = true := decide_eq_true c26
     clear c26
     have H' := aM H
     clear H
     go_wp2
     go_meet
     case rel => exact ⟨_, (true), (pF), H', ⟨by have := HJ7.out; first | omega | exact Nat.le_refl _⟩, ⟨by (with_reducible repeat (first | apply bN | apply bD | apply bA)); exact BK178.out⟩, ⟨by (with_reducible repeat (first | apply bN | apply bD | apply bA)); exact BK179.out⟩, ⟨qB2 HB GE178 GE179⟩⟩
    rw [if_neg c26] at H
    have c26b0 : decide ((rd l0_1 a1) ≤ a2) = false := decide_eq_false c26
    clear c26
    by_cases c27 : a3 < 1
    ·rw [if_pos c27] at H
     have c27b0 : decide (a3 < 1) = true := decide_eq_true c27
     clear c27
     have H' := aM H
     clear H
     go_wp2
     go_meet
     case rel => exact ⟨_, (true), (pF), H', ⟨by have := HJ7.out; first | omega | exact Nat.le_refl _⟩, ⟨by (with_reducible repeat (first | apply bN | apply bD | apply bA)); exact BK178.out⟩, ⟨by (with_reducible repeat (first | apply bN | apply bD | apply bA)); exact BK179.out⟩, ⟨qB2 HB GE178 GE179⟩⟩
    rw [if_neg c27] at H
    have c27b0 : decide (a3 < 1) = false := decide_eq_false c27
    clear c27
    have H' := aM H
    clear H
    go_wp2
    go_meet
    case rel => exact ⟨_, (decide (a3 > (rd l0_1 a1))), (pF), H', ⟨by have := HJ7.out; first | omega | exact Nat.le_refl _⟩, ⟨by (with_reducible repeat (first | apply bN | apply bD | apply bA)); exact BK178.out⟩, ⟨by (with_reducible repeat (first | apply bN | apply bD | apply bA)); exact BK179.out⟩, ⟨qB2 HB GE178 GE179⟩⟩
   case rest =>
    clear HC22
    try clear c17
    try clear c20b0
    try clear c21b0
    try clear hcz24_0 hcz24_1 hcz24_2 hfz24_0 hfz24_1 hfz24_2
    try clear hx181_0
    try clear p181
    try clear q181
    obtain ⟨kq, x49_21, rfl, HA, HJ21, BK178, BK179, HB⟩ := hcut
    cases kq with
    | zero => exact absurd HA.out (by simp [view_Slice.j1])
    | succ kj21 =>
     have H := HA.out
     clear HA
     simp only [view_Slice.j1] at H
     by_cases c28 : x49_21 = true
     ·subst c28
      rw [if_pos rfl] at H
      simp only [Option.some.injEq, Prod.mk.injEq] at H
      obtain ⟨rfl, rfl, rfl, rfl⟩ := H
      have hnb29 := NB179_178.out
      have hnc29 := NB178_179.out
      obtain ⟨hcz30_0, hcz30_1, hcz30_2, hfz30_0, hfz30_1, hfz30_2⟩ := blk3 BK179.out
      go_wp2
      refine bodyPost_ret (results_ct rfl _ _ gb179 24 #[.int .i64 0, .slice none 0 0, .slice none 0 0] (0, 0) _ rfl (by exact P3 BK179) Try.underlying24 rfl (by kernel_rfl)) rfl ?_
      exact ⟨_, _, pE, pN, pN, qB2 HB GE178 GE179⟩
     replace c28 := Bool.eq_false_iff.mpr c28
     subst c28
     rw [if_neg (show ¬ (false = true) by decide)] at H
     replace H := Option.bind_eq_some_iff.mp H
     obtain ⟨⟨t182, t183, t186⟩, A310, H⟩ := H
     try dsimp only at H
     have A31 := aM A310
     clear A310
     have HC32 := aM H
     clear H
     have hnb33 := NB178_179.out
     have hnc33 := NB179_178.out
     obtain ⟨hcz34_0, hcz34_1, hcz34_2, hfz34_0, hfz34_1, hfz34_2⟩ := blk3 BK178.out
     go_upto_if 54 with (first | ((with_reducible refine gate_callee (f := 45) rfl ?_); refine goesL_ (some 52) rfl rfl Try.func45 (by kernel_rfl) rfl #[.agg #[.int .i64 a0_0, .slice (some ad181) l0_1.length c0_1, .slice A0_2 l0_2.length c0_2]] rfl pA ?_; (with_reducible refine (view_copied.calls a0_0 _ _ l0_1 _ _ l0_2 t182 t183 t186 _ ?s1 ?s2 ?s3 ?s4 A31.out).mono ?_); (case s1 => exact sC HR0_1 HB); (case s2 => exact HC0_1.out); (case s3 => exact sC HR0_2 HB); (case s4 => exact HC0_2.out); rintro e w35 ⟨v184, v187, rfl, ho0, ho1, hb⟩; refine ⟨_, rfl, ?_⟩; have HO185 := aM (Kd.R_lower ho0 (below_size (qB2 HB GE178 GE179))); have HO188 := aM (Kd.R_lower ho1 (below_size (qB2 HB GE178 GE179))); replace BK178 := bK BK178 hb; replace BK179 := bK BK179 hb; replace HB := bS (qB2 HB GE178 GE179) hb; (try clear hb); (try clear hk); (try clear hi); (try clear ho0); (try clear ho1)) | ((with_reducible refine gate_dst (N := 13) rfl ?_); (try (refine gate_guard (by rfl) ?_; dsimp only)); refine box_event ?hg (N := 13) ?hd (cs := #[.int .i64 0, .slice none 0 0, .slice none 0 0]) (t := 24) ?hr ?_; (case hd => rfl); (case hg => rfl); (case hr => first | (go_simp; done) | (go_simp; rfl)); intro gb189 hg w36 hbox hb; replace HO185 := bR HO185 hb; replace HO188 := bR HO188 hb; have BK189 := aM (hbox); have GW189 := gE (w := w) hg (qB2 HB GE178 GE179); have GE189 := GW189; replace HB := bS (qB2 HB GE178 GE179) hb; have NB178_189 := nL hg BK178; have NB189_178 := nG hg BK178; replace BK178 := bK BK178 hb; have NB179_189 := nL hg BK179; have NB189_179 := nG hg BK179; replace BK179 := bK BK179 hb; clear hb hbox hg; have hnb37 := NB189_178.out; have hnc37 := NB178_189.out; have hnb38 := NB189_179.out; have hnc38 := NB179_189.out; obtain ⟨hcz39_0, hcz39_1, hcz39_2, hfz39_0, hfz39_1, hfz39_2⟩ := blk3 BK189.out; obtain ⟨Ao40, co40, eo40⟩ := Kd.R_slice HO185.out; subst eo40; obtain ⟨Ao41, co41, eo41⟩ := Kd.R_slice HO188.out; subst eo41))
     (try simp only [Act.put, sP])
     go_cut [] (fun wc => ∃ (kq : Nat) (x180000_31 : Int) (x190001_31 : List Int) (x190002_31 : List Int) (u190001 : Value) (u190002 : Value), Aside0 (view_Slice.j3 kq a1 a2 a3 a0_0 l0_1 l0_2 t182 x190001_31 x190002_31 = some (r1, r2, r3, r4)) ∧ Aside0 (kq ≤ kj21) ∧ Aside0 (Kd.R (Kd.int .i64) 3 wc w.heap.size (fun k_ => some k_ ≠ (u190002 : Value).ownBlock) u190001 x190001_31) ∧ Aside0 (Kd.R (Kd.int .i64) 3 wc w.heap.size (fun k_ => some k_ ≠ (u190001 : Value).ownBlock) u190002 x190002_31) ∧ Aside0 (wc.heap[gb178]? = some (.cells #[.int .i64 a0_0, (.slice (some ad181) l0_1.length c0_1), (.slice A0_2 l0_2.length c0_2)] 24 (0, 0))) ∧ Aside0 (wc.heap[gb179]? = some (.cells #[.int .i64 x180000_31, (.slice none 0 0), (.slice none 0 0)] 24 (0, 0))) ∧ Aside0 (wc.heap[gb189]? = some (.cells #[.int .i64 t182, u190001, u190002] 24 (0, 0))) ∧ Aside0 (Below w.heap.size w wc))
     case first =>
      have H := HC32.out
      clear HC32
      by_cases c42 : a3 > 1
      rotate_left
      ·rw [if_neg c42] at H
       have c42b0 : decide (1 < a3) = false := decide_eq_false c42
       clear c42
       (first | rw [c42b0] | (simp only [i64_w, i32_w]; rw [c42b0]) | skip)
       have H' := aM H
       clear H
       go_wp2
       go_meet
       case rel => exact ⟨_, (0), (t183), (t186), (.slice Ao40 t183.length co40), (.slice Ao41 t186.length co41), H', ⟨by have := HJ7.out; have := HJ21.out; first | omega | exact Nat.le_refl _⟩, ⟨by (with_reducible repeat (first | apply rA | apply rN | apply rD)); exact F3 HO185 BK189 (fun _ hk => hk.1)⟩, ⟨by (with_reducible repeat (first | apply rA | apply rN | apply rD)); exact F3 HO188 BK189 (fun _ hk => hk.1)⟩, ⟨by refine B3 NB178_189 ?_; exact BK178.out⟩, ⟨by refine B3 NB179_189 ?_; exact BK179.out⟩, ⟨by exact P3 BK189⟩, ⟨qB3 HB GE178 GE179 GE189⟩⟩
      rw [if_pos c42] at H
      have c42b0 : decide (1 < a3) = true := decide_eq_true c42
      clear c42
      (first | rw [c42b0] | (simp only [i64_w, i32_w]; rw [c42b0]) | skip)
      have HC43 := aM H
      clear H
      go_upto_region 10 with (fail)
      go_cut [67] (fun v67 wc => ∃ (kq : Nat) (x67_42 : Bool), v67 = .bool x67_42 ∧ Aside0 (view_Slice.j2 kq a1 a2 a3 a4 (rd l0_1 a1) x67_42 a0_0 l0_1 l0_2 t182 t183 t186 = some (r1, r2, r3, r4)) ∧ Aside0 (kq ≤ kj21) ∧ Aside0 (Kd.R (Kd.int .i64) 3 wc w.heap.size (fun k_ => some k_ ≠ ((.slice Ao41 t186.length co41) : Value).ownBlock) (.slice Ao40 t183.length co40) t183) ∧ Aside0 (Kd.R (Kd.int .i64) 3 wc w.heap.size (fun k_ => some k_ ≠ ((.slice Ao40 t183.length co40) : Value).ownBlock) (.slice Ao41 t186.length co41) t186) ∧ Aside0 (wc.heap[gb178]? = some (.cells #[.int .i64 a0_0, (.slice (some ad181) l0_1.length c0_1), (.slice A0_2 l0_2.length c0_2)] 24 (0, 0))) ∧ Aside0 (wc.heap[gb179]? = some (.cells #[.int .i64 0, (.slice none 0 0), (.slice none 0 0)] 24 (0, 0))) ∧ Aside0 (wc.heap[gb189]? = some (.cells #[.int .i64 t182, (.slice Ao40 t183.length co40), (.slice Ao41 t186.length co41)] 24 (0, 0))) ∧ Aside0 (Below w.heap.size w wc))
      case first =>
       have H := HC43.out
       clear HC43
       by_cases c44 : a4 = 0
       ·rw [if_pos c44] at H
        have c44b0 : (a4 == 0) = true := beq_iff_eq.mpr c44
        have c44b1 : (a4 != 0) = false := bne_eq_false_iff_eq.mpr c44
        clear c44
        (first | rw [c44b0] | (simp only [i64_w, i32_w]; rw [c44b0]) | skip)
        have H' := aM H
        clear H
        go_wp2
        go_meet
        case rel => exact ⟨_, (true), (pF), H', ⟨by have := HJ7.out; have := HJ21.out; first | omega | exact Nat.le_refl _⟩, ⟨by (with_reducible repeat (first | apply rA | apply rN | apply rD)); exact F3 HO185 BK189 (fun _ hk => hk.1)⟩, ⟨by (with_reducible repeat (first | apply rA | apply rN | apply rD)); exact F3 HO188 BK189 (fun _ hk => hk.1)⟩, ⟨by refine B3 NB178_189 ?_; exact BK178.out⟩, ⟨by refine B3 NB179_189 ?_; exact BK179.out⟩, ⟨by exact P3 BK189⟩, ⟨qB3 HB GE178 GE179 GE189⟩⟩
       rw [if_neg c44] at H
       have c44b0 : (a4 == 0) = false := beq_eq_false_iff_ne.mpr c44
       have c44b1 : (a4 != 0) = true := bne_iff_ne.mpr c44
       (first | rw [c44b0] | (simp only [i64_w, i32_w]; rw [c44b0]) | skip)
       by_cases c45 : a4 ≥ (rd l0_1 a1)
       ·rw [if_pos c45] at H
        have c45b0 : decide ((rd l0_1 a1) ≤ a4) = true := decide_eq_true c45
        clear c45
        have H' := aM H
        clear H
        go_wp2
        go_meet
        case rel => exact ⟨_, (true), (pF), H', ⟨by have := HJ7.out; have := HJ21.out; first | omega | exact Nat.le_refl _⟩, ⟨by (with_reducible repeat (first | apply rA | apply rN | apply rD)); exact F3 HO185 BK189 (fun _ hk => hk.1)⟩, ⟨by (with_reducible repeat (first | apply rA | apply rN | apply rD)); exact F3 HO188 BK189 (fun _ hk => hk.1)⟩, ⟨by refine B3 NB178_189 ?_; exact BK178.out⟩, ⟨by refine B3 NB179_189 ?_; exact BK179.out⟩, ⟨by exact P3 BK189⟩, ⟨qB3 HB GE178 GE179 GE189⟩⟩
       rw [if_neg c45] at H
       have c45b0 : decide ((rd l0_1 a1) ≤ a4) = false := decide_eq_false c45
       clear c45
       have H' := aM H
       clear H
       go_wp2
       go_meet
       case rel => exact ⟨_, (decide (a4 ≤ (wrap64 (-(rd l0_1 a1))))), (pF), H', ⟨by have := HJ7.out; have := HJ21.out; first | omega | exact Nat.le_refl _⟩, ⟨by (with_reducible repeat (first | apply rA | apply rN | apply rD)); exact F3 HO185 BK189 (fun _ hk => hk.1)⟩, ⟨by (with_reducible repeat (first | apply rA | apply rN | apply rD)); exact F3 HO188 BK189 (fun _ hk => hk.1)⟩, ⟨by refine B3 NB178_189 ?_; exact BK178.out⟩, ⟨by refine B3 NB179_189 ?_; exact BK179.out⟩, ⟨by exact P3 BK189⟩, ⟨qB3 HB GE178 GE179 GE189⟩⟩
      case rest =>
       clear HC43
       try clear c28
       try clear c42b0
       try clear hcz34_0 hcz34_1 hcz34_2 hcz39_0 hcz39_1 hcz39_2 hfz34_0 hfz34_1 hfz34_2 hfz39_0 hfz39_1 hfz39_2
       obtain ⟨kq, x67_42, rfl, HA, HJ42, HO_190001, HO_190002, BK178, BK179, BK189, HB⟩ := hcut
       cases kq with
       | zero => exact absurd HA.out (by simp [view_Slice.j2])
       | succ kj42 =>
        have H := HA.out
        clear HA
        simp only [view_Slice.j2] at H
        by_cases c46 : x67_42 = true
        ·subst c46
         rw [if_pos rfl] at H
         simp only [Option.some.injEq, Prod.mk.injEq] at H
         obtain ⟨rfl, rfl, rfl, rfl⟩ := H
         have hnb47 := NB179_178.out
         have hnc47 := NB178_179.out
         have hnb48 := NB179_189.out
         have hnc48 := NB189_179.out
         obtain ⟨hcz49_0, hcz49_1, hcz49_2, hfz49_0, hfz49_1, hfz49_2⟩ := blk3 BK179.out
         go_wp2
         refine bodyPost_ret (results_ct rfl _ _ gb179 24 #[.int .i64 0, .slice none 0 0, .slice none 0 0] (0, 0) _ rfl (by exact P3 BK179) Try.underlying24 rfl (by kernel_rfl)) rfl ?_
         exact ⟨_, _, pE, pN, pN, qB3 HB GE178 GE179 GE189⟩
        replace c46 := Bool.eq_false_iff.mpr c46
        subst c46
        rw [if_neg (show ¬ (false = true) by decide)] at H
        by_cases c50 : (wrap64 (a2 + (wrap64 ((wrap64 (a3 - 1)) * a4)))) < 0
        ·rw [if_pos c50] at H
         have c50b0 : decide ((wrap64 (a2 + (wrap64 ((wrap64 (a3 - 1)) * a4)))) < 0) = true := decide_eq_true c50
         clear c50
         simp only [Option.some.injEq, Prod.mk.injEq] at H
         obtain ⟨rfl, rfl, rfl, rfl⟩ := H
         have hnb51 := NB179_178.out
         have hnc51 := NB178_179.out
         have hnb52 := NB179_189.out
         have hnc52 := NB189_179.out
         obtain ⟨hcz53_0, hcz53_1, hcz53_2, hfz53_0, hfz53_1, hfz53_2⟩ := blk3 BK179.out
         go_wp2
         refine bodyPost_ret (results_ct rfl _ _ gb179 24 #[.int .i64 0, .slice none 0 0, .slice none 0 0] (0, 0) _ rfl (by exact P3 BK179) Try.underlying24 rfl (by kernel_rfl)) rfl ?_
         exact ⟨_, _, pE, pN, pN, qB3 HB GE178 GE179 GE189⟩
        rw [if_neg c50] at H
        have c50b0 : decide ((wrap64 (a2 + (wrap64 ((wrap64 (a3 - 1)) * a4)))) < 0) = false := decide_eq_false c50
        clear c50
        by_cases c54 : (wrap64 (a2 + (wrap64 ((wrap64 (a3 - 1)) * a4)))) ≥ (rd l0_1 a1)
        ·rw [if_pos c54] at H
         have c54b0 : decide ((rd l0_1 a1) ≤ (wrap64 (a2 + (wrap64 ((wrap64 (a3 - 1)) * a4))))) = true := decide_eq_true c54
         clear c54
         simp only [Option.some.injEq, Prod.mk.injEq] at H
         obtain ⟨rfl, rfl, rfl, rfl⟩ := H
         have hnb55 := NB179_178.out
         have hnc55 := NB178_179.out
         have hnb56 := NB179_189.out
         have hnc56 := NB189_179.out
         obtain ⟨hcz57_0, hcz57_1, hcz57_2, hfz57_0, hfz57_1, hfz57_2⟩ := blk3 BK179.out
         go_wp2
         refine bodyPost_ret (results_ct rfl _ _ gb179 24 #[.int .i64 0, .slice none 0 0, .slice none 0 0] (0, 0) _ rfl (by exact P3 BK179) Try.underlying24 rfl (by kernel_rfl)) rfl ?_
         exact ⟨_, _, pE, pN, pN, qB3 HB GE178 GE179 GE189⟩
        rw [if_neg c54] at H
        have c54b0 : decide ((rd l0_1 a1) ≤ (wrap64 (a2 + (wrap64 ((wrap64 (a3 - 1)) * a4))))) = false := decide_eq_false c54
        clear c54
        by_cases c58 : 0 ≤ a1
        rotate_left
        ·rw [if_neg c58] at H
         exact absurd H (by simp)
        rw [if_pos c58] at H
        have c58b0 : decide (0 ≤ a1) = true := decide_eq_true c58
        clear c58
        by_cases c59 : a1 < (l0_2.length : Int)
        rotate_left
        ·rw [if_neg c59] at H
         exact absurd H (by simp)
        rw [if_pos c59] at H
        have c59b0 : decide (a1 < (l0_2.length : Int)) = true := decide_eq_true c59
        clear c59
        by_cases c60 : a1 < (t186.length : Int)
        rotate_left
        ·rw [if_neg c60] at H
         exact absurd H (by simp)
        rw [if_pos c60] at H
        have c60b0 : decide (a1 < (t186.length : Int)) = true := decide_eq_true c60
        clear c60
        obtain ⟨y191, hy191⟩ : ∃ y_ : List Int, y_ = (t186.set (a1 : Int).toNat (wrap64 ((rd l0_2 a1) * a4))) := ⟨_, rfl⟩
        replace H : (view_Slice.j3 kj42 a1 a2 a3 a0_0 l0_1 l0_2 t182 t183 y191) = some (r1, r2, r3, r4) := pH hy191 H
        have Ny191 := aM hy191
        clear hy191
        have H' := aM H
        clear H
        try go_wp2
        replace HO_190001 := aM (Kd.R_drew HO_190001.out)
        replace HO_190002 := aM (Kd.R_drew HO_190002.out)
        replace BK178 := aM (blk_drew BK178.out)
        replace BK179 := aM (blk_drew BK179.out)
        replace BK189 := aM (blk_drew BK189.out)
        replace HB := aM (below_drew1 HB.out)
        have p190 : 0 ≤ (a1 : Int) := of_decide_eq_true pD
        have q190 : a1 < (l0_2.length : Int) := of_decide_eq_true pD
        obtain ⟨ad190, e190, hx190_0⟩ := Kd.at_int HR0_2.out a1 p190 q190
        have hw190_0 := hx190_0
        cases e190
        replace hx190_0 := (HB.out.cell (World.block_lt_of_cell? w _ hx190_0)).trans hx190_0
        replace p190 := eq_true p190
        replace q190 := eq_true q190
        have p61 : 0 ≤ (a1 : Int) := of_decide_eq_true pD
        have q61 : (a1 : Int) < ((t186.length : Int) : Int) := of_decide_eq_true pD
        obtain ⟨go61, co61, eo61, gb61, gl61, cl61, HG61⟩ := Kd.R_form HO_190002.out (by omega)
        (first | cases eo61 | (injection eo61 with ea_ en_ ec_; (first | subst ea_ | (injection ea_ with ea_; subst ea_)); subst ec_; clear en_))
        have GB61 := aM gb61
        have GG61 := aM HG61
        clear gb61 gl61 HG61
        obtain ⟨hx61_0, hf61_0⟩ := Kd.R_celln 0 HO_190002.out (a1 : Int) p61 q61
        replace p61 := eq_true p61
        replace q61 := eq_true q61
        have HP63 := Kd.R_putn HO_190002.out (a1 : Int) (wrap64 ((rd l0_2 a1) * a4))
        rw [← Ny191.out] at HP63
        have HQ63 := aM HP63
        clear HP63
        refine start_ (n := 12) (S := fun w' => w'.cell? ⟨gb189, 0, none⟩ = some (.int .i64 t182) ∧ w'.cell? ⟨gb189, 1, none⟩ = some (.slice Ao40 t183.length co40) ∧ w'.cell? ⟨gb189, 2, none⟩ = some (.slice (some ⟨go61, 0, none⟩) t186.length co41) ∧ w'.cell? ⟨gb178, 0, none⟩ = some (.int .i64 a0_0) ∧ w'.cell? ⟨gb178, 1, none⟩ = some (.slice (some ad181) l0_1.length c0_1) ∧ w'.cell? ⟨gb178, 2, none⟩ = some (.slice (some ad190) l0_2.length c0_2) ∧ w'.cell? (ad190.add (a1).toNat) = some (.int .i64 (rd l0_2 a1))) (ds := [11]) #[false, false, false, false, false, false, false, false, false, false, false, false] (by kernel_rfl) rfl rfl ⟨(blk_cell BK189.out 0).trans rfl, (blk_cell BK189.out 1).trans rfl, (blk_cell BK189.out 2).trans rfl, (blk_cell BK178.out 0).trans rfl, (blk_cell BK178.out 1).trans rfl, (blk_cell BK178.out 2).trans rfl, ((HB.out.cell (World.block_lt_of_cell? w _ hw190_0)).trans hw190_0)⟩ (fun hHeld => ?_); refine with_tabW view_Slice.tab15 view_Slice.bits15 (fun HT_ HW_ => ?_)
        generalize wc.drew = w62 at HO_190001 HO_190002 BK178 BK179 BK189 HB GG61 HQ63 hf61_0 hx190_0 hx61_0 hHeld ⊢
        refine pP (i := 0) (N := some 83) #[true, false, false, false, false, false, false, false, false, false, false, false] rfl rfl HT_.out ?_
        refine pP (i := 2) (N := some 85) #[true, false, true, false, false, false, false, false, false, false, false, false] rfl rfl HT_.out ?_
        refine pP (i := 3) (N := some 86) #[true, false, true, true, false, false, false, false, false, false, false, false] rfl rfl HT_.out ?_
        refine pP (i := 5) (N := some 88) #[true, false, true, true, false, true, false, false, false, false, false, false] rfl rfl HT_.out ?_
        refine pP (i := 8) (N := some 91) #[true, false, true, true, false, true, false, false, true, false, false, false] rfl rfl HT_.out ?_
        refine pT (i := 1) (N := some 84) #[true, true, true, true, false, true, false, false, true, false, false, false] rfl rfl HT_.out HW_.out hHeld (by rintro w' ⟨s0, s1, s2, s3, s4, s5, s6⟩; go_simp; with_reducible rfl) ?_
        refine pT (i := 4) (N := some 87) #[true, true, true, true, true, true, false, false, true, false, false, false] rfl rfl HT_.out HW_.out hHeld (by rintro w' ⟨s0, s1, s2, s3, s4, s5, s6⟩; go_simp; with_reducible rfl) ?_
        refine pP (i := 6) (N := some 89) #[true, true, true, true, true, true, true, false, true, false, false, false] rfl rfl HT_.out ?_
        refine pT (i := 7) (N := some 90) #[true, true, true, true, true, true, true, true, true, false, false, false] rfl rfl HT_.out HW_.out hHeld (by rintro w' ⟨s0, s1, s2, s3, s4, s5, s6⟩; go_simp; with_reducible rfl) ?_
        refine pP (i := 9) (N := some 92) #[true, true, true, true, true, true, true, true, true, true, false, false] rfl rfl HT_.out ?_
        refine pP (i := 10) (N := some 93) #[true, true, true, true, true, true, true, true, true, true, true, false] rfl rfl HT_.out ?_
        refine last_ (i := 11) (N := none) #[true, true, true, true, true, true, true, true, true, true, true, true] rfl rfl (one_of HT_.out (by kernel_rfl)) (by decide) (fun K hK => ?_)
        refine skip_ (w1 := ?_) (by rfl) rfl ?_ ?_
        rotate_left
        ·go_simp
         rfl
        refine hK.out _ _ ?_
        clear hK K
        refine done_ (done_of HT_.out (by kernel_rfl)) ?_
        try go_wp2
        go_meet
        case rel => exact ⟨_, (0), (t183), (y191), (.slice Ao40 t183.length co40), (.slice (some ⟨go61, 0, none⟩) t186.length co41), H', ⟨by have := HJ7.out; have := HJ21.out; have := HJ42.out; first | omega | exact Nat.le_refl _⟩, ⟨by (with_reducible repeat (first | apply rA | apply rN | apply rD)); exact Kd.R_mono (Kd.R_far (p := ⟨go61, (a1 : Int).toNat, none⟩) (Kd.R_mono HO_190001.out (fun k_ hk => (⟨hk, fun e_ => hk (by rw [e_]; rfl)⟩ : _ ∧ k_ ≠ go61))) (fun _ hk => hk.2) (.int .i64 (wrap64 ((rd l0_2 a1) * a4)))) (fun _ hk => hk.1)⟩, ⟨pR HQ63.out⟩, ⟨by (with_reducible repeat (first | apply bN | apply bD | apply bA)); refine blk_far ?_ (by have h_ := Kd.R_ne HO_190002.out BK178.out (by decide); intro e_; exact h_ (by rw [e_]; rfl)) _; (with_reducible repeat (first | apply bN | apply bD | apply bA)); exact BK178.out⟩, ⟨by (with_reducible repeat (first | apply bN | apply bD | apply bA)); refine blk_far ?_ (by have h_ := Kd.R_ne HO_190002.out BK179.out (by decide); intro e_; exact h_ (by rw [e_]; rfl)) _; (with_reducible repeat (first | apply bN | apply bD | apply bA)); exact BK179.out⟩, ⟨by (with_reducible repeat (first | apply bN | apply bD | apply bA)); refine blk_far ?_ (by have h_ := Kd.R_ne HO_190002.out BK189.out (by decide); intro e_; exact h_ (by rw [e_]; rfl)) _; (with_reducible repeat (first | apply bN | apply bD | apply bA)); exact BK189.out⟩, ⟨qB4 HB GB61 GE178 GE179 GE189⟩⟩
     case rest =>
      clear HC32
      obtain ⟨kq, x180000_31, x190001_31, x190002_31, u190001, u190002, HA, HJ31, HO_190001, HO_190002, BK178, BK179, BK189, HB⟩ := hcut
      cases kq with
      | zero => exact absurd HA.out (by simp [view_Slice.j3])
      | succ kj31 =>
       have H := HA.out
       clear HA
       simp only [view_Slice.j3] at H
       by_cases c64 : a2 > 0
       rotate_left
       ·rw [if_neg c64] at H
        have c64b0 : decide (0 < a2) = false := decide_eq_false c64
        clear c64
        by_cases c98 : 0 ≤ a1
        rotate_left
        ·rw [if_neg c98] at H
         exact absurd H (by simp)
        rw [if_pos c98] at H
        have c98b0 : decide (0 ≤ a1) = true := decide_eq_true c98
        clear c98
        by_cases c99 : a1 < (x190001_31.length : Int)
        rotate_left
        ·rw [if_neg c99] at H
         exact absurd H (by simp)
        rw [if_pos c99] at H
        have c99b0 : decide (a1 < (x190001_31.length : Int)) = true := decide_eq_true c99
        clear c99
        obtain ⟨y195, hy195⟩ : ∃ y_ : List Int, y_ = (x190001_31.set (a1 : Int).toNat a3) := ⟨_, rfl⟩
        replace H : (if a3 = 1 then (if a1 < (x190002_31.length : Int) then (some (t182, y195, (x190002_31.set (a1 : Int).toNat 0), 0)) else (none)) else (some (t182, y195, x190002_31, 0))) = some (r1, r2, r3, r4) := pH hy195 H
        have Ny195 := aM hy195
        clear hy195
        by_cases c101 : a3 = 1
        rotate_left
        ·rw [if_neg c101] at H
         have c101b0 : (a3 == 1) = false := beq_eq_false_iff_ne.mpr c101
         have c101b1 : (a3 != 1) = true := bne_iff_ne.mpr c101
         simp only [Option.some.injEq, Prod.mk.injEq] at H
         obtain ⟨rfl, rfl, rfl, rfl⟩ := H
         have hnb115 := NB189_178.out
         have hnc115 := NB178_189.out
         have hnb116 := NB189_179.out
         have hnc116 := NB179_189.out
         obtain ⟨hcz117_0, hcz117_1, hcz117_2, hfz117_0, hfz117_1, hfz117_2⟩ := blk3 BK189.out
         have p100 : 0 ≤ (a1 : Int) := of_decide_eq_true pD
         have q100 : (a1 : Int) < ((x190001_31.length : Int) : Int) := of_decide_eq_true pD
         obtain ⟨go100, co100, eo100, gb100, gl100, cl100, HG100⟩ := Kd.R_form HO_190001.out (by omega)
         (first | cases eo100 | (injection eo100 with ea_ en_ ec_; (first | subst ea_ | (injection ea_ with ea_; subst ea_)); subst ec_; clear en_))
         have GB100 := aM gb100
         have GG100 := aM HG100
         clear gb100 gl100 HG100
         obtain ⟨hx100_0, hf100_0⟩ := Kd.R_celln 0 HO_190001.out (a1 : Int) p100 q100
         replace p100 := eq_true p100
         replace q100 := eq_true q100
         have HP118 := Kd.R_putg HO_190001.out (a1 : Int) a3
         go_wp2_with (first | ((with_reducible refine gate_store (t := 3) (p := 111) rfl ?_); refine store_event (t := 3) (p := 111) (v := ?vo_w119) (w1 := (wc.setCell ⟨go100, (a1 : Int).toNat, none⟩ (.int .i64 a3))) ?hg ?ho ?hn ?hr ?_; (case ho => rfl); (case hg => rfl); (case hn => rfl); (case hr => first | (go_simp; done) | (go_simp; rfl)); intro w119 hw; have hg : wc.grownBy w119 (some go100) := (by rw [hw]; exact HP118.2); have hp_ : Kd.R (Kd.int .i64) 3 w119 w.heap.size (fun k_ => some k_ ≠ (u190002 : Value).ownBlock) (.slice (some ⟨go100, 0, none⟩) x190001_31.length co100) y195 := (by rw [hw, Ny195.out]; exact HP118.1); clear HP118; replace HO_190002 := aM (Kd.R_after (v := (.slice (some ⟨go100, 0, none⟩) x190001_31.length co100)) (v1 := (.slice (some ⟨go100, 0, none⟩) x190001_31.length co100)) (ok := (fun _ => True)) (by (with_reducible repeat (first | apply rA | apply rN | apply rD)); exact Kd.R_mono HO_190002.out (fun _ hk => ⟨trivial, hk⟩)) hg (.inl rfl)); replace BK178 := aM (blk_grown (g := gb178) (pK BK178.out) hg (Kd.R_ne HO_190001.out BK178.out (by decide))); replace BK179 := aM (blk_grown (g := gb179) (pK BK179.out) hg (Kd.R_ne HO_190001.out BK179.out (by decide))); replace BK189 := aM (blk_grown (g := gb189) (pK BK189.out) hg (Kd.R_ne HO_190001.out BK189.out (by decide))); replace HO_190001 := aM (hp_); replace HB := aM ((by rw [hw]; exact below_set (HB.out) GB100.out : Below w.heap.size w w119)); clear hg hw hp_; obtain ⟨hcz120_0, hcz120_1, hcz120_2, hfz120_0, hfz120_1, hfz120_2⟩ := blk3 BK189.out; have hnb121 := NB179_178.out; have hnc121 := NB178_179.out; obtain ⟨hcz122_0, hcz122_1, hcz122_2, hfz122_0, hfz122_1, hfz122_2⟩ := blk3 BK179.out; obtain ⟨Ao123, co123, eo123⟩ := Kd.R_slice HO_190002.out; subst eo123))
         refine bodyPost_ret (results_ct rfl _ _ gb179 24 #[.int .i64 t182, .slice (some ⟨go100, 0, none⟩) x190001_31.length co100, .slice Ao123 x190002_31.length co123] (0, 0) _ rfl (by exact P3 BK179) Try.underlying24 rfl (by kernel_rfl)) rfl ?_
         exact ⟨_, _, pE, by (with_reducible repeat (first | apply rA | apply rN | apply rD)); exact F3 HO_190001 BK179 (fun _ hk => hk.1), by (with_reducible repeat (first | apply rA | apply rN | apply rD)); exact F3 HO_190002 BK179 (fun _ hk => hk.1.2), qB3 HB GE178 GE179 GE189⟩
        rw [if_pos c101] at H
        have c101b0 : (a3 == 1) = true := beq_iff_eq.mpr c101
        have c101b1 : (a3 != 1) = false := bne_eq_false_iff_eq.mpr c101
        clear c101
        by_cases c102 : a1 < (x190002_31.length : Int)
        rotate_left
        ·rw [if_neg c102] at H
         exact absurd H (by simp)
        rw [if_pos c102] at H
        have c102b0 : decide (a1 < (x190002_31.length : Int)) = true := decide_eq_true c102
        clear c102
        obtain ⟨y196, hy196⟩ : ∃ y_ : List Int, y_ = (x190002_31.set (a1 : Int).toNat 0) := ⟨_, rfl⟩
        replace H : (some (t182, y195, y196, 0)) = some (r1, r2, r3, r4) := pH hy196 H
        have Ny196 := aM hy196
        clear hy196
        simp only [Option.some.injEq, Prod.mk.injEq] at H
        obtain ⟨rfl, rfl, rfl, rfl⟩ := H
        have hnb104 := NB189_178.out
        have hnc104 := NB178_189.out
        have hnb105 := NB189_179.out
        have hnc105 := NB179_189.out
        obtain ⟨hcz106_0, hcz106_1, hcz106_2, hfz106_0, hfz106_1, hfz106_2⟩ := blk3 BK189.out
        have p100 : 0 ≤ (a1 : Int) := of_decide_eq_true pD
        have q100 : (a1 : Int) < ((x190001_31.length : Int) : Int) := of_decide_eq_true pD
        obtain ⟨go100, co100, eo100, gb100, gl100, cl100, HG100⟩ := Kd.R_form HO_190001.out (by omega)
        (first | cases eo100 | (injection eo100 with ea_ en_ ec_; (first | subst ea_ | (injection ea_ with ea_; subst ea_)); subst ec_; clear en_))
        have GB100 := aM gb100
        have GG100 := aM HG100
        clear gb100 gl100 HG100
        obtain ⟨hx100_0, hf100_0⟩ := Kd.R_celln 0 HO_190001.out (a1 : Int) p100 q100
        replace p100 := eq_true p100
        replace q100 := eq_true q100
        have HP107 := Kd.R_putg HO_190001.out (a1 : Int) a3
        go_wp2_with (first | ((with_reducible refine gate_store (t := 3) (p := 111) rfl ?_); refine store_event (t := 3) (p := 111) (v := ?vo_w108) (w1 := (wc.setCell ⟨go100, (a1 : Int).toNat, none⟩ (.int .i64 a3))) ?hg ?ho ?hn ?hr ?_; (case ho => rfl); (case hg => rfl); (case hn => rfl); (case hr => first | (go_simp; done) | (go_simp; rfl)); intro w108 hw; have hg : wc.grownBy w108 (some go100) := (by rw [hw]; exact HP107.2); have hp_ : Kd.R (Kd.int .i64) 3 w108 w.heap.size (fun k_ => some k_ ≠ (u190002 : Value).ownBlock) (.slice (some ⟨go100, 0, none⟩) x190001_31.length co100) y195 := (by rw [hw, Ny195.out]; exact HP107.1); clear HP107; replace HO_190002 := aM (Kd.R_after (v := (.slice (some ⟨go100, 0, none⟩) x190001_31.length co100)) (v1 := (.slice (some ⟨go100, 0, none⟩) x190001_31.length co100)) (ok := (fun _ => True)) (by (with_reducible repeat (first | apply rA | apply rN | apply rD)); exact Kd.R_mono HO_190002.out (fun _ hk => ⟨trivial, hk⟩)) hg (.inl rfl)); replace BK178 := aM (blk_grown (g := gb178) (pK BK178.out) hg (Kd.R_ne HO_190001.out BK178.out (by decide))); replace BK179 := aM (blk_grown (g := gb179) (pK BK179.out) hg (Kd.R_ne HO_190001.out BK179.out (by decide))); replace BK189 := aM (blk_grown (g := gb189) (pK BK189.out) hg (Kd.R_ne HO_190001.out BK189.out (by decide))); replace HO_190001 := aM (hp_); replace HB := aM ((by rw [hw]; exact below_set (HB.out) GB100.out : Below w.heap.size w w108)); clear hg hw hp_; obtain ⟨hcz109_0, hcz109_1, hcz109_2, hfz109_0, hfz109_1, hfz109_2⟩ := blk3 BK189.out; have p103 : 0 ≤ (a1 : Int) := of_decide_eq_true pD; have q103 : (a1 : Int) < ((x190002_31.length : Int) : Int) := of_decide_eq_true pD; obtain ⟨go103, co103, eo103, gb103, gl103, cl103, HG103⟩ := Kd.R_form HO_190002.out (by omega); (first | cases eo103 | (injection eo103 with ea_ en_ ec_; (first | subst ea_ | (injection ea_ with ea_; subst ea_)); subst ec_; clear en_)); have GB103 := aM gb103; have GG103 := aM HG103; clear gb103 gl103 HG103; obtain ⟨hx103_0, hf103_0⟩ := Kd.R_celln 0 HO_190002.out (a1 : Int) p103 q103; replace p103 := eq_true p103; replace q103 := eq_true q103; have n_ := aM (Kd.R_mono (ok' := (fun k_ => some k_ ≠ (.slice (some ⟨go100, 0, none⟩) x190001_31.length co100 : Value).ownBlock)) HO_190002.out (fun k_ hk => hk.2)); clear HO_190002; have HO_190002 := n_; clear n_; obtain ⟨hy110_, hz110_⟩ := Kd.R_celln 0 HO_190002.out (a1 : Int) (of_decide_eq_true pD) (of_decide_eq_true pD); have HP110 := Kd.R_putg HO_190002.out (a1 : Int) 0) | ((with_reducible refine gate_store (t := 3) (p := 117) rfl ?_); refine store_event (t := 3) (p := 117) (v := ?vo_w111) (w1 := (w108.setCell ⟨go103, (a1 : Int).toNat, none⟩ (.int .i64 0))) ?hg ?ho ?hn ?hr ?_; (case ho => rfl); (case hg => rfl); (case hn => rfl); (case hr => first | (go_simp; done) | (go_simp; rfl)); intro w111 hw; have hg : w108.grownBy w111 (some go103) := (by rw [hw]; exact HP110.2); have hp_ : Kd.R (Kd.int .i64) 3 w111 w.heap.size (fun k_ => some k_ ≠ (.slice (some ⟨go100, 0, none⟩) x190001_31.length co100 : Value).ownBlock) (.slice (some ⟨go103, 0, none⟩) x190002_31.length co103) y196 := (by rw [hw, Ny196.out]; exact HP110.1); clear HP110; replace HO_190001 := aM (Kd.R_after (v := (.slice (some ⟨go103, 0, none⟩) x190002_31.length co103)) (v1 := (.slice (some ⟨go103, 0, none⟩) x190002_31.length co103)) (ok := (fun _ => True)) (by (with_reducible repeat (first | apply rA | apply rN | apply rD)); exact Kd.R_mono HO_190001.out (fun _ hk => ⟨trivial, hk⟩)) hg (.inl rfl)); replace BK178 := aM (blk_grown (g := gb178) (pK BK178.out) hg (Kd.R_ne HO_190002.out BK178.out (by decide))); replace BK179 := aM (blk_grown (g := gb179) (pK BK179.out) hg (Kd.R_ne HO_190002.out BK179.out (by decide))); replace BK189 := aM (blk_grown (g := gb189) (pK BK189.out) hg (Kd.R_ne HO_190002.out BK189.out (by decide))); replace HO_190002 := aM (hp_); replace HB := aM ((by rw [hw]; exact below_set (HB.out) GB103.out : Below w.heap.size w w111)); clear hg hw hp_; obtain ⟨hcz112_0, hcz112_1, hcz112_2, hfz112_0, hfz112_1, hfz112_2⟩ := blk3 BK189.out; have hnb113 := NB179_178.out; have hnc113 := NB178_179.out; obtain ⟨hcz114_0, hcz114_1, hcz114_2, hfz114_0, hfz114_1, hfz114_2⟩ := blk3 BK179.out))
        refine bodyPost_ret (results_ct rfl _ _ gb179 24 #[.int .i64 t182, .slice (some ⟨go100, 0, none⟩) x190001_31.length co100, .slice (some ⟨go103, 0, none⟩) x190002_31.length co103] (0, 0) _ rfl (by exact P3 BK179) Try.underlying24 rfl (by kernel_rfl)) rfl ?_
        exact ⟨_, _, pE, by (with_reducible repeat (first | apply rA | apply rN | apply rD)); exact F3 HO_190001 BK179 (fun _ hk => hk.1.2), by (with_reducible repeat (first | apply rA | apply rN | apply rD)); exact F3 HO_190002 BK179 (fun _ hk => hk.1), qB3 HB GE178 GE179 GE189⟩
       rw [if_pos c64] at H
       have c64b0 : decide (0 < a2) = true := decide_eq_true c64
       clear c64
       by_cases c65 : 0 ≤ a1
       rotate_left
       ·rw [if_neg c65] at H
        exact absurd H (by simp)
       rw [if_pos c65] at H
       have c65b0 : decide (0 ≤ a1) = true := decide_eq_true c65
       clear c65
       by_cases c66 : a1 < (l0_2.length : Int)
       rotate_left
       ·rw [if_neg c66] at H
        exact absurd H (by simp)
       rw [if_pos c66] at H
       have c66b0 : decide (a1 < (l0_2.length : Int)) = true := decide_eq_true c66
       clear c66
       by_cases c67 : a1 < (x190001_31.length : Int)
       rotate_left
       ·rw [if_neg c67] at H
        exact absurd H (by simp)
       rw [if_pos c67] at H
       have c67b0 : decide (a1 < (x190001_31.length : Int)) = true := decide_eq_true c67
       clear c67
       obtain ⟨y193, hy193⟩ : ∃ y_ : List Int, y_ = (x190001_31.set (a1 : Int).toNat a3) := ⟨_, rfl⟩
       replace H : (if a3 = 1 then (if a1 < (x190002_31.length : Int) then (some (wrap64 (t182 + (wrap64 (a2 * (rd l0_2 a1)))), y193, (x190002_31.set (a1 : Int).toNat 0), 0)) else (none)) else (some (wrap64 (t182 + (wrap64 (a2 * (rd l0_2 a1)))), y193, x190002_31, 0))) = some (r1, r2, r3, r4) := pH hy193 H
       have Ny193 := aM hy193
       clear hy193
       by_cases c69 : a3 = 1
       rotate_left
       ·rw [if_neg c69] at H
        have c69b0 : (a3 == 1) = false := beq_eq_false_iff_ne.mpr c69
        have c69b1 : (a3 != 1) = true := bne_iff_ne.mpr c69
        simp only [Option.some.injEq, Prod.mk.injEq] at H
        obtain ⟨rfl, rfl, rfl, rfl⟩ := H
        try go_wp2
        replace HO_190001 := aM (Kd.R_drew HO_190001.out)
        replace HO_190002 := aM (Kd.R_drew HO_190002.out)
        replace BK178 := aM (blk_drew BK178.out)
        replace BK179 := aM (blk_drew BK179.out)
        replace BK189 := aM (blk_drew BK189.out)
        replace HB := aM (below_drew1 HB.out)
        have p192 : 0 ≤ (a1 : Int) := of_decide_eq_true pD
        have q192 : a1 < (l0_2.length : Int) := of_decide_eq_true pD
        obtain ⟨ad192, e192, hx192_0⟩ := Kd.at_int HR0_2.out a1 p192 q192
        have hw192_0 := hx192_0
        cases e192
        replace hx192_0 := (HB.out.cell (World.block_lt_of_cell? w _ hx192_0)).trans hx192_0
        replace p192 := eq_true p192
        replace q192 := eq_true q192
        refine start_ (n := 12) (S := fun w' => w'.cell? ⟨gb189, 0, none⟩ = some (.int .i64 t182) ∧ w'.cell? ⟨gb189, 1, none⟩ = some (u190001) ∧ w'.cell? ⟨gb189, 2, none⟩ = some (u190002) ∧ w'.cell? ⟨gb178, 0, none⟩ = some (.int .i64 a0_0) ∧ w'.cell? ⟨gb178, 1, none⟩ = some (.slice (some ad181) l0_1.length c0_1) ∧ w'.cell? ⟨gb178, 2, none⟩ = some (.slice (some ad192) l0_2.length c0_2) ∧ w'.cell? (ad192.add (a1).toNat) = some (.int .i64 (rd l0_2 a1))) (ds := [11]) #[false, false, false, false, false, false, false, false, false, false, false, false] (by kernel_rfl) rfl rfl ⟨(blk_cell BK189.out 0).trans rfl, (blk_cell BK189.out 1).trans rfl, (blk_cell BK189.out 2).trans rfl, (blk_cell BK178.out 0).trans rfl, (blk_cell BK178.out 1).trans rfl, (blk_cell BK178.out 2).trans rfl, ((HB.out.cell (World.block_lt_of_cell? w _ hw192_0)).trans hw192_0)⟩ (fun hHeld => ?_); refine with_tabW view_Slice.tab17 view_Slice.bits17 (fun HT_ HW_ => ?_)
        generalize wc.drew = w86 at HO_190001 HO_190002 BK178 BK179 BK189 HB hx192_0 hHeld ⊢
        refine pP (i := 0) (N := some 96) #[true, false, false, false, false, false, false, false, false, false, false, false] rfl rfl HT_.out ?_
        refine pP (i := 2) (N := some 98) #[true, false, true, false, false, false, false, false, false, false, false, false] rfl rfl HT_.out ?_
        refine pP (i := 3) (N := some 99) #[true, false, true, true, false, false, false, false, false, false, false, false] rfl rfl HT_.out ?_
        refine pP (i := 5) (N := some 101) #[true, false, true, true, false, true, false, false, false, false, false, false] rfl rfl HT_.out ?_
        refine pT (i := 1) (N := some 97) #[true, true, true, true, false, true, false, false, false, false, false, false] rfl rfl HT_.out HW_.out hHeld (by rintro w' ⟨s0, s1, s2, s3, s4, s5, s6⟩; go_simp; with_reducible rfl) ?_
        refine pT (i := 4) (N := some 100) #[true, true, true, true, true, true, false, false, false, false, false, false] rfl rfl HT_.out HW_.out hHeld (by rintro w' ⟨s0, s1, s2, s3, s4, s5, s6⟩; go_simp; with_reducible rfl) ?_
        refine pP (i := 6) (N := some 102) #[true, true, true, true, true, true, true, false, false, false, false, false] rfl rfl HT_.out ?_
        refine pT (i := 7) (N := some 103) #[true, true, true, true, true, true, true, true, false, false, false, false] rfl rfl HT_.out HW_.out hHeld (by rintro w' ⟨s0, s1, s2, s3, s4, s5, s6⟩; go_simp; with_reducible rfl) ?_
        refine pP (i := 8) (N := some 104) #[true, true, true, true, true, true, true, true, true, false, false, false] rfl rfl HT_.out ?_
        refine pP (i := 9) (N := some 105) #[true, true, true, true, true, true, true, true, true, true, false, false] rfl rfl HT_.out ?_
        refine pP (i := 10) (N := some 106) #[true, true, true, true, true, true, true, true, true, true, true, false] rfl rfl HT_.out ?_
        refine last_ (i := 11) (N := none) #[true, true, true, true, true, true, true, true, true, true, true, true] rfl rfl (one_of HT_.out (by kernel_rfl)) (by decide) (fun K hK => ?_)
        have hs87 : w86.cell? ⟨gb189, 0, none⟩ = some (.int .i64 t182) := (blk_cell BK189.out 0).trans rfl
        have hfs87 := blk_frozen BK189.out 0
        have hns87_0 := NB178_189.out
        have hns87_1 := NB179_189.out
        have hms87_0 := NB189_178.out
        have hms87_1 := NB189_179.out
        refine skip_ (w1 := ?_) (by rfl) rfl ?_ ?_
        rotate_left
        ·go_simp
         rfl
        refine hK.out _ _ ?_
        clear hK K
        refine done_ (done_of HT_.out (by kernel_rfl)) ?_
        have n0_ : Aside0 (Kd.R (Kd.int .i64) 3 (w86.setCell ⟨gb189, 0, none⟩ (.int .i64 (wrap64 (t182 + (wrap64 (a2 * (rd l0_2 a1))))))) w.heap.size (fun k_ => some k_ ≠ (u190002 : Value).ownBlock) u190001 x190001_31) := ⟨by (with_reducible repeat (first | apply rA | apply rN | apply rD)); exact Kd.R_mono (Kd.R_far (p := ⟨gb189, 0, none⟩) (Kd.R_types HO_190001.out BK189.out (by decide)) (fun _ hk => hk.2) (.int .i64 (wrap64 (t182 + (wrap64 (a2 * (rd l0_2 a1))))))) (fun _ hk => hk.1)⟩
        have n1_ : Aside0 (Kd.R (Kd.int .i64) 3 (w86.setCell ⟨gb189, 0, none⟩ (.int .i64 (wrap64 (t182 + (wrap64 (a2 * (rd l0_2 a1))))))) w.heap.size (fun k_ => some k_ ≠ (u190001 : Value).ownBlock) u190002 x190002_31) := ⟨by (with_reducible repeat (first | apply rA | apply rN | apply rD)); exact Kd.R_mono (Kd.R_far (p := ⟨gb189, 0, none⟩) (Kd.R_types HO_190002.out BK189.out (by decide)) (fun _ hk => hk.2) (.int .i64 (wrap64 (t182 + (wrap64 (a2 * (rd l0_2 a1))))))) (fun _ hk => hk.1)⟩
        have n2_ : Aside0 ((w86.setCell ⟨gb189, 0, none⟩ (.int .i64 (wrap64 (t182 + (wrap64 (a2 * (rd l0_2 a1))))))).heap[gb178]? = some (.cells #[.int .i64 a0_0, .slice (some ad181) l0_1.length c0_1, .slice (some ad192) l0_2.length c0_2] 24 (0, 0))) := ⟨by (with_reducible repeat (first | apply bN | apply bD | apply bA)); refine blk_far ?_ NB178_189.out _; (with_reducible repeat (first | apply bN | apply bD | apply bA)); exact BK178.out⟩
        have n3_ : Aside0 ((w86.setCell ⟨gb189, 0, none⟩ (.int .i64 (wrap64 (t182 + (wrap64 (a2 * (rd l0_2 a1))))))).heap[gb179]? = some (.cells #[.int .i64 x180000_31, .slice none 0 0, .slice none 0 0] 24 (0, 0))) := ⟨by (with_reducible repeat (first | apply bN | apply bD | apply bA)); refine blk_far ?_ NB179_189.out _; (with_reducible repeat (first | apply bN | apply bD | apply bA)); exact BK179.out⟩
        have n4_ : Aside0 ((w86.setCell ⟨gb189, 0, none⟩ (.int .i64 (wrap64 (t182 + (wrap64 (a2 * (rd l0_2 a1))))))).heap[gb189]? = some (.cells #[.int .i64 (wrap64 (t182 + (wrap64 (a2 * (rd l0_2 a1))))), u190001, u190002] 24 (0, 0))) := ⟨by (with_reducible repeat (first | apply bN | apply bD | apply bA)); refine blk_put (cs := #[.int .i64 t182, u190001, u190002]) ?_ 0 _ rfl; (with_reducible repeat (first | apply bN | apply bD | apply bA)); exact BK189.out⟩
        have n5_ : Aside0 (Below w.heap.size w (w86.setCell ⟨gb189, 0, none⟩ (.int .i64 (wrap64 (t182 + (wrap64 (a2 * (rd l0_2 a1)))))))) := ⟨qB3 HB GE178 GE179 GE189⟩
        (try clear HO_190001)
        (try clear HO_190002)
        (try clear BK178)
        (try clear BK179)
        (try clear BK189)
        (try clear HB)
        generalize (w86.setCell ⟨gb189, 0, none⟩ (.int .i64 (wrap64 (t182 + (wrap64 (a2 * (rd l0_2 a1))))))) = w88 at n0_ n1_ n2_ n3_ n4_ n5_ ⊢
        have HO_190001 := n0_
        have HO_190002 := n1_
        have BK178 := n2_
        have BK179 := n3_
        have BK189 := n4_
        have HB := n5_
        clear n0_ n1_ n2_ n3_ n4_ n5_
        have hnb89 := NB189_178.out
        have hnc89 := NB178_189.out
        have hnb90 := NB189_179.out
        have hnc90 := NB179_189.out
        obtain ⟨hcz91_0, hcz91_1, hcz91_2, hfz91_0, hfz91_1, hfz91_2⟩ := blk3 BK189.out
        have p68 : 0 ≤ (a1 : Int) := of_decide_eq_true pD
        have q68 : (a1 : Int) < ((x190001_31.length : Int) : Int) := of_decide_eq_true pD
        obtain ⟨go68, co68, eo68, gb68, gl68, cl68, HG68⟩ := Kd.R_form HO_190001.out (by omega)
        (first | cases eo68 | (injection eo68 with ea_ en_ ec_; (first | subst ea_ | (injection ea_ with ea_; subst ea_)); subst ec_; clear en_))
        have GB68 := aM gb68
        have GG68 := aM HG68
        clear gb68 gl68 HG68
        obtain ⟨hx68_0, hf68_0⟩ := Kd.R_celln 0 HO_190001.out (a1 : Int) p68 q68
        replace p68 := eq_true p68
        replace q68 := eq_true q68
        obtain ⟨hy92_, hz92_⟩ := Kd.R_celln 0 HO_190001.out (a1 : Int) (of_decide_eq_true pD) (of_decide_eq_true pD)
        have HP92 := Kd.R_putg HO_190001.out (a1 : Int) a3
        try go_wp2_with (first | ((with_reducible refine gate_store (t := 3) (p := 111) rfl ?_); refine store_event (t := 3) (p := 111) (v := ?vo_w93) (w1 := (w88.setCell ⟨go68, (a1 : Int).toNat, none⟩ (.int .i64 a3))) ?hg ?ho ?hn ?hr ?_; (case ho => rfl); (case hg => rfl); (case hn => rfl); (case hr => first | (go_simp; done) | (go_simp; rfl)); intro w93 hw; have hg : w88.grownBy w93 (some go68) := (by rw [hw]; exact HP92.2); have hp_ : Kd.R (Kd.int .i64) 3 w93 w.heap.size (fun k_ => some k_ ≠ (u190002 : Value).ownBlock) (.slice (some ⟨go68, 0, none⟩) x190001_31.length co68) y193 := (by rw [hw, Ny193.out]; exact HP92.1); clear HP92; replace HO_190002 := aM (Kd.R_after (v := (.slice (some ⟨go68, 0, none⟩) x190001_31.length co68)) (v1 := (.slice (some ⟨go68, 0, none⟩) x190001_31.length co68)) (ok := (fun _ => True)) (by (with_reducible repeat (first | apply rA | apply rN | apply rD)); exact Kd.R_mono HO_190002.out (fun _ hk => ⟨trivial, hk⟩)) hg (.inl rfl)); replace BK178 := aM (blk_grown (g := gb178) (pK BK178.out) hg (Kd.R_ne HO_190001.out BK178.out (by decide))); replace BK179 := aM (blk_grown (g := gb179) (pK BK179.out) hg (Kd.R_ne HO_190001.out BK179.out (by decide))); replace BK189 := aM (blk_grown (g := gb189) (pK BK189.out) hg (Kd.R_ne HO_190001.out BK189.out (by decide))); replace HO_190001 := aM (hp_); replace HB := aM ((by rw [hw]; exact below_set (HB.out) GB68.out : Below w.heap.size w w93)); clear hg hw hp_; obtain ⟨hcz94_0, hcz94_1, hcz94_2, hfz94_0, hfz94_1, hfz94_2⟩ := blk3 BK189.out; have hnb95 := NB179_178.out; have hnc95 := NB178_179.out; obtain ⟨hcz96_0, hcz96_1, hcz96_2, hfz96_0, hfz96_1, hfz96_2⟩ := blk3 BK179.out; obtain ⟨Ao97, co97, eo97⟩ := Kd.R_slice HO_190002.out; subst eo97))
        refine bodyPost_ret (results_ct rfl _ _ gb179 24 #[.int .i64 (wrap64 (t182 + (wrap64 (a2 * (rd l0_2 a1))))), .slice (some ⟨go68, 0, none⟩) x190001_31.length co68, .slice Ao97 x190002_31.length co97] (0, 0) _ rfl (by exact P3 BK179) Try.underlying24 rfl (by kernel_rfl)) rfl ?_
        exact ⟨_, _, pE, by (with_reducible repeat (first | apply rA | apply rN | apply rD)); exact Kd.R_mono (Kd.R_far (p := ⟨gb179, 2, none⟩) (Kd.R_far (p := ⟨gb179, 1, none⟩) (Kd.R_far (p := ⟨gb179, 0, none⟩) (Kd.R_types HO_190001.out BK179.out (by decide)) (fun _ hk => hk.2) (.int .i64 (wrap64 (t182 + (wrap64 (a2 * (rd l0_2 a1))))))) (fun _ hk => hk.2) (.slice (some ⟨go68, 0, none⟩) x190001_31.length co68)) (fun _ hk => hk.2) (.slice Ao97 x190002_31.length co97)) (fun _ hk => hk.1), by (with_reducible repeat (first | apply rA | apply rN | apply rD)); exact Kd.R_mono (Kd.R_far (p := ⟨gb179, 2, none⟩) (Kd.R_far (p := ⟨gb179, 1, none⟩) (Kd.R_far (p := ⟨gb179, 0, none⟩) (Kd.R_types HO_190002.out BK179.out (by decide)) (fun _ hk => hk.2) (.int .i64 (wrap64 (t182 + (wrap64 (a2 * (rd l0_2 a1))))))) (fun _ hk => hk.2) (.slice (some ⟨go68, 0, none⟩) x190001_31.length co68)) (fun _ hk => hk.2) (.slice Ao97 x190002_31.length co97)) (fun _ hk => hk.1.2), qB3 HB GE178 GE179 GE189⟩
       rw [if_pos c69] at H
       have c69b0 : (a3 == 1) = true := beq_iff_eq.mpr c69
       have c69b1 : (a3 != 1) = false := bne_eq_false_iff_eq.mpr c69
       clear c69
       by_cases c70 : a1 < (x190002_31.length : Int)
       rotate_left
       ·rw [if_neg c70] at H
        exact absurd H (by simp)
       rw [if_pos c70] at H
       have c70b0 : decide (a1 < (x190002_31.length : Int)) = true := decide_eq_true c70
       clear c70
       obtain ⟨y194, hy194⟩ : ∃ y_ : List Int, y_ = (x190002_31.set (a1 : Int).toNat 0) := ⟨_, rfl⟩
       replace H : (some (wrap64 (t182 + (wrap64 (a2 * (rd l0_2 a1)))), y193, y194, 0)) = some (r1, r2, r3, r4) := pH hy194 H
       have Ny194 := aM hy194
       clear hy194
       simp only [Option.some.injEq, Prod.mk.injEq] at H
       obtain ⟨rfl, rfl, rfl, rfl⟩ := H
       try go_wp2
       replace HO_190001 := aM (Kd.R_drew HO_190001.out)
       replace HO_190002 := aM (Kd.R_drew HO_190002.out)
       replace BK178 := aM (blk_drew BK178.out)
       replace BK179 := aM (blk_drew BK179.out)
       replace BK189 := aM (blk_drew BK189.out)
       replace HB := aM (below_drew1 HB.out)
       have p192 : 0 ≤ (a1 : Int) := of_decide_eq_true pD
       have q192 : a1 < (l0_2.length : Int) := of_decide_eq_true pD
       obtain ⟨ad192, e192, hx192_0⟩ := Kd.at_int HR0_2.out a1 p192 q192
       have hw192_0 := hx192_0
       cases e192
       replace hx192_0 := (HB.out.cell (World.block_lt_of_cell? w _ hx192_0)).trans hx192_0
       replace p192 := eq_true p192
       replace q192 := eq_true q192
       refine start_ (n := 12) (S := fun w' => w'.cell? ⟨gb189, 0, none⟩ = some (.int .i64 t182) ∧ w'.cell? ⟨gb189, 1, none⟩ = some (u190001) ∧ w'.cell? ⟨gb189, 2, none⟩ = some (u190002) ∧ w'.cell? ⟨gb178, 0, none⟩ = some (.int .i64 a0_0) ∧ w'.cell? ⟨gb178, 1, none⟩ = some (.slice (some ad181) l0_1.length c0_1) ∧ w'.cell? ⟨gb178, 2, none⟩ = some (.slice (some ad192) l0_2.length c0_2) ∧ w'.cell? (ad192.add (a1).toNat) = some (.int .i64 (rd l0_2 a1))) (ds := [11]) #[false, false, false, false, false, false, false, false, false, false, false, false] (by kernel_rfl) rfl rfl ⟨(blk_cell BK189.out 0).trans rfl, (blk_cell BK189.out 1).trans rfl, (blk_cell BK189.out 2).trans rfl, (blk_cell BK178.out 0).trans rfl, (blk_cell BK178.out 1).trans rfl, (blk_cell BK178.out 2).trans rfl, ((HB.out.cell (World.block_lt_of_cell? w _ hw192_0)).trans hw192_0)⟩ (fun hHeld => ?_); refine with_tabW view_Slice.tab17 view_Slice.bits17 (fun HT_ HW_ => ?_)
       generalize wc.drew = w72 at HO_190001 HO_190002 BK178 BK179 BK189 HB hx192_0 hHeld ⊢
       refine pP (i := 0) (N := some 96) #[true, false, false, false, false, false, false, false, false, false, false, false] rfl rfl HT_.out ?_
       refine pP (i := 2) (N := some 98) #[true, false, true, false, false, false, false, false, false, false, false, false] rfl rfl HT_.out ?_
       refine pP (i := 3) (N := some 99) #[true, false, true, true, false, false, false, false, false, false, false, false] rfl rfl HT_.out ?_
       refine pP (i := 5) (N := some 101) #[true, false, true, true, false, true, false, false, false, false, false, false] rfl rfl HT_.out ?_
       refine pT (i := 1) (N := some 97) #[true, true, true, true, false, true, false, false, false, false, false, false] rfl rfl HT_.out HW_.out hHeld (by rintro w' ⟨s0, s1, s2, s3, s4, s5, s6⟩; go_simp; with_reducible rfl) ?_
       refine pT (i := 4) (N := some 100) #[true, true, true, true, true, true, false, false, false, false, false, false] rfl rfl HT_.out HW_.out hHeld (by rintro w' ⟨s0, s1, s2, s3, s4, s5, s6⟩; go_simp; with_reducible rfl) ?_
       refine pP (i := 6) (N := some 102) #[true, true, true, true, true, true, true, false, false, false, false, false] rfl rfl HT_.out ?_
       refine pT (i := 7) (N := some 103) #[true, true, true, true, true, true, true, true, false, false, false, false] rfl rfl HT_.out HW_.out hHeld (by rintro w' ⟨s0, s1, s2, s3, s4, s5, s6⟩; go_simp; with_reducible rfl) ?_
       refine pP (i := 8) (N := some 104) #[true, true, true, true, true, true, true, true, true, false, false, false] rfl rfl HT_.out ?_
       refine pP (i := 9) (N := some 105) #[true, true, true, true, true, true, true, true, true, true, false, false] rfl rfl HT_.out ?_
       refine pP (i := 10) (N := some 106) #[true, true, true, true, true, true, true, true, true, true, true, false] rfl rfl HT_.out ?_
       refine last_ (i := 11) (N := none) #[true, true, true, true, true, true, true, true, true, true, true, true] rfl rfl (one_of HT_.out (by kernel_rfl)) (by decide) (fun K hK => ?_)
       have hs73 : w72.cell? ⟨gb189, 0, none⟩ = some (.int .i64 t182) := (blk_cell BK189.out 0).trans rfl
       have hfs73 := blk_frozen BK189.out 0
       have hns73_0 := NB178_189.out
       have hns73_1 := NB179_189.out
       have hms73_0 := NB189_178.out
       have hms73_1 := NB189_179.out
       refine skip_ (w1 := ?_) (by rfl) rfl ?_ ?_
       rotate_left
       ·go_simp
        rfl
       refine hK.out _ _ ?_
       clear hK K
       refine done_ (done_of HT_.out (by kernel_rfl)) ?_
       have n0_ : Aside0 (Kd.R (Kd.int .i64) 3 (w72.setCell ⟨gb189, 0, none⟩ (.int .i64 (wrap64 (t182 + (wrap64 (a2 * (rd l0_2 a1))))))) w.heap.size (fun k_ => some k_ ≠ (u190002 : Value).ownBlock) u190001 x190001_31) := ⟨by (with_reducible repeat (first | apply rA | apply rN | apply rD)); exact Kd.R_mono (Kd.R_far (p := ⟨gb189, 0, none⟩) (Kd.R_types HO_190001.out BK189.out (by decide)) (fun _ hk => hk.2) (.int .i64 (wrap64 (t182 + (wrap64 (a2 * (rd l0_2 a1))))))) (fun _ hk => hk.1)⟩
       have n1_ : Aside0 (Kd.R (Kd.int .i64) 3 (w72.setCell ⟨gb189, 0, none⟩ (.int .i64 (wrap64 (t182 + (wrap64 (a2 * (rd l0_2 a1))))))) w.heap.size (fun k_ => some k_ ≠ (u190001 : Value).ownBlock) u190002 x190002_31) := ⟨by (with_reducible repeat (first | apply rA | apply rN | apply rD)); exact Kd.R_mono (Kd.R_far (p := ⟨gb189, 0, none⟩) (Kd.R_types HO_190002.out BK189.out (by decide)) (fun _ hk => hk.2) (.int .i64 (wrap64 (t182 + (wrap64 (a2 * (rd l0_2 a1))))))) (fun _ hk => hk.1)⟩
       have n2_ : Aside0 ((w72.setCell ⟨gb189, 0, none⟩ (.int .i64 (wrap64 (t182 + (wrap64 (a2 * (rd l0_2 a1))))))).heap[gb178]? = some (.cells #[.int .i64 a0_0, .slice (some ad181) l0_1.length c0_1, .slice (some ad192) l0_2.length c0_2] 24 (0, 0))) := ⟨by (with_reducible repeat (first | apply bN | apply bD | apply bA)); refine blk_far ?_ NB178_189.out _; (with_reducible repeat (first | apply bN | apply bD | apply bA)); exact BK178.out⟩
       have n3_ : Aside0 ((w72.setCell ⟨gb189, 0, none⟩ (.int .i64 (wrap64 (t182 + (wrap64 (a2 * (rd l0_2 a1))))))).heap[gb179]? = some (.cells #[.int .i64 x180000_31, .slice none 0 0, .slice none 0 0] 24 (0, 0))) := ⟨by (with_reducible repeat (first | apply bN | apply bD | apply bA)); refine blk_far ?_ NB179_189.out _; (with_reducible repeat (first | apply bN | apply bD | apply bA)); exact BK179.out⟩
       have n4_ : Aside0 ((w72.setCell ⟨gb189, 0, none⟩ (.int .i64 (wrap64 (t182 + (wrap64 (a2 * (rd l0_2 a1))))))).heap[gb189]? = some (.cells #[.int .i64 (wrap64 (t182 + (wrap64 (a2 * (rd l0_2 a1))))), u190001, u190002] 24 (0, 0))) := ⟨by (with_reducible repeat (first | apply bN | apply bD | apply bA)); refine blk_put (cs := #[.int .i64 t182, u190001, u190002]) ?_ 0 _ rfl; (with_reducible repeat (first | apply bN | apply bD | apply bA)); exact BK189.out⟩
       have n5_ : Aside0 (Below w.heap.size w (w72.setCell ⟨gb189, 0, none⟩ (.int .i64 (wrap64 (t182 + (wrap64 (a2 * (rd l0_2 a1)))))))) := ⟨qB3 HB GE178 GE179 GE189⟩
       (try clear HO_190001)
       (try clear HO_190002)
       (try clear BK178)
       (try clear BK179)
       (try clear BK189)
       (try clear HB)
       generalize (w72.setCell ⟨gb189, 0, none⟩ (.int .i64 (wrap64 (t182 + (wrap64 (a2 * (rd l0_2 a1))))))) = w74 at n0_ n1_ n2_ n3_ n4_ n5_ ⊢
       have HO_190001 := n0_
       have HO_190002 := n1_
       have BK178 := n2_
       have BK179 := n3_
       have BK189 := n4_
       have HB := n5_
       clear n0_ n1_ n2_ n3_ n4_ n5_
       have hnb75 := NB189_178.out
       have hnc75 := NB178_189.out
       have hnb76 := NB189_179.out
       have hnc76 := NB179_189.out
       obtain ⟨hcz77_0, hcz77_1, hcz77_2, hfz77_0, hfz77_1, hfz77_2⟩ := blk3 BK189.out
       have p68 : 0 ≤ (a1 : Int) := of_decide_eq_true pD
       have q68 : (a1 : Int) < ((x190001_31.length : Int) : Int) := of_decide_eq_true pD
       obtain ⟨go68, co68, eo68, gb68, gl68, cl68, HG68⟩ := Kd.R_form HO_190001.out (by omega)
       (first | cases eo68 | (injection eo68 with ea_ en_ ec_; (first | subst ea_ | (injection ea_ with ea_; subst ea_)); subst ec_; clear en_))
       have GB68 := aM gb68
       have GG68 := aM HG68
       clear gb68 gl68 HG68
       obtain ⟨hx68_0, hf68_0⟩ := Kd.R_celln 0 HO_190001.out (a1 : Int) p68 q68
       replace p68 := eq_true p68
       replace q68 := eq_true q68
       obtain ⟨hy78_, hz78_⟩ := Kd.R_celln 0 HO_190001.out (a1 : Int) (of_decide_eq_true pD) (of_decide_eq_true pD)
       have HP78 := Kd.R_putg HO_190001.out (a1 : Int) a3
       try go_wp2_with (first | ((with_reducible refine gate_store (t := 3) (p := 111) rfl ?_); refine store_event (t := 3) (p := 111) (v := ?vo_w79) (w1 := (w74.setCell ⟨go68, (a1 : Int).toNat, none⟩ (.int .i64 a3))) ?hg ?ho ?hn ?hr ?_; (case ho => rfl); (case hg => rfl); (case hn => rfl); (case hr => first | (go_simp; done) | (go_simp; rfl)); intro w79 hw; have hg : w74.grownBy w79 (some go68) := (by rw [hw]; exact HP78.2); have hp_ : Kd.R (Kd.int .i64) 3 w79 w.heap.size (fun k_ => some k_ ≠ (u190002 : Value).ownBlock) (.slice (some ⟨go68, 0, none⟩) x190001_31.length co68) y193 := (by rw [hw, Ny193.out]; exact HP78.1); clear HP78; replace HO_190002 := aM (Kd.R_after (v := (.slice (some ⟨go68, 0, none⟩) x190001_31.length co68)) (v1 := (.slice (some ⟨go68, 0, none⟩) x190001_31.length co68)) (ok := (fun _ => True)) (by (with_reducible repeat (first | apply rA | apply rN | apply rD)); exact Kd.R_mono HO_190002.out (fun _ hk => ⟨trivial, hk⟩)) hg (.inl rfl)); replace BK178 := aM (blk_grown (g := gb178) (pK BK178.out) hg (Kd.R_ne HO_190001.out BK178.out (by decide))); replace BK179 := aM (blk_grown (g := gb179) (pK BK179.out) hg (Kd.R_ne HO_190001.out BK179.out (by decide))); replace BK189 := aM (blk_grown (g := gb189) (pK BK189.out) hg (Kd.R_ne HO_190001.out BK189.out (by decide))); replace HO_190001 := aM (hp_); replace HB := aM ((by rw [hw]; exact below_set (HB.out) GB68.out : Below w.heap.size w w79)); clear hg hw hp_; obtain ⟨hcz80_0, hcz80_1, hcz80_2, hfz80_0, hfz80_1, hfz80_2⟩ := blk3 BK189.out; have p71 : 0 ≤ (a1 : Int) := of_decide_eq_true pD; have q71 : (a1 : Int) < ((x190002_31.length : Int) : Int) := of_decide_eq_true pD; obtain ⟨go71, co71, eo71, gb71, gl71, cl71, HG71⟩ := Kd.R_form HO_190002.out (by omega); (first | cases eo71 | (injection eo71 with ea_ en_ ec_; (first | subst ea_ | (injection ea_ with ea_; subst ea_)); subst ec_; clear en_)); have GB71 := aM gb71; have GG71 := aM HG71; clear gb71 gl71 HG71; obtain ⟨hx71_0, hf71_0⟩ := Kd.R_celln 0 HO_190002.out (a1 : Int) p71 q71; replace p71 := eq_true p71; replace q71 := eq_true q71; have n_ := aM (Kd.R_mono (ok' := (fun k_ => some k_ ≠ (.slice (some ⟨go68, 0, none⟩) x190001_31.length co68 : Value).ownBlock)) HO_190002.out (fun k_ hk => hk.2)); clear HO_190002; have HO_190002 := n_; clear n_; obtain ⟨hy81_, hz81_⟩ := Kd.R_celln 0 HO_190002.out (a1 : Int) (of_decide_eq_true pD) (of_decide_eq_true pD); have HP81 := Kd.R_putg HO_190002.out (a1 : Int) 0) | ((with_reducible refine gate_store (t := 3) (p := 117) rfl ?_); refine store_event (t := 3) (p := 117) (v := ?vo_w82) (w1 := (w79.setCell ⟨go71, (a1 : Int).toNat, none⟩ (.int .i64 0))) ?hg ?ho ?hn ?hr ?_; (case ho => rfl); (case hg => rfl); (case hn => rfl); (case hr => first | (go_simp; done) | (go_simp; rfl)); intro w82 hw; have hg : w79.grownBy w82 (some go71) := (by rw [hw]; exact HP81.2); have hp_ : Kd.R (Kd.int .i64) 3 w82 w.heap.size (fun k_ => some k_ ≠ (.slice (some ⟨go68, 0, none⟩) x190001_31.length co68 : Value).ownBlock) (.slice (some ⟨go71, 0, none⟩) x190002_31.length co71) y194 := (by rw [hw, Ny194.out]; exact HP81.1); clear HP81; replace HO_190001 := aM (Kd.R_after (v := (.slice (some ⟨go71, 0, none⟩) x190002_31.length co71)) (v1 := (.slice (some ⟨go71, 0, none⟩) x190002_31.length co71)) (ok := (fun _ => True)) (by (with_reducible repeat (first | apply rA | apply rN | apply rD)); exact Kd.R_mono HO_190001.out (fun _ hk => ⟨trivial, hk⟩)) hg (.inl rfl)); replace BK178 := aM (blk_grown (g := gb178) (pK BK178.out) hg (Kd.R_ne HO_190002.out BK178.out (by decide))); replace BK179 := aM (blk_grown (g := gb179) (pK BK179.out) hg (Kd.R_ne HO_190002.out BK179.out (by decide))); replace BK189 := aM (blk_grown (g := gb189) (pK BK189.out) hg (Kd.R_ne HO_190002.out BK189.out (by decide))); replace HO_190002 := aM (hp_); replace HB := aM ((by rw [hw]; exact below_set (HB.out) GB71.out : Below w.heap.size w w82)); clear hg hw hp_; obtain ⟨hcz83_0, hcz83_1, hcz83_2, hfz83_0, hfz83_1, hfz83_2⟩ := blk3 BK189.out; have hnb84 := NB179_178.out; have hnc84 := NB178_179.out; obtain ⟨hcz85_0, hcz85_1, hcz85_2, hfz85_0, hfz85_1, hfz85_2⟩ := blk3 BK179.out))
       refine bodyPost_ret (results_ct rfl _ _ gb179 24 #[.int .i64 (wrap64 (t182 + (wrap64 (a2 * (rd l0_2 a1))))), .slice (some ⟨go68, 0, none⟩) x190001_31.length co68, .slice (some ⟨go71, 0, none⟩) x190002_31.length co71] (0, 0) _ rfl (by exact P3 BK179) Try.underlying24 rfl (by kernel_rfl)) rfl ?_
       exact ⟨_, _, pE, by (with_reducible repeat (first | apply rA | apply rN | apply rD)); exact Kd.R_mono (Kd.R_far (p := ⟨gb179, 2, none⟩) (Kd.R_far (p := ⟨gb179, 1, none⟩) (Kd.R_far (p := ⟨gb179, 0, none⟩) (Kd.R_types HO_190001.out BK179.out (by decide)) (fun _ hk => hk.2) (.int .i64 (wrap64 (t182 + (wrap64 (a2 * (rd l0_2 a1))))))) (fun _ hk => hk.2) (.slice (some ⟨go68, 0, none⟩) x190001_31.length co68)) (fun _ hk => hk.2) (.slice (some ⟨go71, 0, none⟩) x190002_31.length co71)) (fun _ hk => hk.1.2), by (with_reducible repeat (first | apply rA | apply rN | apply rD)); exact Kd.R_mono (Kd.R_far (p := ⟨gb179, 2, none⟩) (Kd.R_far (p := ⟨gb179, 1, none⟩) (Kd.R_far (p := ⟨gb179, 0, none⟩) (Kd.R_types HO_190002.out BK179.out (by decide)) (fun _ hk => hk.2) (.int .i64 (wrap64 (t182 + (wrap64 (a2 * (rd l0_2 a1))))))) (fun _ hk => hk.2) (.slice (some ⟨go68, 0, none⟩) x190001_31.length co68)) (fun _ hk => hk.2) (.slice (some ⟨go71, 0, none⟩) x190002_31.length co71)) (fun _ hk => hk.1), qB3 HB GE178 GE179 GE189⟩
def shape_Steps.l0 : Nat → List Int → List Int → Int → Int → Option (List Int)
 | 0, _, _, _, _ => none
 | k + 1, x0, x3, x4, x5 => if x5 ≥ 0 then (if 0 ≤ x5 then (if x5 < (x3.length : Int) then (if x5 < (x0.length : Int) then (shape_Steps.l0 k x0 (x3.set (x5 : Int).toNat x4) (wrap64 (x4 * (rd x0 x5))) (wrap64 (x5 - 1))) else (none)) else (none)) else (none)) else (some x3)
def shape_Steps.f (k : Nat) (l0 : List Int) : Option (List Int) := (shape_Check.f l0).bind fun t127 => (if t127 = 0 then (if 0 ≤ (l0.length : Int) then (if ((l0.length : Int) : Int).toNat ≤ 35184372088832 then (shape_Steps.l0 k l0 (List.replicate ((l0.length : Int) : Int).toNat 0) 1 (wrap64 ((l0.length : Int) - 1))) else (none)) else (none)) else (some ([] : List Int)))
set_option maxHeartbeats 8000000 in
set_option maxRecDepth 100000 in
theorem shape_Steps.calls (k : Nat) (A0 : Option Addr) (c0 : Nat) (l0 : List Int) (r : List Int) (w : World) (hr0 : Kd.C (Kd.int .i64) w A0 l0.length l0) (hc0 : l0.length ≤ c0) (h : shape_Steps.f k l0 = some r) :
  Calls Try.prog 44 #[.slice A0 l0.length c0] w fun e w' => ∃ v0_ : Value, e = .returned (v0_) ∧ Kd.R (Kd.int .i64) 3 w' w.heap.size (fun _ => True) v0_ r ∧ Below w.heap.size w w' := by
 have HR0 := aM hr0
 have HC0 := aM hc0
 clear hr0 hc0
 have HB := aM (Below.refl w.heap.size w)
 have H : ((shape_Check.f l0).bind fun t127 => (if t127 = 0 then (if 0 ≤ (l0.length : Int) then (if ((l0.length : Int) : Int).toNat ≤ 35184372088832 then (shape_Steps.l0 k l0 (List.replicate ((l0.length : Int) : Int).toNat 0) 1 (wrap64 ((l0.length : Int) - 1))) else (none)) else (none)) else (some ([] : List Int)))) = some r := h
 clear h
 replace H := Option.bind_eq_some_iff.mp H
 obtain ⟨t127, A20, H⟩ := H
 try dsimp only at H
 have A2 := aM A20
 clear A20
 by_cases c3 : t127 = 0
 rotate_left
 ·rw [if_neg c3] at H
  have c3b0 : (t127 == 0) = false := beq_eq_false_iff_ne.mpr c3
  have c3b1 : (t127 != 0) = true := bne_iff_ne.mpr c3
  obtain rfl := Option.some.inj H
  go_enter Try.func44, Try.ntmps44
  go_wp2_with (first | ((with_reducible refine gate_callee (f := 41) rfl ?_); refine goesL_ (some 7) rfl rfl Try.func41 (by kernel_rfl) rfl #[.slice A0 l0.length c0] rfl pA ?_; (with_reducible refine (shape_Check.calls _ _ l0 t127 _ ?s1 ?s2 A2.out).mono ?_); (case s1 => exact pC HR0.out); (case s2 => exact HC0.out); rintro e w' ⟨rfl, ⟨nd, rfl⟩⟩; refine ⟨_, rfl, ?_⟩))
  go_ret
  exact ⟨_, pE, pN, qB HB⟩
 rw [if_pos c3] at H
 have c3b0 : (t127 == 0) = true := beq_iff_eq.mpr c3
 have c3b1 : (t127 != 0) = false := bne_eq_false_iff_eq.mpr c3
 clear c3
 by_cases c4 : 0 ≤ (l0.length : Int)
 rotate_left
 ·rw [if_neg c4] at H
  exact absurd H (by simp)
 rw [if_pos c4] at H
 have c4b0 := eq_true c4
 have c4b1 : decide (0 ≤ (l0.length : Int)) = true := decide_eq_true c4
 clear c4
 by_cases c5 : ((l0.length : Int) : Int).toNat ≤ 35184372088832
 rotate_left
 ·rw [if_neg c5] at H
  exact absurd H (by simp)
 rw [if_pos c5] at H
 have c5b0 := eq_true c5
 have c5b1 : decide (((l0.length : Int) : Int).toNat ≤ 35184372088832) = true := decide_eq_true c5
 clear c5
 obtain ⟨y128, hy128⟩ : ∃ y_ : List Int, y_ = (List.replicate ((l0.length : Int) : Int).toNat 0) := ⟨_, rfl⟩
 replace H : (shape_Steps.l0 k l0 y128 1 (wrap64 ((l0.length : Int) - 1))) = some r := pH hy128 H
 have Ny128 := aM hy128
 clear hy128
 have H' := aM H
 clear H
 go_enter Try.func44, Try.ntmps44
 go_wp2_with (first | ((with_reducible refine gate_callee (f := 41) rfl ?_); refine goesL_ (some 7) rfl rfl Try.func41 (by kernel_rfl) rfl #[.slice A0 l0.length c0] rfl pA ?_; (with_reducible refine (shape_Check.calls _ _ l0 t127 _ ?s1 ?s2 A2.out).mono ?_); (case s1 => exact pC HR0.out); (case s2 => exact HC0.out); rintro e w' ⟨rfl, ⟨nd, rfl⟩⟩; refine ⟨_, rfl, ?_⟩) | ((with_reducible refine gate_dst (N := 11) rfl ?_); refine Kd.R_make (Kd.int .i64) _ 3 rfl (N := 11) rfl 22 _ _ rfl (l0.length : Int) rfl rfl Try.underlying22 (.int .i64 0) 8 info3 rfl (by decide) (by omega) 0 (ok := fun _ => True) (okp := fun _ => True) rfl (fun _ hk => hk) trivial (of_decide_eq_true pD) (Nat.le_trans (Nat.mul_le_mul_right _ (of_decide_eq_true pD : (l0.length : Int).toNat ≤ 35184372088832)) (by omega)) (Below.refl _ _) (Nat.le_refl _) ?_; intro v129 w6 ho7 hb hg_ hnew_; clear hg_ hnew_; (first | rw [← Ny128.out] at ho7 | (simp only [Int.reduceToNat] at ho7; rw [← Ny128.out] at ho7)); have HO130 := aM (Kd.R_lower ho7 (below_size (qB HB))); replace HB := bS (qB HB) hb; clear hb ho7))
 go_loopg [4, 5] k (fun kq v4 v5 w' => ∃ (x3_1 : List Int) (x4_1 : Int) (x5_1 : Int), v4 = .int .i64 x4_1 ∧ v5 = .int .i64 x5_1 ∧ Aside0 (shape_Steps.l0 kq l0 x3_1 x4_1 x5_1 = some r) ∧ Aside0 (kq ≤ k) ∧ Aside0 (Kd.R (Kd.int .i64) 3 w' w.heap.size (fun _ => True) v129 x3_1) ∧ Aside0 (Below w.heap.size w w'))
 case atStart => exact ⟨(y128), (1), (wrap64 ((l0.length : Int) - 1)), (pF), (pF), H', ⟨Nat.le_refl _⟩, ⟨pR HO130.out⟩, ⟨qB HB⟩⟩
 case round =>
  clear H'
  try clear c3b0
  try clear c3b1
  try clear c4b0
  try clear c4b1
  try clear c5b0
  try clear c5b1
  obtain ⟨x3_1, x4_1, x5_1, rfl, rfl, HA, HK1, HO_3, HB⟩ := hrel
  cases gk with
  | zero => exact absurd HA.out (by simp [shape_Steps.l0])
  | succ k1 =>
   have H := HA.out
   clear HA
   simp only [shape_Steps.l0] at H
   by_cases c8 : x5_1 ≥ 0
   rotate_left
   ·rw [if_neg c8] at H
    have c8b0 : decide (0 ≤ x5_1) = false := decide_eq_false c8
    clear c8
    obtain rfl := Option.some.inj H
    go_wp2
    go_ret
    exact ⟨_, pE, pR HO_3.out, qB HB⟩
   rw [if_pos c8] at H
   have c8b0 : decide (0 ≤ x5_1) = true := decide_eq_true c8
   clear c8
   by_cases c9 : 0 ≤ x5_1
   rotate_left
   ·rw [if_neg c9] at H
    exact absurd H (by simp)
   rw [if_pos c9] at H
   have c9b0 : decide (0 ≤ x5_1) = true := decide_eq_true c9
   clear c9
   by_cases c10 : x5_1 < (x3_1.length : Int)
   rotate_left
   ·rw [if_neg c10] at H
    exact absurd H (by simp)
   rw [if_pos c10] at H
   have c10b0 : decide (x5_1 < (x3_1.length : Int)) = true := decide_eq_true c10
   clear c10
   obtain ⟨y131, hy131⟩ : ∃ y_ : List Int, y_ = (x3_1.set (x5_1 : Int).toNat x4_1) := ⟨_, rfl⟩
   replace H : (if x5_1 < (l0.length : Int) then (shape_Steps.l0 k1 l0 y131 (wrap64 (x4_1 * (rd l0 x5_1))) (wrap64 (x5_1 - 1))) else (none)) = some r := pH hy131 H
   have Ny131 := aM hy131
   clear hy131
   by_cases c12 : x5_1 < (l0.length : Int)
   rotate_left
   ·rw [if_neg c12] at H
    exact absurd H (by simp)
   rw [if_pos c12] at H
   have c12b0 : decide (x5_1 < (l0.length : Int)) = true := decide_eq_true c12
   clear c12
   have H' := aM H
   clear H
   have p11 : 0 ≤ (x5_1 : Int) := of_decide_eq_true pD
   have q11 : (x5_1 : Int) < ((x3_1.length : Int) : Int) := of_decide_eq_true pD
   obtain ⟨go11, co11, eo11, gb11, gl11, cl11, HG11⟩ := Kd.R_form HO_3.out (by omega)
   (first | cases eo11 | (injection eo11 with ea_ en_ ec_; (first | subst ea_ | (injection ea_ with ea_; subst ea_)); subst ec_; clear en_))
   have GB11 := aM gb11
   have GG11 := aM HG11
   clear gb11 gl11 HG11
   obtain ⟨hx11_0, hf11_0⟩ := Kd.R_celln 0 HO_3.out (x5_1 : Int) p11 q11
   replace p11 := eq_true p11
   replace q11 := eq_true q11
   have HP13 := Kd.R_putg HO_3.out (x5_1 : Int) x4_1
   go_wp2_with (first | ((with_reducible refine gate_store (t := 3) (p := 22) rfl ?_); refine store_event (t := 3) (p := 22) (v := ?vo_w14) (w1 := (wr.setCell ⟨go11, (x5_1 : Int).toNat, none⟩ (.int .i64 x4_1))) ?hg ?ho ?hn ?hr ?_; (case ho => rfl); (case hg => rfl); (case hn => rfl); (case hr => first | (go_simp; done) | (go_simp; rfl)); intro w14 hw; have hg : wr.grownBy w14 (some go11) := (by rw [hw]; exact HP13.2); have hp_ : Kd.R (Kd.int .i64) 3 w14 w.heap.size (fun _ => True) (.slice (some ⟨go11, 0, none⟩) x3_1.length co11) y131 := (by rw [hw, Ny131.out]; exact HP13.1); clear HP13; replace HO_3 := aM (hp_); replace HB := aM ((by rw [hw]; exact below_set (HB.out) GB11.out : Below w.heap.size w w14)); clear hg hw hp_; have p132 : 0 ≤ (x5_1 : Int) := of_decide_eq_true pD; have q132 : x5_1 < (l0.length : Int) := of_decide_eq_true pD; obtain ⟨ad132, e132, hx132_0⟩ := Kd.at_int HR0.out x5_1 p132 q132; cases e132; replace hx132_0 := (HB.out.cell (World.block_lt_of_cell? w _ hx132_0)).trans hx132_0; replace p132 := eq_true p132; replace q132 := eq_true q132))
   go_roundg k1
   case measure => have := HK1.out; omega
   case rel => exact ⟨(y131), (wrap64 (x4_1 * (rd l0 x5_1))), (wrap64 (x5_1 - 1)), (pF), (pF), H', ⟨by have := HK1.out; omega⟩, ⟨pR HO_3.out⟩, ⟨qB HB⟩⟩
def view_Whole.f (k : Nat) (l0 : List Int) : Option (Int × List Int × List Int) := (shape_Check.f l0).bind fun t134 => (if t134 = 0 then ((slices_Clone_int_int.f l0).bind fun t135 => ((shape_Steps.f k l0).bind fun t138 => (some (0, t135, t138)))) else (some (0, ([] : List Int), ([] : List Int))))
set_option maxHeartbeats 8000000 in
set_option maxRecDepth 100000 in
theorem view_Whole.calls (k : Nat) (A0 : Option Addr) (c0 : Nat) (l0 : List Int) (r1 : Int) (r2 : List Int) (r3 : List Int) (w : World) (hr0 : Kd.C (Kd.int .i64) w A0 l0.length l0) (hc0 : l0.length ≤ c0) (h : view_Whole.f k l0 = some (r1, r2, r3)) :
  Calls Try.prog 14 #[.slice A0 l0.length c0] w fun e w' => ∃ v1_ v2_ : Value, e = .returned (.agg #[.int .i64 r1, v1_, v2_]) ∧ Kd.R (Kd.int .i64) 3 w' w.heap.size (fun k_ => some k_ ≠ (v2_ : Value).ownBlock) v1_ r2 ∧ Kd.R (Kd.int .i64) 3 w' w.heap.size (fun k_ => some k_ ≠ (v1_ : Value).ownBlock) v2_ r3 ∧ Below w.heap.size w w' := by
 have hu24 := Try.underlying24
 have HR0 := aM hr0
 have HC0 := aM hc0
 clear hr0 hc0
 have HB := aM (Below.refl w.heap.size w)
 have H : ((shape_Check.f l0).bind fun t134 => (if t134 = 0 then ((slices_Clone_int_int.f l0).bind fun t135 => ((shape_Steps.f k l0).bind fun t138 => (some (0, t135, t138)))) else (some (0, ([] : List Int), ([] : List Int))))) = some (r1, r2, r3) := h
 clear h
 replace H := Option.bind_eq_some_iff.mp H
 obtain ⟨t134, A20, H⟩ := H
 try dsimp only at H
 have A2 := aM A20
 clear A20
 by_cases c3 : t134 = 0
 rotate_left
 ·rw [if_neg c3] at H
  have c3b0 : (t134 == 0) = false := beq_eq_false_iff_ne.mpr c3
  have c3b1 : (t134 != 0) = true := bne_iff_ne.mpr c3
  simp only [Option.some.injEq, Prod.mk.injEq] at H
  obtain ⟨rfl, rfl, rfl⟩ := H
  go_enter Try.func14, Try.ntmps14
  go_wp2_with (first | ((with_reducible refine gate_dst (N := 2) rfl ?_); refine box_event ?hg (N := 2) ?hd (cs := #[.int .i64 0, .slice none 0 0, .slice none 0 0]) (t := 24) ?hr ?_; (case hd => rfl); (case hg => rfl); (case hr => first | (go_simp; done) | (go_simp; rfl)); intro gb133 hg w12 hbox hb; have BK133 := aM (hbox); have GW133 := gE (w := w) hg (qB HB); have GE133 := GW133; replace HB := bS (qB HB) hb; clear hb hbox hg) | ((with_reducible refine gate_callee (f := 41) rfl ?_); refine goesL_ (some 4) rfl rfl Try.func41 (by kernel_rfl) rfl #[.slice A0 l0.length c0] rfl pA ?_; (with_reducible refine (shape_Check.calls _ _ l0 t134 _ ?s1 ?s2 A2.out).mono ?_); (case s1 => exact sC HR0 HB); (case s2 => exact HC0.out); rintro e w' ⟨rfl, ⟨nd, rfl⟩⟩; refine ⟨_, rfl, ?_⟩; (try (rw [drewN_self w12]; generalize hq_ : World.drewN w12 _ = w12; have n0_ : Aside0 (w12.heap[gb133]? = some (.cells #[.int .i64 0, .slice none 0 0, .slice none 0 0] 24 (0, 0))) := ⟨by rw [← hq_]; exact (pK BK133.out)⟩; have n1_ : Aside0 (Below w.heap.size w w12) := ⟨by rw [← hq_]; exact (qB1 HB GE133)⟩; clear BK133 HB hq_; have BK133 := n0_; have HB := n1_; clear n0_ n1_)); obtain ⟨hcz13_0, hcz13_1, hcz13_2, hfz13_0, hfz13_1, hfz13_2⟩ := blk3 BK133.out))
  refine bodyPost_ret (results_cell_row rfl _ _ gb133 24 #[.int .i64 0, .slice none 0 0, .slice none 0 0] (0, 0) _ rfl (by exact P3 BK133) Try.underlying24 rfl (by kernel_rfl)) rfl ?_
  exact ⟨_, _, pE, pN, pN, qB1 HB GE133⟩
 rw [if_pos c3] at H
 have c3b0 : (t134 == 0) = true := beq_iff_eq.mpr c3
 have c3b1 : (t134 != 0) = false := bne_eq_false_iff_eq.mpr c3
 clear c3
 replace H := Option.bind_eq_some_iff.mp H
 obtain ⟨t135, A40, H⟩ := H
 try dsimp only at H
 have A4 := aM A40
 clear A40
 replace H := Option.bind_eq_some_iff.mp H
 obtain ⟨t138, A50, H⟩ := H
 try dsimp only at H
 have A5 := aM A50
 clear A50
 simp only [Option.some.injEq, Prod.mk.injEq] at H
 obtain ⟨rfl, rfl, rfl⟩ := H
 go_enter Try.func14, Try.ntmps14
 go_wp2_with (first | ((with_reducible refine gate_dst (N := 2) rfl ?_); refine box_event ?hg (N := 2) ?hd (cs := #[.int .i64 0, .slice none 0 0, .slice none 0 0]) (t := 24) ?hr ?_; (case hd => rfl); (case hg => rfl); (case hr => first | (go_simp; done) | (go_simp; rfl)); intro gb133 hg w6 hbox hb; have BK133 := aM (hbox); have GW133 := gE (w := w) hg (qB HB); have GE133 := GW133; replace HB := bS (qB HB) hb; clear hb hbox hg) | ((with_reducible refine gate_callee (f := 41) rfl ?_); refine goesL_ (some 4) rfl rfl Try.func41 (by kernel_rfl) rfl #[.slice A0 l0.length c0] rfl pA ?_; (with_reducible refine (shape_Check.calls _ _ l0 t134 _ ?s1 ?s2 A2.out).mono ?_); (case s1 => exact sC HR0 HB); (case s2 => exact HC0.out); rintro e w' ⟨rfl, ⟨nd, rfl⟩⟩; refine ⟨_, rfl, ?_⟩; (try (rw [drewN_self w6]; generalize hq_ : World.drewN w6 _ = w6; have n0_ : Aside0 (w6.heap[gb133]? = some (.cells #[.int .i64 0, .slice none 0 0, .slice none 0 0] 24 (0, 0))) := ⟨by rw [← hq_]; exact (pK BK133.out)⟩; have n1_ : Aside0 (Below w.heap.size w w6) := ⟨by rw [← hq_]; exact (qB1 HB GE133)⟩; clear BK133 HB hq_; have BK133 := n0_; have HB := n1_; clear n0_ n1_))) | ((with_reducible refine gate_callee (f := 43) rfl ?_); refine goesL_ (some 8) rfl rfl Try.func43 (by kernel_rfl) rfl #[.slice A0 l0.length c0] rfl pA ?_; (with_reducible refine (slices_Clone_int_int.calls _ _ l0 t135 _ ?s1 ?s2 A4.out).mono ?_); (case s1 => exact sC HR0 HB); (case s2 => exact HC0.out); rintro e w7 ⟨v136, rfl, ho0, hb⟩; refine ⟨_, rfl, ?_⟩; have HO137 := aM (Kd.R_lower ho0 (below_size (qB1 HB GE133))); replace BK133 := bK BK133 hb; replace HB := bS (qB1 HB GE133) hb; (try clear hb); (try clear hk); (try clear hi); (try clear ho0)) | ((with_reducible refine gate_callee (f := 44) rfl ?_); refine goesL_ (some 10) rfl rfl Try.func44 (by kernel_rfl) rfl #[.slice A0 l0.length c0] rfl pA ?_; (with_reducible refine (shape_Steps.calls k _ _ l0 t138 _ ?s1 ?s2 A5.out).mono ?_); (case s1 => exact sC HR0 HB); (case s2 => exact HC0.out); rintro e w8 ⟨v139, rfl, ho0, hb⟩; refine ⟨_, rfl, ?_⟩; have HO140 := aM (Kd.R_lower (Kd.R_new' ho0 (Kd.R_lt (pR HO137.out))) (below_size (qB1 HB GE133))); replace HO137 := eR HO137 ho0 hb; replace BK133 := bK BK133 hb; replace HB := bS (qB1 HB GE133) hb; (try clear hb); (try clear hk); (try clear hi); (try clear ho0); obtain ⟨Ao9, co9, eo9⟩ := Kd.R_slice HO140.out; subst eo9; obtain ⟨Ao10, co10, eo10⟩ := Kd.R_slice HO137.out; subst eo10; obtain ⟨hcz11_0, hcz11_1, hcz11_2, hfz11_0, hfz11_1, hfz11_2⟩ := blk3 BK133.out))
 refine bodyPost_ret (results_cell_row rfl _ _ gb133 24 #[.int .i64 0, .slice Ao10 t135.length co10, .slice Ao9 t138.length co9] (0, 0) _ rfl (by exact P3 BK133) Try.underlying24 rfl (by kernel_rfl)) rfl ?_
 exact ⟨_, _, pE, by (with_reducible repeat (first | apply rA | apply rN | apply rD)); exact F3 HO137 BK133 (fun _ hk => hk.1.2), by (with_reducible repeat (first | apply rA | apply rN | apply rD)); exact F3 HO140 BK133 (fun _ hk => hk.1.2), qB1 HB GE133⟩
def gradinelaw22_same0.f (k : Nat)  : Option (Bool) := (view_Whole.f k (([2, 3] : List Int))).bind fun bt200 => ((view_Permute.f k bt200.1 bt200.2.1 bt200.2.2 (([1, 0] : List Int))).bind fun bt210 => ((view_Whole.f k (([2, 3] : List Int))).bind fun bt222 => ((view_Slice.f k bt222.1 bt222.2.1 bt222.2.2 1 2 2 (-2)).bind fun bt229 => ((view_At.f k bt229.1 bt229.2.1 bt229.2.2.1 3).bind fun bt238 => (if bt210.2.2.2 = 0 then (if bt229.2.2.2 = 0 then (if (bt210.2.2.1.length : Int) = 2 then (if 0 < (bt210.2.2.1.length : Int) then (if (rd bt210.2.2.1 0) = 1 then (if 1 < (bt210.2.2.1.length : Int) then (if (rd bt210.2.2.1 1) = 3 then (if bt238.1 = 3 then (some bt238.2) else (some false)) else (some false)) else (none)) else (some false)) else (none)) else (some false)) else (some false)) else (some false))))))
set_option maxHeartbeats 8000000 in
set_option maxRecDepth 100000 in
theorem gradinelaw22_same0.calls (k : Nat)  (w : World) (h : gradinelaw22_same0.f k  = some true) :
  Calls Try.prog 9 #[] w fun e w' => e = .returned (.bool true) ∧ Below w.heap.size w w' := by
 have hu24 := Try.underlying24
 have HB := aM (Below.refl w.heap.size w)
 have H : ((view_Whole.f k (([2, 3] : List Int))).bind fun bt200 => ((view_Permute.f k bt200.1 bt200.2.1 bt200.2.2 (([1, 0] : List Int))).bind fun bt210 => ((view_Whole.f k (([2, 3] : List Int))).bind fun bt222 => ((view_Slice.f k bt222.1 bt222.2.1 bt222.2.2 1 2 2 (-2)).bind fun bt229 => ((view_At.f k bt229.1 bt229.2.1 bt229.2.2.1 3).bind fun bt238 => (if bt210.2.2.2 = 0 then (if bt229.2.2.2 = 0 then (if (bt210.2.2.1.length : Int) = 2 then (if 0 < (bt210.2.2.1.length : Int) then (if (rd bt210.2.2.1 0) = 1 then (if 1 < (bt210.2.2.1.length : Int) then (if (rd bt210.2.2.1 1) = 3 then (if bt238.1 = 3 then (some bt238.2) else (some false)) else (some false)) else (none)) else (some false)) else (none)) else (some false)) else (some false)) else (some false))))))) = some true := h
 clear h
 obtain ⟨y197, hy197⟩ : ∃ y_ : List Int, y_ = (([2, 3] : List Int)) := ⟨_, rfl⟩
 replace H : ((view_Whole.f k y197).bind fun bt200 => ((view_Permute.f k bt200.1 bt200.2.1 bt200.2.2 (([1, 0] : List Int))).bind fun bt210 => ((view_Whole.f k (([2, 3] : List Int))).bind fun bt222 => ((view_Slice.f k bt222.1 bt222.2.1 bt222.2.2 1 2 2 (-2)).bind fun bt229 => ((view_At.f k bt229.1 bt229.2.1 bt229.2.2.1 3).bind fun bt238 => (if bt210.2.2.2 = 0 then (if bt229.2.2.2 = 0 then (if (bt210.2.2.1.length : Int) = 2 then (if 0 < (bt210.2.2.1.length : Int) then (if (rd bt210.2.2.1 0) = 1 then (if 1 < (bt210.2.2.1.length : Int) then (if (rd bt210.2.2.1 1) = 3 then (if bt238.1 = 3 then (some bt238.2) else (some false)) else (some false)) else (none)) else (some false)) else (none)) else (some false)) else (some false)) else (some false))))))) = some true := pH hy197 H
 have Ny197 := aM hy197
 clear hy197
 replace H := Option.bind_eq_some_iff.mp H
 obtain ⟨⟨t200, t201, t204⟩, A10, H⟩ := H
 try dsimp only at H
 have A1 := aM A10
 clear A10
 obtain ⟨y207, hy207⟩ : ∃ y_ : List Int, y_ = (([1, 0] : List Int)) := ⟨_, rfl⟩
 replace H : ((view_Permute.f k t200 t201 t204 y207).bind fun bt210 => ((view_Whole.f k (([2, 3] : List Int))).bind fun bt222 => ((view_Slice.f k bt222.1 bt222.2.1 bt222.2.2 1 2 2 (-2)).bind fun bt229 => ((view_At.f k bt229.1 bt229.2.1 bt229.2.2.1 3).bind fun bt238 => (if bt210.2.2.2 = 0 then (if bt229.2.2.2 = 0 then (if (bt210.2.2.1.length : Int) = 2 then (if 0 < (bt210.2.2.1.length : Int) then (if (rd bt210.2.2.1 0) = 1 then (if 1 < (bt210.2.2.1.length : Int) then (if (rd bt210.2.2.1 1) = 3 then (if bt238.1 = 3 then (some bt238.2) else (some false)) else (some false)) else (none)) else (some false)) else (none)) else (some false)) else (some false)) else (some false)))))) = some true := pH hy207 H
 have Ny207 := aM hy207
 clear hy207
 replace H := Option.bind_eq_some_iff.mp H
 obtain ⟨⟨t210, t211, t214, t217⟩, A20, H⟩ := H
 try dsimp only at H
 have A2 := aM A20
 clear A20
 obtain ⟨y219, hy219⟩ : ∃ y_ : List Int, y_ = (([2, 3] : List Int)) := ⟨_, rfl⟩
 replace H : ((view_Whole.f k y219).bind fun bt222 => ((view_Slice.f k bt222.1 bt222.2.1 bt222.2.2 1 2 2 (-2)).bind fun bt229 => ((view_At.f k bt229.1 bt229.2.1 bt229.2.2.1 3).bind fun bt238 => (if t217 = 0 then (if bt229.2.2.2 = 0 then (if (t214.length : Int) = 2 then (if 0 < (t214.length : Int) then (if (rd t214 0) = 1 then (if 1 < (t214.length : Int) then (if (rd t214 1) = 3 then (if bt238.1 = 3 then (some bt238.2) else (some false)) else (some false)) else (none)) else (some false)) else (none)) else (some false)) else (some false)) else (some false))))) = some true := pH hy219 H
 have Ny219 := aM hy219
 clear hy219
 replace H := Option.bind_eq_some_iff.mp H
 obtain ⟨⟨t222, t223, t226⟩, A30, H⟩ := H
 try dsimp only at H
 have A3 := aM A30
 clear A30
 replace H := Option.bind_eq_some_iff.mp H
 obtain ⟨⟨t229, t230, t233, t236⟩, A40, H⟩ := H
 try dsimp only at H
 have A4 := aM A40
 clear A40
 replace H := Option.bind_eq_some_iff.mp H
 obtain ⟨⟨t238, t239⟩, A50, H⟩ := H
 try dsimp only at H
 have A5 := aM A50
 clear A50
 by_cases c6 : t217 = 0
 rotate_left
 ·rw [if_neg c6] at H
  have c6b0 : (t217 == 0) = false := beq_eq_false_iff_ne.mpr c6
  have c6b1 : (t217 != 0) = true := bne_iff_ne.mpr c6
  exact absurd H (by simp)
 rw [if_pos c6] at H
 have c6b0 : (t217 == 0) = true := beq_iff_eq.mpr c6
 have c6b1 : (t217 != 0) = false := bne_eq_false_iff_eq.mpr c6
 clear c6
 by_cases c7 : t236 = 0
 rotate_left
 ·rw [if_neg c7] at H
  have c7b0 : (t236 == 0) = false := beq_eq_false_iff_ne.mpr c7
  have c7b1 : (t236 != 0) = true := bne_iff_ne.mpr c7
  exact absurd H (by simp)
 rw [if_pos c7] at H
 have c7b0 : (t236 == 0) = true := beq_iff_eq.mpr c7
 have c7b1 : (t236 != 0) = false := bne_eq_false_iff_eq.mpr c7
 clear c7
 by_cases c8 : (t214.length : Int) = 2
 rotate_left
 ·rw [if_neg c8] at H
  have c8b0 : ((t214.length : Int) == 2) = false := beq_eq_false_iff_ne.mpr c8
  have c8b1 : ((t214.length : Int) != 2) = true := bne_iff_ne.mpr c8
  exact absurd H (by simp)
 rw [if_pos c8] at H
 have c8b0 : ((t214.length : Int) == 2) = true := beq_iff_eq.mpr c8
 have c8b1 : ((t214.length : Int) != 2) = false := bne_eq_false_iff_eq.mpr c8
 clear c8
 by_cases c9 : 0 < (t214.length : Int)
 rotate_left
 ·rw [if_neg c9] at H
  exact absurd H (by simp)
 rw [if_pos c9] at H
 have c9b0 : decide (0 < (t214.length : Int)) = true := decide_eq_true c9
 have c9b1 : decide (0 < t214.length) = true := decide_eq_true (by omega)
 clear c9
 by_cases c10 : (rd t214 0) = 1
 rotate_left
 ·rw [if_neg c10] at H
  have c10b0 : ((rd t214 0) == 1) = false := beq_eq_false_iff_ne.mpr c10
  have c10b1 : ((rd t214 0) != 1) = true := bne_iff_ne.mpr c10
  exact absurd H (by simp)
 rw [if_pos c10] at H
 have c10b0 : ((rd t214 0) == 1) = true := beq_iff_eq.mpr c10
 have c10b1 : ((rd t214 0) != 1) = false := bne_eq_false_iff_eq.mpr c10
 clear c10
 by_cases c11 : 1 < (t214.length : Int)
 rotate_left
 ·rw [if_neg c11] at H
  exact absurd H (by simp)
 rw [if_pos c11] at H
 have c11b0 : decide (1 < (t214.length : Int)) = true := decide_eq_true c11
 have c11b1 : decide (1 < t214.length) = true := decide_eq_true (by omega)
 clear c11
 by_cases c12 : (rd t214 1) = 3
 rotate_left
 ·rw [if_neg c12] at H
  have c12b0 : ((rd t214 1) == 3) = false := beq_eq_false_iff_ne.mpr c12
  have c12b1 : ((rd t214 1) != 3) = true := bne_iff_ne.mpr c12
  exact absurd H (by simp)
 rw [if_pos c12] at H
 have c12b0 : ((rd t214 1) == 3) = true := beq_iff_eq.mpr c12
 have c12b1 : ((rd t214 1) != 3) = false := bne_eq_false_iff_eq.mpr c12
 clear c12
 by_cases c13 : t238 = 3
 rotate_left
 ·rw [if_neg c13] at H
  have c13b0 : (t238 == 3) = false := beq_eq_false_iff_ne.mpr c13
  have c13b1 : (t238 != 3) = true := bne_iff_ne.mpr c13
  exact absurd H (by simp)
 rw [if_pos c13] at H
 have c13b0 : (t238 == 3) = true := beq_iff_eq.mpr c13
 have c13b1 : (t238 != 3) = false := bne_eq_false_iff_eq.mpr c13
 clear c13
 have hv_ := aM (Option.some.inj H)
 clear H
 go_enter Try.func9, Try.ntmps9
 go_wp2_with (first | ((with_reducible refine gate_dst (N := 8) rfl ?_); (try (refine gate_guard (by rfl) ?_; dsimp only)); refine Kd.R_lit (Kd.int .i64) _ 3 ?hg (N := 8) ?hd (xs := ([2, 3] : List Int)) (inner := [.int .i64 2, .int .i64 3]) (ok := fun _ => True) (okp := fun _ => True) ?hr ?hp (fun _ hk => hk) trivial (Below.refl _ _) (Nat.le_refl _) (by simp) ?_; (case hd => rfl); (case hg => rfl); (case hr => first | (go_simp; done) | (go_simp; rfl)); (case hp => exact (Reps.one (show Kd.M (Kd.int .i64) _ _ _ 2 [.int .i64 2] from rfl) (Reps.one (show Kd.M (Kd.int .i64) _ _ _ 3 [.int .i64 3] from rfl) (Reps.none _ _)))); intro v198 w14 ho15 hb hg_ hnew_; clear hg_ hnew_; (first | rw [← Ny197.out] at ho15 | (simp only [Int.reduceToNat] at ho15; rw [← Ny197.out] at ho15)); have HO199 := aM (Kd.R_lower ho15 (below_size (qB HB))); replace HB := bS (qB HB) hb; clear hb ho15; obtain ⟨Ao16, co16, eo16⟩ := Kd.R_slice HO199.out; subst eo16) | ((with_reducible refine gate_callee (f := 14) rfl ?_); refine goesL_ (some 9) rfl rfl Try.func14 (by kernel_rfl) rfl #[.slice Ao16 y197.length co16] rfl pA ?_; (with_reducible refine (view_Whole.calls k _ _ y197 t200 t201 t204 _ ?s1 ?s2 A1.out).mono ?_); (case s1 => exact sR HO199); (case s2 => exact sL HO199); rintro e w17 ⟨v202, v205, rfl, ho0, ho1, hb⟩; refine ⟨_, rfl, ?_⟩; have HO203 := aM (Kd.R_lower (Kd.R_new' ho0 (Kd.R_lt (pR HO199.out))) (below_size (qB HB))); have HO206 := aM (Kd.R_lower (Kd.R_new' ho1 (Kd.R_lt (pR HO199.out))) (below_size (qB HB))); replace HO199 := eR2 HO199 ho0 ho1 hb; replace HB := bS (qB HB) hb; (try clear hb); (try clear hk); (try clear hi); (try clear ho0); (try clear ho1)) | ((with_reducible refine gate_dst (N := 10) rfl ?_); (try (refine gate_guard (by rfl) ?_; dsimp only)); refine Kd.R_lit (Kd.int .i64) _ 3 ?hg (N := 10) ?hd (xs := ([1, 0] : List Int)) (inner := [.int .i64 1, .int .i64 0]) (ok := fun _ => True) (okp := fun _ => True) ?hr ?hp (fun _ hk => hk) trivial (Below.refl _ _) (Nat.le_refl _) (by simp) ?_; (case hd => rfl); (case hg => rfl); (case hr => first | (go_simp; done) | (go_simp; rfl)); (case hp => exact (Reps.one (show Kd.M (Kd.int .i64) _ _ _ 1 [.int .i64 1] from rfl) (Reps.one (show Kd.M (Kd.int .i64) _ _ _ 0 [.int .i64 0] from rfl) (Reps.none _ _)))); intro v208 w18 ho19 hb hg_ hnew_; clear hg_ hnew_; (first | rw [← Ny207.out] at ho19 | (simp only [Int.reduceToNat] at ho19; rw [← Ny207.out] at ho19)); have HO209 := aM (Kd.R_lower (Kd.R_new' (Kd.R_new' (Kd.R_new' ho19 (Kd.R_lt (pR HO199.out))) (Kd.R_lt (pR HO203.out))) (Kd.R_lt (pR HO206.out))) (below_size (qB HB))); replace HO199 := eR HO199 ho19 hb; replace HO203 := eR HO203 ho19 hb; replace HO206 := eR HO206 ho19 hb; replace HB := bS (qB HB) hb; clear hb ho19; obtain ⟨Ao20, co20, eo20⟩ := Kd.R_slice HO203.out; subst eo20; obtain ⟨Ao21, co21, eo21⟩ := Kd.R_slice HO206.out; subst eo21; obtain ⟨Ao22, co22, eo22⟩ := Kd.R_slice HO209.out; subst eo22) | ((with_reducible refine gate_callee (f := 21) rfl ?_); refine goesL_ (some 11) rfl rfl Try.func21 (by kernel_rfl) rfl #[.agg #[.int .i64 t200, .slice Ao20 t201.length co20, .slice Ao21 t204.length co21], .slice Ao22 y207.length co22] rfl pA ?_; (with_reducible refine (view_Permute.calls k t200 _ _ t201 _ _ t204 _ _ y207 t210 t211 t214 t217 _ ?s1 ?s2 ?s3 ?s4 ?s5 ?s6 A2.out).mono ?_); (case s1 => exact sR HO203); (case s2 => exact sL HO203); (case s3 => exact sR HO206); (case s4 => exact sL HO206); (case s5 => exact sR HO209); (case s6 => exact sL HO209); rintro e w23 ⟨v212, v215, rfl, ho0, ho1, hb⟩; refine ⟨_, rfl, ?_⟩; have HO213 := aM (Kd.R_lower (Kd.R_new' (Kd.R_new' (Kd.R_new' (Kd.R_new' ho0 (Kd.R_lt (pR HO199.out))) (Kd.R_lt (pR HO203.out))) (Kd.R_lt (pR HO206.out))) (Kd.R_lt (pR HO209.out))) (below_size (qB HB))); have HO216 := aM (Kd.R_lower (Kd.R_new' (Kd.R_new' (Kd.R_new' (Kd.R_new' ho1 (Kd.R_lt (pR HO199.out))) (Kd.R_lt (pR HO203.out))) (Kd.R_lt (pR HO206.out))) (Kd.R_lt (pR HO209.out))) (below_size (qB HB))); replace HO199 := eR2 HO199 ho0 ho1 hb; replace HO203 := eR2 HO203 ho0 ho1 hb; replace HO206 := eR2 HO206 ho0 ho1 hb; replace HO209 := eR2 HO209 ho0 ho1 hb; replace HB := bS (qB HB) hb; (try clear hb); (try clear hk); (try clear hi); (try clear ho0); (try clear ho1)) | ((with_reducible refine gate_dst (N := 1) rfl ?_); (try (refine gate_guard (by rfl) ?_; dsimp only)); refine box_event ?hg (N := 1) ?hd (cs := #[.int .i64 0, .slice none 0 0, .slice none 0 0]) (t := 24) ?hr ?_; (case hd => rfl); (case hg => rfl); (case hr => first | (go_simp; done) | (go_simp; rfl)); intro gb218 hg w24 hbox hb; replace HO199 := bR HO199 hb; replace HO203 := bR HO203 hb; replace HO206 := bR HO206 hb; replace HO209 := bR HO209 hb; replace HO213 := bR HO213 hb; replace HO216 := bR HO216 hb; have BK218 := aM (hbox); have GW218 := gE (w := w) hg (qB HB); have GE218 := GW218; replace HB := bS (qB HB) hb; clear hb hbox hg; obtain ⟨hcz25_0, hcz25_1, hcz25_2, hfz25_0, hfz25_1, hfz25_2⟩ := blk3 BK218.out; obtain ⟨Ao26, co26, eo26⟩ := Kd.R_slice HO213.out; subst eo26; obtain ⟨Ao27, co27, eo27⟩ := Kd.R_slice HO216.out; subst eo27) | ((with_reducible refine gate_dst (N := 15) rfl ?_); (try (refine gate_guard (by rfl) ?_; dsimp only)); refine Kd.R_lit (Kd.int .i64) _ 3 ?hg (N := 15) ?hd (xs := ([2, 3] : List Int)) (inner := [.int .i64 2, .int .i64 3]) (ok := fun _ => True) (okp := fun _ => True) ?hr ?hp (fun _ hk => hk) trivial (Below.refl _ _) (Nat.le_refl _) (by simp) ?_; (case hd => rfl); (case hg => rfl); (case hr => first | (go_simp; done) | (go_simp; rfl)); (case hp => exact (Reps.one (show Kd.M (Kd.int .i64) _ _ _ 2 [.int .i64 2] from rfl) (Reps.one (show Kd.M (Kd.int .i64) _ _ _ 3 [.int .i64 3] from rfl) (Reps.none _ _)))); intro v220 w28 ho29 hb hg_ hnew_; clear hg_ hnew_; (first | rw [← Ny219.out] at ho29 | (simp only [Int.reduceToNat] at ho29; rw [← Ny219.out] at ho29)); have HO221 := aM (Kd.R_lower (Kd.R_new' (Kd.R_new' (Kd.R_new' (Kd.R_new' (Kd.R_new' (Kd.R_new' ho29 (Kd.R_lt (by (with_reducible repeat (first | apply rA | apply rN | apply rD)); exact (F3 HO199 BK218 (fun _ h_ => h_.1))))) (Kd.R_lt (by (with_reducible repeat (first | apply rA | apply rN | apply rD)); exact (F3 HO203 BK218 (fun _ h_ => h_.1))))) (Kd.R_lt (by (with_reducible repeat (first | apply rA | apply rN | apply rD)); exact (F3 HO206 BK218 (fun _ h_ => h_.1))))) (Kd.R_lt (by (with_reducible repeat (first | apply rA | apply rN | apply rD)); exact (F3 HO209 BK218 (fun _ h_ => h_.1))))) (Kd.R_lt (by (with_reducible repeat (first | apply rA | apply rN | apply rD)); exact (F3 HO213 BK218 (fun _ h_ => h_.1))))) (Kd.R_lt (by (with_reducible repeat (first | apply rA | apply rN | apply rD)); exact (F3 HO216 BK218 (fun _ h_ => h_.1))))) (below_size (qB1 HB GE218))); replace HO199 := aM (Kd.R_elder' (by (with_reducible repeat (first | apply rA | apply rN | apply rD)); exact (F3 HO199 BK218 (fun _ h_ => h_.1))) (Kd.R_base ho29) hb); replace HO203 := aM (Kd.R_elder' (by (with_reducible repeat (first | apply rA | apply rN | apply rD)); exact (F3 HO203 BK218 (fun _ h_ => h_.1))) (Kd.R_base ho29) hb); replace HO206 := aM (Kd.R_elder' (by (with_reducible repeat (first | apply rA | apply rN | apply rD)); exact (F3 HO206 BK218 (fun _ h_ => h_.1))) (Kd.R_base ho29) hb); replace HO209 := aM (Kd.R_elder' (by (with_reducible repeat (first | apply rA | apply rN | apply rD)); exact (F3 HO209 BK218 (fun _ h_ => h_.1))) (Kd.R_base ho29) hb); replace HO213 := aM (Kd.R_elder' (by (with_reducible repeat (first | apply rA | apply rN | apply rD)); exact (F3 HO213 BK218 (fun _ h_ => h_.1))) (Kd.R_base ho29) hb); replace HO216 := aM (Kd.R_elder' (by (with_reducible repeat (first | apply rA | apply rN | apply rD)); exact (F3 HO216 BK218 (fun _ h_ => h_.1))) (Kd.R_base ho29) hb); replace BK218 := aM (blk_below (g := gb218) (o := .cells #[.int .i64 t210, .slice Ao26 t211.length co26, .slice Ao27 t214.length co27] 24 (0, 0)) (by exact P3 BK218) hb); replace HB := bS (qB1 HB GE218) hb; clear hb ho29; obtain ⟨Ao30, co30, eo30⟩ := Kd.R_slice HO221.out; subst eo30) | ((with_reducible refine gate_callee (f := 14) rfl ?_); refine goesL_ (some 16) rfl rfl Try.func14 (by kernel_rfl) rfl #[.slice Ao30 y219.length co30] rfl pA ?_; (with_reducible refine (view_Whole.calls k _ _ y219 t222 t223 t226 _ ?s1 ?s2 A3.out).mono ?_); (case s1 => exact sR HO221); (case s2 => exact sL HO221); rintro e w31 ⟨v224, v227, rfl, ho0, ho1, hb⟩; refine ⟨_, rfl, ?_⟩; have HO225 := aM (Kd.R_lower (Kd.R_new' (Kd.R_new' (Kd.R_new' (Kd.R_new' (Kd.R_new' (Kd.R_new' (Kd.R_new' ho0 (Kd.R_lt (pR HO199.out))) (Kd.R_lt (pR HO203.out))) (Kd.R_lt (pR HO206.out))) (Kd.R_lt (pR HO209.out))) (Kd.R_lt (pR HO213.out))) (Kd.R_lt (pR HO216.out))) (Kd.R_lt (pR HO221.out))) (below_size (qB1 HB GE218))); have HO228 := aM (Kd.R_lower (Kd.R_new' (Kd.R_new' (Kd.R_new' (Kd.R_new' (Kd.R_new' (Kd.R_new' (Kd.R_new' ho1 (Kd.R_lt (pR HO199.out))) (Kd.R_lt (pR HO203.out))) (Kd.R_lt (pR HO206.out))) (Kd.R_lt (pR HO209.out))) (Kd.R_lt (pR HO213.out))) (Kd.R_lt (pR HO216.out))) (Kd.R_lt (pR HO221.out))) (below_size (qB1 HB GE218))); replace HO199 := eR2 HO199 ho0 ho1 hb; replace HO203 := eR2 HO203 ho0 ho1 hb; replace HO206 := eR2 HO206 ho0 ho1 hb; replace HO209 := eR2 HO209 ho0 ho1 hb; replace HO213 := eR2 HO213 ho0 ho1 hb; replace HO216 := eR2 HO216 ho0 ho1 hb; replace HO221 := eR2 HO221 ho0 ho1 hb; replace BK218 := bK BK218 hb; replace HB := bS (qB1 HB GE218) hb; (try clear hb); (try clear hk); (try clear hi); (try clear ho0); (try clear ho1); obtain ⟨Ao32, co32, eo32⟩ := Kd.R_slice HO225.out; subst eo32; obtain ⟨Ao33, co33, eo33⟩ := Kd.R_slice HO228.out; subst eo33) | ((with_reducible refine gate_callee (f := 37) rfl ?_); refine goesL_ (some 17) rfl rfl Try.func37 (by kernel_rfl) rfl #[.agg #[.int .i64 t222, .slice Ao32 t223.length co32, .slice Ao33 t226.length co33], .int .i64 1, .int .i64 2, .int .i64 2, .int .i64 (-2)] rfl pA ?_; (with_reducible refine (view_Slice.calls k t222 _ _ t223 _ _ t226 1 2 2 (-2) t229 t230 t233 t236 _ ?s1 ?s2 ?s3 ?s4 A4.out).mono ?_); (case s1 => exact sR HO225); (case s2 => exact sL HO225); (case s3 => exact sR HO228); (case s4 => exact sL HO228); rintro e w34 ⟨v231, v234, rfl, ho0, ho1, hb⟩; refine ⟨_, rfl, ?_⟩; have HO232 := aM (Kd.R_lower (Kd.R_new' (Kd.R_new' (Kd.R_new' (Kd.R_new' (Kd.R_new' (Kd.R_new' (Kd.R_new' (Kd.R_new' (Kd.R_new' ho0 (Kd.R_lt (pR HO199.out))) (Kd.R_lt (pR HO203.out))) (Kd.R_lt (pR HO206.out))) (Kd.R_lt (pR HO209.out))) (Kd.R_lt (pR HO213.out))) (Kd.R_lt (pR HO216.out))) (Kd.R_lt (pR HO221.out))) (Kd.R_lt (pR HO225.out))) (Kd.R_lt (pR HO228.out))) (below_size (qB1 HB GE218))); have HO235 := aM (Kd.R_lower (Kd.R_new' (Kd.R_new' (Kd.R_new' (Kd.R_new' (Kd.R_new' (Kd.R_new' (Kd.R_new' (Kd.R_new' (Kd.R_new' ho1 (Kd.R_lt (pR HO199.out))) (Kd.R_lt (pR HO203.out))) (Kd.R_lt (pR HO206.out))) (Kd.R_lt (pR HO209.out))) (Kd.R_lt (pR HO213.out))) (Kd.R_lt (pR HO216.out))) (Kd.R_lt (pR HO221.out))) (Kd.R_lt (pR HO225.out))) (Kd.R_lt (pR HO228.out))) (below_size (qB1 HB GE218))); replace HO199 := eR2 HO199 ho0 ho1 hb; replace HO203 := eR2 HO203 ho0 ho1 hb; replace HO206 := eR2 HO206 ho0 ho1 hb; replace HO209 := eR2 HO209 ho0 ho1 hb; replace HO213 := eR2 HO213 ho0 ho1 hb; replace HO216 := eR2 HO216 ho0 ho1 hb; replace HO221 := eR2 HO221 ho0 ho1 hb; replace HO225 := eR2 HO225 ho0 ho1 hb; replace HO228 := eR2 HO228 ho0 ho1 hb; replace BK218 := bK BK218 hb; replace HB := bS (qB1 HB GE218) hb; (try clear hb); (try clear hk); (try clear hi); (try clear ho0); (try clear ho1)) | ((with_reducible refine gate_dst (N := 3) rfl ?_); (try (refine gate_guard (by rfl) ?_; dsimp only)); refine box_event ?hg (N := 3) ?hd (cs := #[.int .i64 0, .slice none 0 0, .slice none 0 0]) (t := 24) ?hr ?_; (case hd => rfl); (case hg => rfl); (case hr => first | (go_simp; done) | (go_simp; rfl)); intro gb237 hg w35 hbox hb; replace HO199 := bR HO199 hb; replace HO203 := bR HO203 hb; replace HO206 := bR HO206 hb; replace HO209 := bR HO209 hb; replace HO213 := bR HO213 hb; replace HO216 := bR HO216 hb; replace HO221 := bR HO221 hb; replace HO225 := bR HO225 hb; replace HO228 := bR HO228 hb; replace HO232 := bR HO232 hb; replace HO235 := bR HO235 hb; have BK237 := aM (hbox); have GW237 := gE (w := w) hg (qB1 HB GE218); have GE237 := GW237; replace HB := bS (qB1 HB GE218) hb; have NB218_237 := nL hg BK218; have NB237_218 := nG hg BK218; replace BK218 := bK BK218 hb; clear hb hbox hg; have hnb36 := NB237_218.out; have hnc36 := NB218_237.out; obtain ⟨hcz37_0, hcz37_1, hcz37_2, hfz37_0, hfz37_1, hfz37_2⟩ := blk3 BK237.out; obtain ⟨Ao38, co38, eo38⟩ := Kd.R_slice HO232.out; subst eo38; obtain ⟨Ao39, co39, eo39⟩ := Kd.R_slice HO235.out; subst eo39) | ((with_reducible refine gate_callee (f := 11) rfl ?_); refine goesL_ (some 22) rfl rfl Try.func11 (by kernel_rfl) rfl #[.agg #[.int .i64 t229, .slice Ao38 t230.length co38, .slice Ao39 t233.length co39], .int .i64 3] rfl pA ?_; (with_reducible refine (view_At.calls k t229 _ _ t230 _ _ t233 3 t238 t239 _ ?s1 ?s2 ?s3 ?s4 A5.out).mono ?_); (case s1 => refine (Kd.R_reads' (e := 3) (base := w.heap.size) (ok := fun k_ => (((((((((some k_ ≠ (.slice Ao39 t233.length co39 : Value).ownBlock ∧ some k_ ≠ (.slice Ao16 y197.length co16 : Value).ownBlock) ∧ some k_ ≠ (.slice Ao20 t201.length co20 : Value).ownBlock) ∧ some k_ ≠ (.slice Ao21 t204.length co21 : Value).ownBlock) ∧ some k_ ≠ (.slice Ao22 y207.length co22 : Value).ownBlock) ∧ some k_ ≠ (.slice Ao26 t211.length co26 : Value).ownBlock) ∧ some k_ ≠ (.slice Ao27 t214.length co27 : Value).ownBlock) ∧ some k_ ≠ (.slice Ao30 y219.length co30 : Value).ownBlock) ∧ some k_ ≠ (.slice Ao32 t223.length co32 : Value).ownBlock) ∧ some k_ ≠ (.slice Ao33 t226.length co33 : Value).ownBlock)) (n := t230.length) (c := co38) ?_).2.2; exact (by (with_reducible repeat (first | apply rA | apply rN | apply rD)); exact (F3 HO232 BK237 (fun _ h_ => h_.1)))); (case s2 => exact sL HO232); (case s3 => refine (Kd.R_reads' (e := 3) (base := w.heap.size) (ok := fun k_ => (((((((((some k_ ≠ (.slice Ao38 t230.length co38 : Value).ownBlock ∧ some k_ ≠ (.slice Ao16 y197.length co16 : Value).ownBlock) ∧ some k_ ≠ (.slice Ao20 t201.length co20 : Value).ownBlock) ∧ some k_ ≠ (.slice Ao21 t204.length co21 : Value).ownBlock) ∧ some k_ ≠ (.slice Ao22 y207.length co22 : Value).ownBlock) ∧ some k_ ≠ (.slice Ao26 t211.length co26 : Value).ownBlock) ∧ some k_ ≠ (.slice Ao27 t214.length co27 : Value).ownBlock) ∧ some k_ ≠ (.slice Ao30 y219.length co30 : Value).ownBlock) ∧ some k_ ≠ (.slice Ao32 t223.length co32 : Value).ownBlock) ∧ some k_ ≠ (.slice Ao33 t226.length co33 : Value).ownBlock)) (n := t233.length) (c := co39) ?_).2.2; exact (by (with_reducible repeat (first | apply rA | apply rN | apply rD)); exact (F3 HO235 BK237 (fun _ h_ => h_.1)))); (case s4 => exact sL HO235); rintro e w40 ⟨rfl, hb⟩; refine ⟨_, rfl, ?_⟩; replace HO199 := aM (Kd.R_below (by (with_reducible repeat (first | apply rA | apply rN | apply rD)); exact (F3 HO199 BK237 (fun _ h_ => h_.1))) hb); replace HO203 := aM (Kd.R_below (by (with_reducible repeat (first | apply rA | apply rN | apply rD)); exact (F3 HO203 BK237 (fun _ h_ => h_.1))) hb); replace HO206 := aM (Kd.R_below (by (with_reducible repeat (first | apply rA | apply rN | apply rD)); exact (F3 HO206 BK237 (fun _ h_ => h_.1))) hb); replace HO209 := aM (Kd.R_below (by (with_reducible repeat (first | apply rA | apply rN | apply rD)); exact (F3 HO209 BK237 (fun _ h_ => h_.1))) hb); replace HO213 := aM (Kd.R_below (by (with_reducible repeat (first | apply rA | apply rN | apply rD)); exact (F3 HO213 BK237 (fun _ h_ => h_.1))) hb); replace HO216 := aM (Kd.R_below (by (with_reducible repeat (first | apply rA | apply rN | apply rD)); exact (F3 HO216 BK237 (fun _ h_ => h_.1))) hb); replace HO221 := aM (Kd.R_below (by (with_reducible repeat (first | apply rA | apply rN | apply rD)); exact (F3 HO221 BK237 (fun _ h_ => h_.1))) hb); replace HO225 := aM (Kd.R_below (by (with_reducible repeat (first | apply rA | apply rN | apply rD)); exact (F3 HO225 BK237 (fun _ h_ => h_.1))) hb); replace HO228 := aM (Kd.R_below (by (with_reducible repeat (first | apply rA | apply rN | apply rD)); exact (F3 HO228 BK237 (fun _ h_ => h_.1))) hb); replace HO232 := aM (Kd.R_below (by (with_reducible repeat (first | apply rA | apply rN | apply rD)); exact (F3 HO232 BK237 (fun _ h_ => h_.1))) hb); replace HO235 := aM (Kd.R_below (by (with_reducible repeat (first | apply rA | apply rN | apply rD)); exact (F3 HO235 BK237 (fun _ h_ => h_.1))) hb); replace BK218 := aM (blk_below (g := gb218) (o := .cells #[.int .i64 t210, .slice Ao26 t211.length co26, .slice Ao27 t214.length co27] 24 (0, 0)) (by refine B3 NB218_237 ?_; exact BK218.out) hb); replace BK237 := aM (blk_below (g := gb237) (o := .cells #[.int .i64 t229, .slice Ao38 t230.length co38, .slice Ao39 t233.length co39] 24 (0, 0)) (by exact P3 BK237) hb); replace HB := bS (qB2 HB GE218 GE237) hb; (try clear hb); (try clear hk); (try clear hi); obtain ⟨hcz41_0, hcz41_1, hcz41_2, hfz41_0, hfz41_1, hfz41_2⟩ := blk3 BK218.out; have p240 : 0 ≤ (0 : Int) := (by omega); have q240 : 0 < (t214.length : Int) := of_decide_eq_true pD; obtain ⟨ad240, e240, hx240_0⟩ := Kd.at_int (Kd.R_reads' HO216.out).2.2 0 p240 q240; cases e240; have qi240 : (0 < t214.length) = True := eq_true (by omega); (try rw [show ((0 : Int)).toNat = 0 from rfl] at hx240_0); (try rw [Addr.add_zero'] at hx240_0); replace p240 := eq_true p240; replace q240 := eq_true q240; have p241 : 0 ≤ (1 : Int) := (by omega); have q241 : 1 < (t214.length : Int) := of_decide_eq_true pD; obtain ⟨ad241, e241, hx241_0⟩ := Kd.at_int (Kd.R_reads' HO216.out).2.2 1 p241 q241; obtain rfl : ad240 = ad241 := (by injection e241); (try simp only [show (1 : Int).toNat = 1 from rfl, Nat.reduceMul, Nat.reduceEqDiff, Go.Addr.add, ↓reduceIte] at hx241_0); have qi241 : (1 < t214.length) = True := eq_true (by omega); (try rw [show ((1 : Int)).toNat = 1 from rfl] at hx241_0); replace p241 := eq_true p241; replace q241 := eq_true q241))
 go_ret
 replace hv_ := hv_.out
 exact ⟨pE, qB2 HB GE218 GE237⟩
end Go.Proofs.Ytjbpekblcecneaa.Q
namespace Go.Proofs.Ytjbpekblcecneaa.Pure
open Go.RowKit Go.Proofs.Ytjbpekblcecneaa.Q Go.Proofs.YtjbpekblcecneaaW.PrintWords Go.Proofs.YtjbpekblcecneaaW.PrintLast
theorem Same22 : ∃ k, gradinelaw22_same0.f k = some true := ⟨20, by decide +kernel⟩
end Go.Proofs.Ytjbpekblcecneaa.Pure
namespace Go.Proofs.Ytjbpekblcecneaa.Q
open Go.RowKit Go.Proofs.YtjbpekblcecneaaW.PrintWords Go.Proofs.YtjbpekblcecneaaW.PrintLast Go.Proofs.YtjbpekblcecneaaW.PrintMore
attribute [local go_sem] max2_int min2_int max_two min_two max_three min_three max_four min_four   -- for this text's walks alone
set_option linter.unusedVariables false
set_option linter.unusedSimpArgs false
def gradinelaw22_same.f : Option Bool := some true
theorem gradinelaw22_same.calls (r : Bool) (w : World) (h : gradinelaw22_same.f = some r) : Calls Try.prog 9 #[] w fun e w' => e = .returned (.bool r) ∧ Below w.heap.size w w' := by
 obtain rfl := Option.some.inj h
 obtain ⟨k, hk⟩ := Pure.Same22
 exact gradinelaw22_same0.calls k w hk
def slices_Equal_int_int.l0 : Nat → List Int → List Int → Int → Int → Option (Bool)
 | 0, _, _, _, _ => none
 | k + 1, x0, x1, x12, x13 => if x13 < x12 then (if 0 ≤ x13 then (if x13 < (x0.length : Int) then (if x13 < (x1.length : Int) then (if (rd x0 x13) = (rd x1 x13) then (slices_Equal_int_int.l0 k x0 x1 x12 (wrap64 (x13 + 1))) else (some false)) else (none)) else (none)) else (none)) else (some true)
def slices_Equal_int_int.f (k : Nat) (l0 : List Int) (l1 : List Int) : Option (Bool) := if (l0.length : Int) = (l1.length : Int) then (slices_Equal_int_int.l0 k l0 l1 (l0.length : Int) 0) else (some false)
set_option maxHeartbeats 8000000 in
set_option maxRecDepth 100000 in
theorem slices_Equal_int_int.calls (k : Nat) (A0 : Option Addr) (c0 : Nat) (l0 : List Int) (A1 : Option Addr) (c1 : Nat) (l1 : List Int) (r : Bool) (w : World) (hr0 : Kd.C (Kd.int .i64) w A0 l0.length l0) (hc0 : l0.length ≤ c0) (hr1 : Kd.C (Kd.int .i64) w A1 l1.length l1) (hc1 : l1.length ≤ c1) (h : slices_Equal_int_int.f k l0 l1 = some r) :
  Calls Try.prog 71 #[.slice A0 l0.length c0, .slice A1 l1.length c1] w fun e w' => e = .returned (.bool r) ∧ Drawn0 w w' := by
 have HR0 := aM hr0
 have HC0 := aM hc0
 clear hr0 hc0
 have HR1 := aM hr1
 have HC1 := aM hc1
 clear hr1 hc1
 have H : (if (l0.length : Int) = (l1.length : Int) then (slices_Equal_int_int.l0 k l0 l1 (l0.length : Int) 0) else (some false)) = some r := h
 clear h
 by_cases c3 : (l0.length : Int) = (l1.length : Int)
 rotate_left
 ·rw [if_neg c3] at H
  have c3b0 : ((l0.length : Int) == (l1.length : Int)) = false := beq_eq_false_iff_ne.mpr c3
  have c3b1 : ((l0.length : Int) != (l1.length : Int)) = true := bne_iff_ne.mpr c3
  have c3b2 : (l0.length == l1.length) = false := by first | simpa using c3 | (simp at c3 ⊢; omega)
  obtain rfl := Option.some.inj H
  go_enter Try.func71, Try.ntmps71
  go_wp2
  repeat (go_quiet (fail); try go_wp2)
  go_ret
  exact ⟨pF, by repeat (first | exact Drawn0.refl _ | apply Drawn0.step)⟩
 rw [if_pos c3] at H
 have c3b0 : ((l0.length : Int) == (l1.length : Int)) = true := beq_iff_eq.mpr c3
 have c3b1 : ((l0.length : Int) != (l1.length : Int)) = false := bne_eq_false_iff_eq.mpr c3
 have c3b2 : (l0.length == l1.length) = true := by first | simpa using c3 | (simp at c3 ⊢; omega)
 clear c3
 have H' := aM H
 clear H
 go_enter Try.func71, Try.ntmps71
 go_wp2
 repeat (go_quiet (fail); try go_wp2)
 go_loopg [13] k (fun kq v13 w' => ∃ (x13_1 : Int), v13 = .int .i64 x13_1 ∧ Aside0 (slices_Equal_int_int.l0 kq l0 l1 (l0.length : Int) x13_1 = some r) ∧ Aside0 (kq ≤ k) ∧ Drawn0 w w')
 case atStart => exact ⟨(0), (pF), H', ⟨Nat.le_refl _⟩, by repeat (first | exact Drawn0.refl _ | apply Drawn0.step)⟩
 case round =>
  clear H'
  try clear c1
  try clear c3b0
  try clear c3b1
  try clear c3b2
  obtain ⟨x13_1, rfl, HA, HK1, ⟨m1, rfl⟩⟩ := hrel
  cases gk with
  | zero => exact absurd HA.out (by simp [slices_Equal_int_int.l0])
  | succ k1 =>
   have H := HA.out
   clear HA
   simp only [slices_Equal_int_int.l0] at H
   by_cases c4 : x13_1 < (l0.length : Int)
   rotate_left
   ·rw [if_neg c4] at H
    have c4b0 : decide (x13_1 < (l0.length : Int)) = false := decide_eq_false c4
    clear c4
    obtain rfl := Option.some.inj H
    go_wp2
    repeat (go_quiet (fail); try go_wp2)
    go_ret
    exact ⟨pF, by repeat (first | exact Drawn0.refl _ | apply Drawn0.step)⟩
   rw [if_pos c4] at H
   have c4b0 : decide (x13_1 < (l0.length : Int)) = true := decide_eq_true c4
   clear c4
   by_cases c5 : 0 ≤ x13_1
   rotate_left
   ·rw [if_neg c5] at H
    exact absurd H (by simp)
   rw [if_pos c5] at H
   have c5b0 : decide (0 ≤ x13_1) = true := decide_eq_true c5
   clear c5
   by_cases c6 : x13_1 < (l0.length : Int)
   rotate_left
   ·rw [if_neg c6] at H
    exact absurd H (by simp)
   rw [if_pos c6] at H
   have c6b0 : decide (x13_1 < (l0.length : Int)) = true := decide_eq_true c6
   clear c6
   by_cases c7 : x13_1 < (l1.length : Int)
   rotate_left
   ·rw [if_neg c7] at H
    exact absurd H (by simp)
   rw [if_pos c7] at H
   have c7b0 : decide (x13_1 < (l1.length : Int)) = true := decide_eq_true c7
   clear c7
   by_cases c8 : (rd l0 x13_1) = (rd l1 x13_1)
   rotate_left
   ·rw [if_neg c8] at H
    have c8b0 : ((rd l0 x13_1) == (rd l1 x13_1)) = false := beq_eq_false_iff_ne.mpr c8
    have c8b1 : ((rd l0 x13_1) != (rd l1 x13_1)) = true := bne_iff_ne.mpr c8
    obtain rfl := Option.some.inj H
    have p430 : 0 ≤ (x13_1 : Int) := of_decide_eq_true pD
    have q430 : x13_1 < (l0.length : Int) := of_decide_eq_true pD
    obtain ⟨ad430, e430, hx430_0⟩ := Kd.at_int HR0.out x13_1 p430 q430
    cases e430
    replace p430 := eq_true p430
    replace q430 := eq_true q430
    have p431 : 0 ≤ (x13_1 : Int) := of_decide_eq_true pD
    have q431 : x13_1 < (l1.length : Int) := of_decide_eq_true pD
    obtain ⟨ad431, e431, hx431_0⟩ := Kd.at_int HR1.out x13_1 p431 q431
    cases e431
    replace p431 := eq_true p431
    replace q431 := eq_true q431
    go_wp2
    repeat (go_quiet (fail); try go_wp2)
    go_ret
    exact ⟨pF, by repeat (first | exact Drawn0.refl _ | apply Drawn0.step)⟩
   rw [if_pos c8] at H
   have c8b0 : ((rd l0 x13_1) == (rd l1 x13_1)) = true := beq_iff_eq.mpr c8
   have c8b1 : ((rd l0 x13_1) != (rd l1 x13_1)) = false := bne_eq_false_iff_eq.mpr c8
   clear c8
   have H' := aM H
   clear H
   have p430 : 0 ≤ (x13_1 : Int) := of_decide_eq_true pD
   have q430 : x13_1 < (l0.length : Int) := of_decide_eq_true pD
   obtain ⟨ad430, e430, hx430_0⟩ := Kd.at_int HR0.out x13_1 p430 q430
   cases e430
   replace p430 := eq_true p430
   replace q430 := eq_true q430
   have p431 : 0 ≤ (x13_1 : Int) := of_decide_eq_true pD
   have q431 : x13_1 < (l1.length : Int) := of_decide_eq_true pD
   obtain ⟨ad431, e431, hx431_0⟩ := Kd.at_int HR1.out x13_1 p431 q431
   cases e431
   replace p431 := eq_true p431
   replace q431 := eq_true q431
   go_wp2
   repeat (go_quiet (fail); try go_wp2)
   go_roundg k1
   case measure => have := HK1.out; omega
   case rel => exact ⟨(wrap64 (x13_1 + 1)), (pF), H', ⟨by have := HK1.out; omega⟩, by repeat (first | exact Drawn0.refl _ | apply Drawn0.step)⟩
end Go.Proofs.Ytjbpekblcecneaa.Q
