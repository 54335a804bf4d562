/- Texts of the proof of TensorActs, part 0: what functions of the program compute, and that they compute it. -/
import Derived.Test.YtmhikecbajkonaaWordsMore
import Derived.Test.YtmhikecbajkonaaProg
import Derived.Below
import Derived.Deep.Draws
import Derived.Deep.AppendLies
import Derived.Maps.AppendAt
import Derived.OwnWalk
import Derived.Laws.BytesArg
import Derived.Laws.MakeOwn
import Derived.Laws.OwnMore
import Derived.Deep.OwnRows
import Derived.Tactics
import Derived.Lib.ConvBytes
import Derived.Laws.Slices
import Derived.WalkKit
import Derived.KernelRfl
import Derived.RowKit3
import Derived.Deep.LoopGhost
import Derived.Deep.QuietTactic
import Derived.BigQuiet
import Derived.WideLaws
import Derived.Deep.DeepCutAuto
import Derived.Deep.CutBlock
import Derived.Deep.RegionHeld3
import Derived.Laws.Rows
import Derived.Lib.AppendStr
import Derived.ArgAppend
import Derived.Laws.IdiomCopy
import Derived.OrdersHeld
import Derived.Laws.BitsLemmas
import Derived.RowKit
import Derived.WalkMore
namespace Gr
/-- The product of some numbers. -/
def prod : List Int → Int
  | [] => 1
  | x :: l => x * prod l
/-- What is wrong with dims (0: nothing). -/
def chk (d : List Int) : Int :=
  if 6 < d.length then 9 else if d.any (fun x => decide (x < 1)) then 8 else if 64 < prod d then 12 else 0
theorem prod_append (a b : List Int) : prod (a ++ b) = prod a * prod b := by
  induction a with
  | nil => simp [prod]
  | cons x a ih => simp [prod, ih, Int.mul_assoc]
theorem prod_pos (l : List Int) (h : ∀ x ∈ l, 1 ≤ x) : 1 ≤ prod l := by
  induction l with
  | nil => simp [prod]
  | cons x l ih =>
    have h1 := h x (by simp)
    have h2 := ih (fun y hy => h y (by simp [hy]))
    have h3 : 0 < x * prod l := Int.mul_pos (by omega) (by omega)
    simp only [prod]
    omega
theorem prod_take_succ (l : List Int) (k : Nat) (h : k < l.length) : prod (l.take (k + 1)) = prod (l.take k) * l[k] := by
  rw [List.take_succ_eq_append_getElem h, prod_append]
  simp [prod]
theorem prod_take_le (l : List Int) (h : ∀ x ∈ l, 1 ≤ x) (k : Nat) : prod (l.take k) ≤ prod l := by
  have e : prod l = prod (l.take k) * prod (l.drop k) := by
    rw [← prod_append, List.take_append_drop]
  have h1 := prod_pos (l.take k) (fun x hx => h x (List.mem_of_mem_take hx))
  have h2 := prod_pos (l.drop k) (fun x hx => h x (List.mem_of_mem_drop hx))
  rw [e]
  have h3 : prod (l.take k) * 1 ≤ prod (l.take k) * prod (l.drop k) := Int.mul_le_mul_of_nonneg_left h2 (by omega)
  omega
/-- The least cell, the greatest one, is there any: of how often each is one. -/
def spn : List Int → Int → Int → Int → Bool → Int × Int × Bool
  | [], _, lo, hi, sm => (lo, hi, sm)
  | x :: l, i, lo, hi, sm => if x = 0 then spn l (i + 1) lo hi sm else spn l (i + 1) (if sm = true then lo else i) i true
end Gr
namespace Go.Proofs.Ytmhikecbajkonaa.Q
open Go.RowKit Go.Proofs.YtmhikecbajkonaaW.PrintWords Go.Proofs.YtmhikecbajkonaaW.PrintLast Go.Proofs.YtmhikecbajkonaaW.PrintMore
attribute [local go_sem] max2_int min2_int max_two min_two max_three min_three max_four min_four   -- for this text's walks alone
set_option linter.unusedVariables false
set_option linter.unusedSimpArgs false
def errW : Option Int → Value
  | none => .nilIface
  | some c => .iface 0 (.int .i64 c)
theorem errW_none : errW none = .nilIface := rfl
theorem errW_some (c : Int) : errW (some c) = .iface 0 (.int .i64 c) := rfl
theorem info3 : (Try.prog.info? 3).map (fun i => (i.zero, i.size, i.bytes)) = some (some (.int .i64 0), 1, 8) := by kernel_rfl
theorem info22 : (Try.prog.info? 22).map (fun i => (i.zero, i.size, i.bytes)) = some (some (.slice none 0 0), 1, 24) := by kernel_rfl
theorem info61 : (Try.prog.info? 61).map (fun i => (i.zero, i.size, i.bytes)) = some (some (.int .u64 0), 1, 8) := by kernel_rfl
theorem info80 : (Try.prog.info? 80).map (fun i => (i.zero, i.size, i.bytes)) = some (some (.agg #[(.bool false), (.slice none 0 0), (.slice none 0 0), (.int .u64 0), (.int .i64 0)]), 5, 72) := by kernel_rfl
-- the values' own types
def rd_L2 (xs : List (List Int)) (i : Int) : (List Int) := xs.getD i.toNat ([] : List Int)
theorem at_L2 {w : World} {A : Option Addr} {n : Nat} {xs : List (List Int)} (h : Kd.C (Kd.slice 61 (Kd.int .u64)) w A n xs) (i : Int) (h0 : 0 ≤ i) (h1 : i < n) : ∃ ad A0 c0, A = some ad ∧ w.cell? (ad.add i.toNat) = some (.slice A0 (rd_L2 xs i).length c0) ∧ (rd_L2 xs i).length ≤ c0 ∧ (Kd.int .u64).C w A0 (rd_L2 xs i).length (rd_L2 xs i) := by
  obtain ⟨ad, c, e, _, hK, hc0⟩ := Kd.C_get h ([] : List Int) i h0 h1
  have hc : ∀ j u, c[j]? = some u → w.cell? (ad.add (i.toNat * 1 + j)) = some u := hc0
  obtain ⟨A0, c0, rfl, l0, g0⟩ := hK
  exact ⟨ad, A0, c0, e, by have hq := hc 0 _ rfl; rwa [Nat.mul_one, Nat.add_zero] at hq, l0, g0⟩
/-! #### struct type 78 -/
structure S78 where
  f0 : Bool
  f1 : (List Int)
  f2 : (List Int)
def z78 : S78 := ⟨false, ([] : List Int), ([] : List Int)⟩
def k78 : Kd S78 := Kd.iso (Kd.pair Kd.bool (Kd.pair (Kd.slice 61 (Kd.int .u64)) (Kd.slice 61 (Kd.int .u64)))) (fun x : S78 => (x.f0, x.f1, x.f2))
theorem k78_open {w : World} {x : S78} {cs : List Value} (h : k78.K w x cs) : ∃ A1 c1 A2 c2, cs = [.bool x.f0, .slice A1 x.f1.length c1, .slice A2 x.f2.length c2] ∧ x.f1.length ≤ c1 ∧ (Kd.int .u64).C w A1 x.f1.length x.f1 ∧ x.f2.length ≤ c2 ∧ (Kd.int .u64).C w A2 x.f2.length x.f2 := by
  obtain ⟨_, _, rfl, rfl, ⟨_, _, rfl, ⟨A1, c1, rfl, l1, g1⟩, ⟨A2, c2, rfl, l2, g2⟩⟩⟩ := h
  exact ⟨A1, c1, A2, c2, rfl, l1, g1, l2, g2⟩
theorem k78_openM {w : World} {base : Nat} {ok : Nat → Prop} {x : S78} {cs : List Value} (h : k78.M w base ok x cs) : ∃ v1 v2, cs = [.bool x.f0, v1, v2] ∧ (Kd.int .u64).R 61 w base ok v1 x.f1 ∧ (Kd.int .u64).R 61 w base ok v2 x.f2 := by
  obtain ⟨_, _, rfl, rfl, ⟨_, _, rfl, ⟨v1, rfl, g1⟩, ⟨v2, rfl, g2⟩⟩⟩ := h
  exact ⟨v1, v2, rfl, g1, g2⟩
theorem k78_mk (w : World) (x : S78) {A1 : Option Addr} {c1 : Nat} (l1 : x.f1.length ≤ c1) (g1 : (Kd.int .u64).C w A1 x.f1.length x.f1) {A2 : Option Addr} {c2 : Nat} (l2 : x.f2.length ≤ c2) (g2 : (Kd.int .u64).C w A2 x.f2.length x.f2) : k78.K w x [.bool x.f0, .slice A1 x.f1.length c1, .slice A2 x.f2.length c2] := ⟨[.bool x.f0], [.slice A1 x.f1.length c1, .slice A2 x.f2.length c2], rfl, rfl, ⟨[.slice A1 x.f1.length c1], [.slice A2 x.f2.length c2], rfl, ⟨A1, c1, rfl, l1, g1⟩, ⟨A2, c2, rfl, l2, g2⟩⟩⟩
theorem k78_mkM (w : World) (base : Nat) (ok : Nat → Prop) (x : S78) {v1 : Value} (g1 : (Kd.int .u64).R 61 w base ok v1 x.f1) {v2 : Value} (g2 : (Kd.int .u64).R 61 w base ok v2 x.f2) : k78.M w base ok x [.bool x.f0, v1, v2] := ⟨[.bool x.f0], [v1, v2], rfl, rfl, ⟨[v1], [v2], rfl, ⟨v1, rfl, g1⟩, ⟨v2, rfl, g2⟩⟩⟩
theorem k78_openF {W : World} {ok : Nat → Prop} {x : S78} {cs : List Value} (h : Kd.FK k78 W ok x cs) : ∃ A1 c1 A2 c2, cs = [.bool x.f0, .slice A1 x.f1.length c1, .slice A2 x.f2.length c2] ∧ x.f1.length ≤ c1 ∧ Kd.F (Kd.int .u64) W ok A1 x.f1.length x.f1 ∧ x.f2.length ≤ c2 ∧ Kd.F (Kd.int .u64) W ok A2 x.f2.length x.f2 := by
  obtain ⟨A1, c1, A2, c2, rfl, l1, _, l2, _⟩ := k78_open (Kd.FK_now h)
  exact ⟨A1, c1, A2, c2, rfl, l1, (fun W' hW => by obtain ⟨A1_, c1_, A2_, c2_, he, l1_, g1_, l2_, g2_⟩ := k78_open (h W' hW); injection (Option.some.inj (show some (Value.slice A1 x.f1.length c1) = some (Value.slice A1_ x.f1.length c1_) from congrArg (fun l => l[1]?) he)) with ha_ _ _; rw [ha_]; exact g1_), l2, (fun W' hW => by obtain ⟨A1_, c1_, A2_, c2_, he, l1_, g1_, l2_, g2_⟩ := k78_open (h W' hW); injection (Option.some.inj (show some (Value.slice A2 x.f2.length c2) = some (Value.slice A2_ x.f2.length c2_) from congrArg (fun l => l[2]?) he)) with ha_ _ _; rw [ha_]; exact g2_)⟩
theorem k78_mkF (W : World) (ok : Nat → Prop) (x : S78) {A1 : Option Addr} {c1 : Nat} (l1 : x.f1.length ≤ c1) (g1 : Kd.F (Kd.int .u64) W ok A1 x.f1.length x.f1) {A2 : Option Addr} {c2 : Nat} (l2 : x.f2.length ≤ c2) (g2 : Kd.F (Kd.int .u64) W ok A2 x.f2.length x.f2) : Kd.FK k78 W ok x [.bool x.f0, .slice A1 x.f1.length c1, .slice A2 x.f2.length c2] := fun W2 hW => k78_mk W2 x l1 (g1 W2 hW) l2 (g2 W2 hW)
def rd_T78 (xs : List S78) (i : Int) : S78 := xs.getD i.toNat z78
theorem at_T78 {w : World} {A : Option Addr} {n : Nat} {xs : List S78} (h : Kd.C k78 w A n xs) (i : Int) (h0 : 0 ≤ i) (h1 : i < n) : ∃ ad A1 c1 A2 c2, A = some ad ∧ w.cell? (ad.add (i.toNat * 3)) = some (.bool (rd_T78 xs i).f0) ∧ w.cell? ⟨(ad.add (i.toNat * 3)).block, (ad.add (i.toNat * 3)).off + 1, none⟩ = some (.slice A1 (rd_T78 xs i).f1.length c1) ∧ w.cell? ⟨(ad.add (i.toNat * 3)).block, (ad.add (i.toNat * 3)).off + 2, none⟩ = some (.slice A2 (rd_T78 xs i).f2.length c2) ∧ (rd_T78 xs i).f1.length ≤ c1 ∧ (Kd.int .u64).C w A1 (rd_T78 xs i).f1.length (rd_T78 xs i).f1 ∧ (rd_T78 xs i).f2.length ≤ c2 ∧ (Kd.int .u64).C w A2 (rd_T78 xs i).f2.length (rd_T78 xs i).f2 := by
  obtain ⟨ad, c, e, _, hK, hc0⟩ := Kd.C_get h z78 i h0 h1
  have hc : ∀ j u, c[j]? = some u → w.cell? (ad.add (i.toNat * 3 + j)) = some u := hc0
  obtain ⟨A1, c1, A2, c2, rfl, l1, g1, l2, g2⟩ := k78_open hK
  exact ⟨ad, A1, c1, A2, c2, e, hc 0 _ rfl, by rw [← add_field _ _ 1 (by omega)]; exact hc 1 _ rfl, by rw [← add_field _ _ 2 (by omega)]; exact hc 2 _ rfl, l1, g1, l2, g2⟩
/-! #### struct type 80 -/
structure S80 where
  f0 : S78
  f1 : Int
  f2 : Int
def z80 : S80 := ⟨z78, (0 : Int), (0 : Int)⟩
def k80 : Kd S80 := Kd.iso (Kd.pair k78 (Kd.pair (Kd.int .u64) (Kd.int .i64))) (fun x : S80 => (x.f0, x.f1, x.f2))
theorem k80_open {w : World} {x : S80} {cs : List Value} (h : k80.K w x cs) : ∃ A1 c1 A2 c2, cs = [.bool x.f0.f0, .slice A1 x.f0.f1.length c1, .slice A2 x.f0.f2.length c2, .int .u64 x.f1, .int .i64 x.f2] ∧ x.f0.f1.length ≤ c1 ∧ (Kd.int .u64).C w A1 x.f0.f1.length x.f0.f1 ∧ x.f0.f2.length ≤ c2 ∧ (Kd.int .u64).C w A2 x.f0.f2.length x.f0.f2 := by
  obtain ⟨_, _, rfl, s0, ⟨_, _, rfl, rfl, rfl⟩⟩ := h
  obtain ⟨A1, c1, A2, c2, rfl, l1, g1, l2, g2⟩ := k78_open s0
  exact ⟨A1, c1, A2, c2, rfl, l1, g1, l2, g2⟩
theorem k80_openM {w : World} {base : Nat} {ok : Nat → Prop} {x : S80} {cs : List Value} (h : k80.M w base ok x cs) : ∃ v1 v2, cs = [.bool x.f0.f0, v1, v2, .int .u64 x.f1, .int .i64 x.f2] ∧ (Kd.int .u64).R 61 w base ok v1 x.f0.f1 ∧ (Kd.int .u64).R 61 w base ok v2 x.f0.f2 := by
  obtain ⟨_, _, rfl, s0, ⟨_, _, rfl, rfl, rfl⟩⟩ := h
  obtain ⟨v1, v2, rfl, g1, g2⟩ := k78_openM s0
  exact ⟨v1, v2, rfl, g1, g2⟩
theorem k80_mk (w : World) (x : S80) {A1 : Option Addr} {c1 : Nat} (l1 : x.f0.f1.length ≤ c1) (g1 : (Kd.int .u64).C w A1 x.f0.f1.length x.f0.f1) {A2 : Option Addr} {c2 : Nat} (l2 : x.f0.f2.length ≤ c2) (g2 : (Kd.int .u64).C w A2 x.f0.f2.length x.f0.f2) : k80.K w x [.bool x.f0.f0, .slice A1 x.f0.f1.length c1, .slice A2 x.f0.f2.length c2, .int .u64 x.f1, .int .i64 x.f2] := ⟨[.bool x.f0.f0, .slice A1 x.f0.f1.length c1, .slice A2 x.f0.f2.length c2], [.int .u64 x.f1, .int .i64 x.f2], rfl, (k78_mk w x.f0 l1 g1 l2 g2), ⟨[.int .u64 x.f1], [.int .i64 x.f2], rfl, rfl, rfl⟩⟩
theorem k80_mkM (w : World) (base : Nat) (ok : Nat → Prop) (x : S80) {v1 : Value} (g1 : (Kd.int .u64).R 61 w base ok v1 x.f0.f1) {v2 : Value} (g2 : (Kd.int .u64).R 61 w base ok v2 x.f0.f2) : k80.M w base ok x [.bool x.f0.f0, v1, v2, .int .u64 x.f1, .int .i64 x.f2] := ⟨[.bool x.f0.f0, v1, v2], [.int .u64 x.f1, .int .i64 x.f2], rfl, (k78_mkM w base ok x.f0 g1 g2), ⟨[.int .u64 x.f1], [.int .i64 x.f2], rfl, rfl, rfl⟩⟩
theorem k80_openF {W : World} {ok : Nat → Prop} {x : S80} {cs : List Value} (h : Kd.FK k80 W ok x cs) : ∃ A1 c1 A2 c2, cs = [.bool x.f0.f0, .slice A1 x.f0.f1.length c1, .slice A2 x.f0.f2.length c2, .int .u64 x.f1, .int .i64 x.f2] ∧ x.f0.f1.length ≤ c1 ∧ Kd.F (Kd.int .u64) W ok A1 x.f0.f1.length x.f0.f1 ∧ x.f0.f2.length ≤ c2 ∧ Kd.F (Kd.int .u64) W ok A2 x.f0.f2.length x.f0.f2 := by
  obtain ⟨A1, c1, A2, c2, rfl, l1, _, l2, _⟩ := k80_open (Kd.FK_now h)
  exact ⟨A1, c1, A2, c2, rfl, l1, (fun W' hW => by obtain ⟨A1_, c1_, A2_, c2_, he, l1_, g1_, l2_, g2_⟩ := k80_open (h W' hW); injection (Option.some.inj (show some (Value.slice A1 x.f0.f1.length c1) = some (Value.slice A1_ x.f0.f1.length c1_) from congrArg (fun l => l[1]?) he)) with ha_ _ _; rw [ha_]; exact g1_), l2, (fun W' hW => by obtain ⟨A1_, c1_, A2_, c2_, he, l1_, g1_, l2_, g2_⟩ := k80_open (h W' hW); injection (Option.some.inj (show some (Value.slice A2 x.f0.f2.length c2) = some (Value.slice A2_ x.f0.f2.length c2_) from congrArg (fun l => l[2]?) he)) with ha_ _ _; rw [ha_]; exact g2_)⟩
theorem k80_mkF (W : World) (ok : Nat → Prop) (x : S80) {A1 : Option Addr} {c1 : Nat} (l1 : x.f0.f1.length ≤ c1) (g1 : Kd.F (Kd.int .u64) W ok A1 x.f0.f1.length x.f0.f1) {A2 : Option Addr} {c2 : Nat} (l2 : x.f0.f2.length ≤ c2) (g2 : Kd.F (Kd.int .u64) W ok A2 x.f0.f2.length x.f0.f2) : Kd.FK k80 W ok x [.bool x.f0.f0, .slice A1 x.f0.f1.length c1, .slice A2 x.f0.f2.length c2, .int .u64 x.f1, .int .i64 x.f2] := fun W2 hW => k80_mk W2 x l1 (g1 W2 hW) l2 (g2 W2 hW)
def rd_T80 (xs : List S80) (i : Int) : S80 := xs.getD i.toNat z80
theorem at_T80 {w : World} {A : Option Addr} {n : Nat} {xs : List S80} (h : Kd.C k80 w A n xs) (i : Int) (h0 : 0 ≤ i) (h1 : i < n) : ∃ ad A1 c1 A2 c2, A = some ad ∧ w.cell? (ad.add (i.toNat * 5)) = some (.bool (rd_T80 xs i).f0.f0) ∧ w.cell? ⟨(ad.add (i.toNat * 5)).block, (ad.add (i.toNat * 5)).off + 1, none⟩ = some (.slice A1 (rd_T80 xs i).f0.f1.length c1) ∧ w.cell? ⟨(ad.add (i.toNat * 5)).block, (ad.add (i.toNat * 5)).off + 2, none⟩ = some (.slice A2 (rd_T80 xs i).f0.f2.length c2) ∧ w.cell? ⟨(ad.add (i.toNat * 5)).block, (ad.add (i.toNat * 5)).off + 3, none⟩ = some (.int .u64 (rd_T80 xs i).f1) ∧ w.cell? ⟨(ad.add (i.toNat * 5)).block, (ad.add (i.toNat * 5)).off + 4, none⟩ = some (.int .i64 (rd_T80 xs i).f2) ∧ (rd_T80 xs i).f0.f1.length ≤ c1 ∧ (Kd.int .u64).C w A1 (rd_T80 xs i).f0.f1.length (rd_T80 xs i).f0.f1 ∧ (rd_T80 xs i).f0.f2.length ≤ c2 ∧ (Kd.int .u64).C w A2 (rd_T80 xs i).f0.f2.length (rd_T80 xs i).f0.f2 := by
  obtain ⟨ad, c, e, _, hK, hc0⟩ := Kd.C_get h z80 i h0 h1
  have hc : ∀ j u, c[j]? = some u → w.cell? (ad.add (i.toNat * 5 + j)) = some u := hc0
  obtain ⟨A1, c1, A2, c2, rfl, l1, g1, l2, g2⟩ := k80_open hK
  exact ⟨ad, A1, c1, A2, c2, e, hc 0 _ rfl, by rw [← add_field _ _ 1 (by omega)]; exact hc 1 _ rfl, by rw [← add_field _ _ 2 (by omega)]; exact hc 2 _ rfl, by rw [← add_field _ _ 3 (by omega)]; exact hc 3 _ rfl, by rw [← add_field _ _ 4 (by omega)]; exact hc 4 _ rfl, l1, g1, l2, g2⟩
def rd_L6 (xs : List (List Int)) (i : Int) : (List Int) := xs.getD i.toNat ([] : List Int)
theorem at_L6 {w : World} {A : Option Addr} {n : Nat} {xs : List (List Int)} (h : Kd.C (Kd.slice 3 (Kd.int .i64)) w A n xs) (i : Int) (h0 : 0 ≤ i) (h1 : i < n) : ∃ ad A0 c0, A = some ad ∧ w.cell? (ad.add i.toNat) = some (.slice A0 (rd_L6 xs i).length c0) ∧ (rd_L6 xs i).length ≤ c0 ∧ (Kd.int .i64).C w A0 (rd_L6 xs i).length (rd_L6 xs i) := by
  obtain ⟨ad, c, e, _, hK, hc0⟩ := Kd.C_get h ([] : List Int) i h0 h1
  have hc : ∀ j u, c[j]? = some u → w.cell? (ad.add (i.toNat * 1 + j)) = some u := hc0
  obtain ⟨A0, c0, rfl, l0, g0⟩ := hK
  exact ⟨ad, A0, c0, e, by have hq := hc 0 _ rfl; rwa [Nat.mul_one, Nat.add_zero] at hq, l0, g0⟩
def rd_L7 (xs : List (List S80)) (i : Int) : (List S80) := xs.getD i.toNat ([] : List S80)
theorem at_L7 {w : World} {A : Option Addr} {n : Nat} {xs : List (List S80)} (h : Kd.C (Kd.slice 80 k80) w A n xs) (i : Int) (h0 : 0 ≤ i) (h1 : i < n) : ∃ ad A0 c0, A = some ad ∧ w.cell? (ad.add i.toNat) = some (.slice A0 (rd_L7 xs i).length c0) ∧ (rd_L7 xs i).length ≤ c0 ∧ k80.C w A0 (rd_L7 xs i).length (rd_L7 xs i) := by
  obtain ⟨ad, c, e, _, hK, hc0⟩ := Kd.C_get h ([] : List S80) i h0 h1
  have hc : ∀ j u, c[j]? = some u → w.cell? (ad.add (i.toNat * 1 + j)) = some u := hc0
  obtain ⟨A0, c0, rfl, l0, g0⟩ := hK
  exact ⟨ad, A0, c0, e, by have hq := hc 0 _ rfl; rwa [Nat.mul_one, Nat.add_zero] at hq, l0, g0⟩
/-! #### struct type 25 -/
structure S25 where
  f0 : (List Int)
  f1 : (List S80)
def z25 : S25 := ⟨([] : List Int), ([] : List S80)⟩
def k25 : Kd S25 := Kd.iso (Kd.pair (Kd.slice 3 (Kd.int .i64)) (Kd.slice 80 k80)) (fun x : S25 => (x.f0, x.f1))
theorem k25_open {w : World} {x : S25} {cs : List Value} (h : k25.K w x cs) : ∃ A0 c0 A1 c1, cs = [.slice A0 x.f0.length c0, .slice A1 x.f1.length c1] ∧ x.f0.length ≤ c0 ∧ (Kd.int .i64).C w A0 x.f0.length x.f0 ∧ x.f1.length ≤ c1 ∧ k80.C w A1 x.f1.length x.f1 := by
  obtain ⟨_, _, rfl, ⟨A0, c0, rfl, l0, g0⟩, ⟨A1, c1, rfl, l1, g1⟩⟩ := h
  exact ⟨A0, c0, A1, c1, rfl, l0, g0, l1, g1⟩
theorem k25_openM {w : World} {base : Nat} {ok : Nat → Prop} {x : S25} {cs : List Value} (h : k25.M w base ok x cs) : ∃ v0 v1, cs = [v0, v1] ∧ (Kd.int .i64).R 3 w base ok v0 x.f0 ∧ k80.R 80 w base ok v1 x.f1 := by
  obtain ⟨_, _, rfl, ⟨v0, rfl, g0⟩, ⟨v1, rfl, g1⟩⟩ := h
  exact ⟨v0, v1, rfl, g0, g1⟩
theorem k25_mk (w : World) (x : S25) {A0 : Option Addr} {c0 : Nat} (l0 : x.f0.length ≤ c0) (g0 : (Kd.int .i64).C w A0 x.f0.length x.f0) {A1 : Option Addr} {c1 : Nat} (l1 : x.f1.length ≤ c1) (g1 : k80.C w A1 x.f1.length x.f1) : k25.K w x [.slice A0 x.f0.length c0, .slice A1 x.f1.length c1] := ⟨[.slice A0 x.f0.length c0], [.slice A1 x.f1.length c1], rfl, ⟨A0, c0, rfl, l0, g0⟩, ⟨A1, c1, rfl, l1, g1⟩⟩
theorem k25_mkM (w : World) (base : Nat) (ok : Nat → Prop) (x : S25) {v0 : Value} (g0 : (Kd.int .i64).R 3 w base ok v0 x.f0) {v1 : Value} (g1 : k80.R 80 w base ok v1 x.f1) : k25.M w base ok x [v0, v1] := ⟨[v0], [v1], rfl, ⟨v0, rfl, g0⟩, ⟨v1, rfl, g1⟩⟩
theorem k25_openF {W : World} {ok : Nat → Prop} {x : S25} {cs : List Value} (h : Kd.FK k25 W ok x cs) : ∃ A0 c0 A1 c1, cs = [.slice A0 x.f0.length c0, .slice A1 x.f1.length c1] ∧ x.f0.length ≤ c0 ∧ Kd.F (Kd.int .i64) W ok A0 x.f0.length x.f0 ∧ x.f1.length ≤ c1 ∧ Kd.F k80 W ok A1 x.f1.length x.f1 := by
  obtain ⟨A0, c0, A1, c1, rfl, l0, _, l1, _⟩ := k25_open (Kd.FK_now h)
  exact ⟨A0, c0, A1, c1, rfl, l0, (fun W' hW => by obtain ⟨A0_, c0_, A1_, c1_, he, l0_, g0_, l1_, g1_⟩ := k25_open (h W' hW); injection (Option.some.inj (show some (Value.slice A0 x.f0.length c0) = some (Value.slice A0_ x.f0.length c0_) from congrArg (fun l => l[0]?) he)) with ha_ _ _; rw [ha_]; exact g0_), l1, (fun W' hW => by obtain ⟨A0_, c0_, A1_, c1_, he, l0_, g0_, l1_, g1_⟩ := k25_open (h W' hW); injection (Option.some.inj (show some (Value.slice A1 x.f1.length c1) = some (Value.slice A1_ x.f1.length c1_) from congrArg (fun l => l[1]?) he)) with ha_ _ _; rw [ha_]; exact g1_)⟩
theorem k25_mkF (W : World) (ok : Nat → Prop) (x : S25) {A0 : Option Addr} {c0 : Nat} (l0 : x.f0.length ≤ c0) (g0 : Kd.F (Kd.int .i64) W ok A0 x.f0.length x.f0) {A1 : Option Addr} {c1 : Nat} (l1 : x.f1.length ≤ c1) (g1 : Kd.F k80 W ok A1 x.f1.length x.f1) : Kd.FK k25 W ok x [.slice A0 x.f0.length c0, .slice A1 x.f1.length c1] := fun W2 hW => k25_mk W2 x l0 (g0 W2 hW) l1 (g1 W2 hW)
def rd_T25 (xs : List S25) (i : Int) : S25 := xs.getD i.toNat z25
theorem at_T25 {w : World} {A : Option Addr} {n : Nat} {xs : List S25} (h : Kd.C k25 w A n xs) (i : Int) (h0 : 0 ≤ i) (h1 : i < n) : ∃ ad A0 c0 A1 c1, A = some ad ∧ w.cell? (ad.add (i.toNat * 2)) = some (.slice A0 (rd_T25 xs i).f0.length c0) ∧ w.cell? ⟨(ad.add (i.toNat * 2)).block, (ad.add (i.toNat * 2)).off + 1, none⟩ = some (.slice A1 (rd_T25 xs i).f1.length c1) ∧ (rd_T25 xs i).f0.length ≤ c0 ∧ (Kd.int .i64).C w A0 (rd_T25 xs i).f0.length (rd_T25 xs i).f0 ∧ (rd_T25 xs i).f1.length ≤ c1 ∧ k80.C w A1 (rd_T25 xs i).f1.length (rd_T25 xs i).f1 := by
  obtain ⟨ad, c, e, _, hK, hc0⟩ := Kd.C_get h z25 i h0 h1
  have hc : ∀ j u, c[j]? = some u → w.cell? (ad.add (i.toNat * 2 + j)) = some u := hc0
  obtain ⟨A0, c0, A1, c1, rfl, l0, g0, l1, g1⟩ := k25_open hK
  exact ⟨ad, A0, c0, A1, c1, e, hc 0 _ rfl, by rw [← add_field _ _ 1 (by omega)]; exact hc 1 _ rfl, l0, g0, l1, g1⟩
/-! #### struct type 43 -/
structure S43 where
  f0 : Int
  f1 : (List Int)
  f2 : (List Int)
def z43 : S43 := ⟨(0 : Int), ([] : List Int), ([] : List Int)⟩
def k43 : Kd S43 := Kd.iso (Kd.pair (Kd.int .i64) (Kd.pair (Kd.slice 3 (Kd.int .i64)) (Kd.slice 3 (Kd.int .i64)))) (fun x : S43 => (x.f0, x.f1, x.f2))
theorem k43_open {w : World} {x : S43} {cs : List Value} (h : k43.K w x cs) : ∃ A1 c1 A2 c2, cs = [.int .i64 x.f0, .slice A1 x.f1.length c1, .slice A2 x.f2.length c2] ∧ x.f1.length ≤ c1 ∧ (Kd.int .i64).C w A1 x.f1.length x.f1 ∧ x.f2.length ≤ c2 ∧ (Kd.int .i64).C w A2 x.f2.length x.f2 := by
  obtain ⟨_, _, rfl, rfl, ⟨_, _, rfl, ⟨A1, c1, rfl, l1, g1⟩, ⟨A2, c2, rfl, l2, g2⟩⟩⟩ := h
  exact ⟨A1, c1, A2, c2, rfl, l1, g1, l2, g2⟩
theorem k43_openM {w : World} {base : Nat} {ok : Nat → Prop} {x : S43} {cs : List Value} (h : k43.M w base ok x cs) : ∃ v1 v2, cs = [.int .i64 x.f0, v1, v2] ∧ (Kd.int .i64).R 3 w base ok v1 x.f1 ∧ (Kd.int .i64).R 3 w base ok v2 x.f2 := by
  obtain ⟨_, _, rfl, rfl, ⟨_, _, rfl, ⟨v1, rfl, g1⟩, ⟨v2, rfl, g2⟩⟩⟩ := h
  exact ⟨v1, v2, rfl, g1, g2⟩
theorem k43_mk (w : World) (x : S43) {A1 : Option Addr} {c1 : Nat} (l1 : x.f1.length ≤ c1) (g1 : (Kd.int .i64).C w A1 x.f1.length x.f1) {A2 : Option Addr} {c2 : Nat} (l2 : x.f2.length ≤ c2) (g2 : (Kd.int .i64).C w A2 x.f2.length x.f2) : k43.K w x [.int .i64 x.f0, .slice A1 x.f1.length c1, .slice A2 x.f2.length c2] := ⟨[.int .i64 x.f0], [.slice A1 x.f1.length c1, .slice A2 x.f2.length c2], rfl, rfl, ⟨[.slice A1 x.f1.length c1], [.slice A2 x.f2.length c2], rfl, ⟨A1, c1, rfl, l1, g1⟩, ⟨A2, c2, rfl, l2, g2⟩⟩⟩
theorem k43_mkM (w : World) (base : Nat) (ok : Nat → Prop) (x : S43) {v1 : Value} (g1 : (Kd.int .i64).R 3 w base ok v1 x.f1) {v2 : Value} (g2 : (Kd.int .i64).R 3 w base ok v2 x.f2) : k43.M w base ok x [.int .i64 x.f0, v1, v2] := ⟨[.int .i64 x.f0], [v1, v2], rfl, rfl, ⟨[v1], [v2], rfl, ⟨v1, rfl, g1⟩, ⟨v2, rfl, g2⟩⟩⟩
theorem k43_openF {W : World} {ok : Nat → Prop} {x : S43} {cs : List Value} (h : Kd.FK k43 W ok x cs) : ∃ A1 c1 A2 c2, cs = [.int .i64 x.f0, .slice A1 x.f1.length c1, .slice A2 x.f2.length c2] ∧ x.f1.length ≤ c1 ∧ Kd.F (Kd.int .i64) W ok A1 x.f1.length x.f1 ∧ x.f2.length ≤ c2 ∧ Kd.F (Kd.int .i64) W ok A2 x.f2.length x.f2 := by
  obtain ⟨A1, c1, A2, c2, rfl, l1, _, l2, _⟩ := k43_open (Kd.FK_now h)
  exact ⟨A1, c1, A2, c2, rfl, l1, (fun W' hW => by obtain ⟨A1_, c1_, A2_, c2_, he, l1_, g1_, l2_, g2_⟩ := k43_open (h W' hW); injection (Option.some.inj (show some (Value.slice A1 x.f1.length c1) = some (Value.slice A1_ x.f1.length c1_) from congrArg (fun l => l[1]?) he)) with ha_ _ _; rw [ha_]; exact g1_), l2, (fun W' hW => by obtain ⟨A1_, c1_, A2_, c2_, he, l1_, g1_, l2_, g2_⟩ := k43_open (h W' hW); injection (Option.some.inj (show some (Value.slice A2 x.f2.length c2) = some (Value.slice A2_ x.f2.length c2_) from congrArg (fun l => l[2]?) he)) with ha_ _ _; rw [ha_]; exact g2_)⟩
theorem k43_mkF (W : World) (ok : Nat → Prop) (x : S43) {A1 : Option Addr} {c1 : Nat} (l1 : x.f1.length ≤ c1) (g1 : Kd.F (Kd.int .i64) W ok A1 x.f1.length x.f1) {A2 : Option Addr} {c2 : Nat} (l2 : x.f2.length ≤ c2) (g2 : Kd.F (Kd.int .i64) W ok A2 x.f2.length x.f2) : Kd.FK k43 W ok x [.int .i64 x.f0, .slice A1 x.f1.length c1, .slice A2 x.f2.length c2] := fun W2 hW => k43_mk W2 x l1 (g1 W2 hW) l2 (g2 W2 hW)
def rd_T43 (xs : List S43) (i : Int) : S43 := xs.getD i.toNat z43
theorem at_T43 {w : World} {A : Option Addr} {n : Nat} {xs : List S43} (h : Kd.C k43 w A n xs) (i : Int) (h0 : 0 ≤ i) (h1 : i < n) : ∃ ad A1 c1 A2 c2, A = some ad ∧ w.cell? (ad.add (i.toNat * 3)) = some (.int .i64 (rd_T43 xs i).f0) ∧ w.cell? ⟨(ad.add (i.toNat * 3)).block, (ad.add (i.toNat * 3)).off + 1, none⟩ = some (.slice A1 (rd_T43 xs i).f1.length c1) ∧ w.cell? ⟨(ad.add (i.toNat * 3)).block, (ad.add (i.toNat * 3)).off + 2, none⟩ = some (.slice A2 (rd_T43 xs i).f2.length c2) ∧ (rd_T43 xs i).f1.length ≤ c1 ∧ (Kd.int .i64).C w A1 (rd_T43 xs i).f1.length (rd_T43 xs i).f1 ∧ (rd_T43 xs i).f2.length ≤ c2 ∧ (Kd.int .i64).C w A2 (rd_T43 xs i).f2.length (rd_T43 xs i).f2 := by
  obtain ⟨ad, c, e, _, hK, hc0⟩ := Kd.C_get h z43 i h0 h1
  have hc : ∀ j u, c[j]? = some u → w.cell? (ad.add (i.toNat * 3 + j)) = some u := hc0
  obtain ⟨A1, c1, A2, c2, rfl, l1, g1, l2, g2⟩ := k43_open hK
  exact ⟨ad, A1, c1, A2, c2, e, hc 0 _ rfl, by rw [← add_field _ _ 1 (by omega)]; exact hc 1 _ rfl, by rw [← add_field _ _ 2 (by omega)]; exact hc 2 _ rfl, l1, g1, l2, g2⟩
/-! #### struct type 45 -/
structure S45 where
  f0 : S43
  f1 : (List S80)
def z45 : S45 := ⟨z43, ([] : List S80)⟩
def k45 : Kd S45 := Kd.iso (Kd.pair k43 (Kd.slice 80 k80)) (fun x : S45 => (x.f0, x.f1))
theorem k45_open {w : World} {x : S45} {cs : List Value} (h : k45.K w x cs) : ∃ A1 c1 A2 c2 A3 c3, cs = [.int .i64 x.f0.f0, .slice A1 x.f0.f1.length c1, .slice A2 x.f0.f2.length c2, .slice A3 x.f1.length c3] ∧ x.f0.f1.length ≤ c1 ∧ (Kd.int .i64).C w A1 x.f0.f1.length x.f0.f1 ∧ x.f0.f2.length ≤ c2 ∧ (Kd.int .i64).C w A2 x.f0.f2.length x.f0.f2 ∧ x.f1.length ≤ c3 ∧ k80.C w A3 x.f1.length x.f1 := by
  obtain ⟨_, _, rfl, s0, ⟨A3, c3, rfl, l3, g3⟩⟩ := h
  obtain ⟨A1, c1, A2, c2, rfl, l1, g1, l2, g2⟩ := k43_open s0
  exact ⟨A1, c1, A2, c2, A3, c3, rfl, l1, g1, l2, g2, l3, g3⟩
theorem k45_openM {w : World} {base : Nat} {ok : Nat → Prop} {x : S45} {cs : List Value} (h : k45.M w base ok x cs) : ∃ v1 v2 v3, cs = [.int .i64 x.f0.f0, v1, v2, v3] ∧ (Kd.int .i64).R 3 w base ok v1 x.f0.f1 ∧ (Kd.int .i64).R 3 w base ok v2 x.f0.f2 ∧ k80.R 80 w base ok v3 x.f1 := by
  obtain ⟨_, _, rfl, s0, ⟨v3, rfl, g3⟩⟩ := h
  obtain ⟨v1, v2, rfl, g1, g2⟩ := k43_openM s0
  exact ⟨v1, v2, v3, rfl, g1, g2, g3⟩
theorem k45_mk (w : World) (x : S45) {A1 : Option Addr} {c1 : Nat} (l1 : x.f0.f1.length ≤ c1) (g1 : (Kd.int .i64).C w A1 x.f0.f1.length x.f0.f1) {A2 : Option Addr} {c2 : Nat} (l2 : x.f0.f2.length ≤ c2) (g2 : (Kd.int .i64).C w A2 x.f0.f2.length x.f0.f2) {A3 : Option Addr} {c3 : Nat} (l3 : x.f1.length ≤ c3) (g3 : k80.C w A3 x.f1.length x.f1) : k45.K w x [.int .i64 x.f0.f0, .slice A1 x.f0.f1.length c1, .slice A2 x.f0.f2.length c2, .slice A3 x.f1.length c3] := ⟨[.int .i64 x.f0.f0, .slice A1 x.f0.f1.length c1, .slice A2 x.f0.f2.length c2], [.slice A3 x.f1.length c3], rfl, (k43_mk w x.f0 l1 g1 l2 g2), ⟨A3, c3, rfl, l3, g3⟩⟩
theorem k45_mkM (w : World) (base : Nat) (ok : Nat → Prop) (x : S45) {v1 : Value} (g1 : (Kd.int .i64).R 3 w base ok v1 x.f0.f1) {v2 : Value} (g2 : (Kd.int .i64).R 3 w base ok v2 x.f0.f2) {v3 : Value} (g3 : k80.R 80 w base ok v3 x.f1) : k45.M w base ok x [.int .i64 x.f0.f0, v1, v2, v3] := ⟨[.int .i64 x.f0.f0, v1, v2], [v3], rfl, (k43_mkM w base ok x.f0 g1 g2), ⟨v3, rfl, g3⟩⟩
theorem k45_openF {W : World} {ok : Nat → Prop} {x : S45} {cs : List Value} (h : Kd.FK k45 W ok x cs) : ∃ A1 c1 A2 c2 A3 c3, cs = [.int .i64 x.f0.f0, .slice A1 x.f0.f1.length c1, .slice A2 x.f0.f2.length c2, .slice A3 x.f1.length c3] ∧ x.f0.f1.length ≤ c1 ∧ Kd.F (Kd.int .i64) W ok A1 x.f0.f1.length x.f0.f1 ∧ x.f0.f2.length ≤ c2 ∧ Kd.F (Kd.int .i64) W ok A2 x.f0.f2.length x.f0.f2 ∧ x.f1.length ≤ c3 ∧ Kd.F k80 W ok A3 x.f1.length x.f1 := by
  obtain ⟨A1, c1, A2, c2, A3, c3, rfl, l1, _, l2, _, l3, _⟩ := k45_open (Kd.FK_now h)
  exact ⟨A1, c1, A2, c2, A3, c3, rfl, l1, (fun W' hW => by obtain ⟨A1_, c1_, A2_, c2_, A3_, c3_, he, l1_, g1_, l2_, g2_, l3_, g3_⟩ := k45_open (h W' hW); injection (Option.some.inj (show some (Value.slice A1 x.f0.f1.length c1) = some (Value.slice A1_ x.f0.f1.length c1_) from congrArg (fun l => l[1]?) he)) with ha_ _ _; rw [ha_]; exact g1_), l2, (fun W' hW => by obtain ⟨A1_, c1_, A2_, c2_, A3_, c3_, he, l1_, g1_, l2_, g2_, l3_, g3_⟩ := k45_open (h W' hW); injection (Option.some.inj (show some (Value.slice A2 x.f0.f2.length c2) = some (Value.slice A2_ x.f0.f2.length c2_) from congrArg (fun l => l[2]?) he)) with ha_ _ _; rw [ha_]; exact g2_), l3, (fun W' hW => by obtain ⟨A1_, c1_, A2_, c2_, A3_, c3_, he, l1_, g1_, l2_, g2_, l3_, g3_⟩ := k45_open (h W' hW); injection (Option.some.inj (show some (Value.slice A3 x.f1.length c3) = some (Value.slice A3_ x.f1.length c3_) from congrArg (fun l => l[3]?) he)) with ha_ _ _; rw [ha_]; exact g3_)⟩
theorem k45_mkF (W : World) (ok : Nat → Prop) (x : S45) {A1 : Option Addr} {c1 : Nat} (l1 : x.f0.f1.length ≤ c1) (g1 : Kd.F (Kd.int .i64) W ok A1 x.f0.f1.length x.f0.f1) {A2 : Option Addr} {c2 : Nat} (l2 : x.f0.f2.length ≤ c2) (g2 : Kd.F (Kd.int .i64) W ok A2 x.f0.f2.length x.f0.f2) {A3 : Option Addr} {c3 : Nat} (l3 : x.f1.length ≤ c3) (g3 : Kd.F k80 W ok A3 x.f1.length x.f1) : Kd.FK k45 W ok x [.int .i64 x.f0.f0, .slice A1 x.f0.f1.length c1, .slice A2 x.f0.f2.length c2, .slice A3 x.f1.length c3] := fun W2 hW => k45_mk W2 x l1 (g1 W2 hW) l2 (g2 W2 hW) l3 (g3 W2 hW)
def rd_T45 (xs : List S45) (i : Int) : S45 := xs.getD i.toNat z45
theorem at_T45 {w : World} {A : Option Addr} {n : Nat} {xs : List S45} (h : Kd.C k45 w A n xs) (i : Int) (h0 : 0 ≤ i) (h1 : i < n) : ∃ ad A1 c1 A2 c2 A3 c3, A = some ad ∧ w.cell? (ad.add (i.toNat * 4)) = some (.int .i64 (rd_T45 xs i).f0.f0) ∧ w.cell? ⟨(ad.add (i.toNat * 4)).block, (ad.add (i.toNat * 4)).off + 1, none⟩ = some (.slice A1 (rd_T45 xs i).f0.f1.length c1) ∧ w.cell? ⟨(ad.add (i.toNat * 4)).block, (ad.add (i.toNat * 4)).off + 2, none⟩ = some (.slice A2 (rd_T45 xs i).f0.f2.length c2) ∧ w.cell? ⟨(ad.add (i.toNat * 4)).block, (ad.add (i.toNat * 4)).off + 3, none⟩ = some (.slice A3 (rd_T45 xs i).f1.length c3) ∧ (rd_T45 xs i).f0.f1.length ≤ c1 ∧ (Kd.int .i64).C w A1 (rd_T45 xs i).f0.f1.length (rd_T45 xs i).f0.f1 ∧ (rd_T45 xs i).f0.f2.length ≤ c2 ∧ (Kd.int .i64).C w A2 (rd_T45 xs i).f0.f2.length (rd_T45 xs i).f0.f2 ∧ (rd_T45 xs i).f1.length ≤ c3 ∧ k80.C w A3 (rd_T45 xs i).f1.length (rd_T45 xs i).f1 := by
  obtain ⟨ad, c, e, _, hK, hc0⟩ := Kd.C_get h z45 i h0 h1
  have hc : ∀ j u, c[j]? = some u → w.cell? (ad.add (i.toNat * 4 + j)) = some u := hc0
  obtain ⟨A1, c1, A2, c2, A3, c3, rfl, l1, g1, l2, g2, l3, g3⟩ := k45_open hK
  exact ⟨ad, A1, c1, A2, c2, A3, c3, e, hc 0 _ rfl, by rw [← add_field _ _ 1 (by omega)]; exact hc 1 _ rfl, by rw [← add_field _ _ 2 (by omega)]; exact hc 2 _ rfl, by rw [← add_field _ _ 3 (by omega)]; exact hc 3 _ rfl, l1, g1, l2, g2, l3, g3⟩
theorem pB {p q : Prop} (x : q) (h : q → p := by intro h_; repeat (first | (with_reducible first | exact h_ | apply below_alloc | apply pw_below_drewN | apply below_drew1) | exact h_)) : p := h x
theorem pR {p q : Prop} (x : q) (h : q → p := by intro h_; (with_reducible repeat (first | apply Kd.R_alloc | apply Kd.R_drewN | apply Kd.R_drew)); exact h_) : p := h x
theorem pV {p q : Prop} (x : q) (h : q → p := by intro h_; (with_reducible repeat (first | apply Kd.V_alloc | apply Kd.V_drewN | apply Kd.V_drew)); exact h_) : p := h x
theorem pC {p q : Prop} (x : q) (h : q → p := by intro h_; repeat (first | exact h_ | (with_reducible refine Kd.C_alloc ?_ _) | (with_reducible refine Kd.C_drewN ?_ _) | (with_reducible refine Kd.C_drew ?_))) : p := h x
theorem pA {p : Prop} (h : p := by (try simp only [List.map_toArray, List.map_cons, List.map_nil]); first | done | rfl | (simp only [List.length_drop, List.length_take]; rfl)) : p := h
theorem pB1 {p q g0 : Prop} (x : q) (yg0 : g0) (h : q → g0 → p := by intro h_ hg0_; repeat (first | (with_reducible first | exact h_ | apply below_alloc | apply pw_below_drewN | apply below_drew1 | refine below_set ?_ hg0_) | exact h_)) : p := h x yg0
theorem pB2 {p q g0 g1 : Prop} (x : q) (yg0 : g0) (yg1 : g1) (h : q → g0 → g1 → p := by intro h_ hg0_ hg1_; repeat (first | (with_reducible first | exact h_ | apply below_alloc | apply pw_below_drewN | apply below_drew1 | refine below_set ?_ hg0_ | refine below_set ?_ hg1_) | exact h_)) : p := h x yg0 yg1
theorem pB3 {p q g0 g1 g2 : Prop} (x : q) (yg0 : g0) (yg1 : g1) (yg2 : g2) (h : q → g0 → g1 → g2 → p := by intro h_ hg0_ hg1_ hg2_; repeat (first | (with_reducible first | exact h_ | apply below_alloc | apply pw_below_drewN | apply below_drew1 | refine below_set ?_ hg0_ | refine below_set ?_ hg1_ | refine below_set ?_ hg2_) | exact h_)) : p := h x yg0 yg1 yg2
theorem pB4 {p q g0 g1 g2 g3 : Prop} (x : q) (yg0 : g0) (yg1 : g1) (yg2 : g2) (yg3 : g3) (h : q → g0 → g1 → g2 → g3 → p := by intro h_ hg0_ hg1_ hg2_ hg3_; repeat (first | (with_reducible first | exact h_ | apply below_alloc | apply pw_below_drewN | apply below_drew1 | refine below_set ?_ hg0_ | refine below_set ?_ hg1_ | refine below_set ?_ hg2_ | refine below_set ?_ hg3_) | exact h_)) : p := h x yg0 yg1 yg2 yg3
theorem pB5 {p q g0 g1 g2 g3 g4 : Prop} (x : q) (yg0 : g0) (yg1 : g1) (yg2 : g2) (yg3 : g3) (yg4 : g4) (h : q → g0 → g1 → g2 → g3 → g4 → p := by intro h_ hg0_ hg1_ hg2_ hg3_ hg4_; repeat (first | (with_reducible first | exact h_ | apply below_alloc | apply pw_below_drewN | apply below_drew1 | refine below_set ?_ hg0_ | refine below_set ?_ hg1_ | refine below_set ?_ hg2_ | refine below_set ?_ hg3_ | refine below_set ?_ hg4_) | exact h_)) : p := h x yg0 yg1 yg2 yg3 yg4
theorem bN {w : World} {g : Nat} {o : Obj} {n : Nat} (h : w.heap[g]? = some o) : (w.drewN n).heap[g]? = some o := blk_drewN h n
theorem bD {w : World} {g : Nat} {o : Obj} (h : w.heap[g]? = some o) : w.drew.heap[g]? = some o := blk_drew h
theorem bA {w : World} {g : Nat} {o o' : Obj} (h : w.heap[g]? = some o) : (w.alloc o').heap[g]? = some o := blk_alloc h o'
theorem pK {p q : Prop} (x : q) (h : q → p := by intro h_; (with_reducible repeat (first | apply bN | apply bD | apply bA)); exact h_) : p := h x
theorem pE {p : Prop} (h : p := by first | rfl | (simp [errW_none, errW_some] <;> rfl) | (simp [*, errW_none, errW_some] <;> rfl)) : p := h
theorem pF {p : Prop} (h : p := by first | rfl | (simp; done) | (simp [*]; done)) : p := h
section
variable {P : Program} {ops : Array Oper} {Q : Exit → Act → World → Prop} {md : Region.Mode} {S : World → Prop} {ds : List Nat} {T : Bool × List (List Nat × List Nat)} {i : Nat} {N : Option Tmp} {oi : Oper} {v : Value} {fuel : Nat} {l : Array Bool} {a a' : Act} {w : World}
theorem pP (l' : Array Bool) (hi : ops[i]? = some oi) (hN : oi.dst = N) (hT : rtab md ops = T) (h : wpAnyLast P md ops Q S ds fuel l' a' w) (hc : anyT T l.toList l'.toList i = true := by kernel_rfl) (hQ : ∀ c a w, Q (.panic c) (a.put oi.dst v) w → Q (.panic c) a w := by exact fun _ _ _ h => h)
  (hy : Yields P ops oi v a := by refine Or.inl ⟨by rfl, ?_⟩; intro w'; go_simp; with_reducible rfl) (ha : a.put N v = a' := by simp only [Act.put, List.setIfInBounds_toArray, List.set_cons_zero, List.set_cons_succ, i64_w, i32_w]; rfl) : wpAnyLast P md ops Q S ds (fuel + 1) l a w := pure_ l' hi hN (any_of hT hc) hQ hy ha h
theorem pT {B : List Nat} (l' : Array Bool) (hi : ops[i]? = some oi) (hN : oi.dst = N) (hT : rtab md ops = T) (hB : waitsOk T.2 B = true) (hS : S w) (hy : ∀ w', S w' → (execOp a.eval oi).run P w' = .ok (.value v) w') (h : wpAnyLast P md ops Q S ds fuel l' a' w) (hc : takeW T B ds l.toList l'.toList i = true := by kernel_rfl) (hQ : ∀ c a w, Q (.panic c) (a.put oi.dst v) w → Q (.panic c) a w := by exact fun _ _ _ h => h)
  (hw : Region.wanted oi (yielded ops a.tmps) = true := by rfl) (ha : a.put N v = a' := by simp only [Act.put, List.setIfInBounds_toArray, List.set_cons_zero, List.set_cons_succ, i64_w, i32_w]; rfl) : wpAnyLast P md ops Q S ds (fuel + 1) l a w := take_ l' hi hN (take_ofW hT hB hc) hQ (Or.inl ⟨hw, hy⟩) hS ha h
end
theorem pD {p : Prop} (h : p := by first | (with_reducible assumption) | assumption) : p := h
theorem aM {p : Prop} (h : p) : Aside0 p := ⟨h⟩
theorem pH {α : Type} {p q : Prop} {a b : α} (e : a = b) (x : q) (h : a = b → q → p := by intro hy_ H; first | (rw [hy_]; with_reducible exact H) | (have H2_ := (Option.bind_some _ _).symm.trans H; rw [hy_]; with_reducible exact H2_) | (have H2_ := (Option.bind_some _ _).symm.trans H; with_reducible exact H2_) | with_reducible exact H | (rw [hy_]; exact H) | exact H) : p := h e x
theorem pN {p : Prop} (h : p := by first | exact Kd.R_nil _ _ _ _ _ | exact Kd.N_nil _ _ _ _ _ | exact Kd.V_nil _ _ _ _ _ | exact Kd.Q_nil _ _ _ _ _ | exact Kd.S_nil _ _ _ _ _) : p := h
section
variable {α : Type} {d : Kd α} {e base : Nat} {ok : Nat → Prop} {w : World} {v : Value} {xs : List α}
theorem rA (h : d.R e w base ok v xs) (o : Obj) : d.R e (w.alloc o) base ok v xs := Kd.R_alloc h o
theorem rN (h : d.R e w base ok v xs) (m : Nat) : d.R e (w.drewN m) base ok v xs := Kd.R_drewN h m
theorem rD (h : d.R e w base ok v xs) : d.R e w.drew base ok v xs := Kd.R_drew h
end
theorem blk2 {w : World} {g : Nat} {t : TypeId} {a0 a1 : Value} (h : w.heap[g]? = some (.cells #[a0, a1] t (0, 0))) : w.cell? ⟨g, 0, none⟩ = some a0 ∧ w.cell? ⟨g, 1, none⟩ = some a1 ∧ w.frozen? ⟨g, 0, none⟩ = false ∧ w.frozen? ⟨g, 1, none⟩ = false := ⟨(blk_cell h 0).trans rfl, (blk_cell h 1).trans rfl, blk_frozen h 0, blk_frozen h 1⟩
theorem blk3 {w : World} {g : Nat} {t : TypeId} {a0 a1 a2 : Value} (h : w.heap[g]? = some (.cells #[a0, a1, a2] t (0, 0))) : w.cell? ⟨g, 0, none⟩ = some a0 ∧ w.cell? ⟨g, 1, none⟩ = some a1 ∧ w.cell? ⟨g, 2, none⟩ = some a2 ∧ w.frozen? ⟨g, 0, none⟩ = false ∧ w.frozen? ⟨g, 1, none⟩ = false ∧ w.frozen? ⟨g, 2, none⟩ = false := ⟨(blk_cell h 0).trans rfl, (blk_cell h 1).trans rfl, (blk_cell h 2).trans rfl, blk_frozen h 0, blk_frozen h 1, blk_frozen h 2⟩
theorem blk4 {w : World} {g : Nat} {t : TypeId} {a0 a1 a2 a3 : Value} (h : w.heap[g]? = some (.cells #[a0, a1, a2, a3] t (0, 0))) : w.cell? ⟨g, 0, none⟩ = some a0 ∧ w.cell? ⟨g, 1, none⟩ = some a1 ∧ w.cell? ⟨g, 2, none⟩ = some a2 ∧ w.cell? ⟨g, 3, none⟩ = some a3 ∧ w.frozen? ⟨g, 0, none⟩ = false ∧ w.frozen? ⟨g, 1, none⟩ = false ∧ w.frozen? ⟨g, 2, none⟩ = false ∧ w.frozen? ⟨g, 3, none⟩ = false := ⟨(blk_cell h 0).trans rfl, (blk_cell h 1).trans rfl, (blk_cell h 2).trans rfl, (blk_cell h 3).trans rfl, blk_frozen h 0, blk_frozen h 1, blk_frozen h 2, blk_frozen h 3⟩
theorem blk5 {w : World} {g : Nat} {t : TypeId} {a0 a1 a2 a3 a4 : Value} (h : w.heap[g]? = some (.cells #[a0, a1, a2, a3, a4] t (0, 0))) : w.cell? ⟨g, 0, none⟩ = some a0 ∧ w.cell? ⟨g, 1, none⟩ = some a1 ∧ w.cell? ⟨g, 2, none⟩ = some a2 ∧ w.cell? ⟨g, 3, none⟩ = some a3 ∧ w.cell? ⟨g, 4, none⟩ = some a4 ∧ w.frozen? ⟨g, 0, none⟩ = false ∧ w.frozen? ⟨g, 1, none⟩ = false ∧ w.frozen? ⟨g, 2, none⟩ = false ∧ w.frozen? ⟨g, 3, none⟩ = false ∧ w.frozen? ⟨g, 4, none⟩ = false := ⟨(blk_cell h 0).trans rfl, (blk_cell h 1).trans rfl, (blk_cell h 2).trans rfl, (blk_cell h 3).trans rfl, (blk_cell h 4).trans rfl, blk_frozen h 0, blk_frozen h 1, blk_frozen h 2, blk_frozen h 3, blk_frozen h 4⟩
theorem blk6 {w : World} {g : Nat} {t : TypeId} {a0 a1 a2 a3 a4 a5 : Value} (h : w.heap[g]? = some (.cells #[a0, a1, a2, a3, a4, a5] t (0, 0))) : w.cell? ⟨g, 0, none⟩ = some a0 ∧ w.cell? ⟨g, 1, none⟩ = some a1 ∧ w.cell? ⟨g, 2, none⟩ = some a2 ∧ w.cell? ⟨g, 3, none⟩ = some a3 ∧ w.cell? ⟨g, 4, none⟩ = some a4 ∧ w.cell? ⟨g, 5, none⟩ = some a5 ∧ w.frozen? ⟨g, 0, none⟩ = false ∧ w.frozen? ⟨g, 1, none⟩ = false ∧ w.frozen? ⟨g, 2, none⟩ = false ∧ w.frozen? ⟨g, 3, none⟩ = false ∧ w.frozen? ⟨g, 4, none⟩ = false ∧ w.frozen? ⟨g, 5, none⟩ = false := ⟨(blk_cell h 0).trans rfl, (blk_cell h 1).trans rfl, (blk_cell h 2).trans rfl, (blk_cell h 3).trans rfl, (blk_cell h 4).trans rfl, (blk_cell h 5).trans rfl, blk_frozen h 0, blk_frozen h 1, blk_frozen h 2, blk_frozen h 3, blk_frozen h 4, blk_frozen h 5⟩
theorem blk7 {w : World} {g : Nat} {t : TypeId} {a0 a1 a2 a3 a4 a5 a6 : Value} (h : w.heap[g]? = some (.cells #[a0, a1, a2, a3, a4, a5, a6] t (0, 0))) : w.cell? ⟨g, 0, none⟩ = some a0 ∧ w.cell? ⟨g, 1, none⟩ = some a1 ∧ w.cell? ⟨g, 2, none⟩ = some a2 ∧ w.cell? ⟨g, 3, none⟩ = some a3 ∧ w.cell? ⟨g, 4, none⟩ = some a4 ∧ w.cell? ⟨g, 5, none⟩ = some a5 ∧ w.cell? ⟨g, 6, none⟩ = some a6 ∧ w.frozen? ⟨g, 0, none⟩ = false ∧ w.frozen? ⟨g, 1, none⟩ = false ∧ w.frozen? ⟨g, 2, none⟩ = false ∧ w.frozen? ⟨g, 3, none⟩ = false ∧ w.frozen? ⟨g, 4, none⟩ = false ∧ w.frozen? ⟨g, 5, none⟩ = false ∧ w.frozen? ⟨g, 6, none⟩ = false := ⟨(blk_cell h 0).trans rfl, (blk_cell h 1).trans rfl, (blk_cell h 2).trans rfl, (blk_cell h 3).trans rfl, (blk_cell h 4).trans rfl, (blk_cell h 5).trans rfl, (blk_cell h 6).trans rfl, blk_frozen h 0, blk_frozen h 1, blk_frozen h 2, blk_frozen h 3, blk_frozen h 4, blk_frozen h 5, blk_frozen h 6⟩
theorem blk8 {w : World} {g : Nat} {t : TypeId} {a0 a1 a2 a3 a4 a5 a6 a7 : Value} (h : w.heap[g]? = some (.cells #[a0, a1, a2, a3, a4, a5, a6, a7] t (0, 0))) : w.cell? ⟨g, 0, none⟩ = some a0 ∧ w.cell? ⟨g, 1, none⟩ = some a1 ∧ w.cell? ⟨g, 2, none⟩ = some a2 ∧ w.cell? ⟨g, 3, none⟩ = some a3 ∧ w.cell? ⟨g, 4, none⟩ = some a4 ∧ w.cell? ⟨g, 5, none⟩ = some a5 ∧ w.cell? ⟨g, 6, none⟩ = some a6 ∧ w.cell? ⟨g, 7, none⟩ = some a7 ∧ w.frozen? ⟨g, 0, none⟩ = false ∧ w.frozen? ⟨g, 1, none⟩ = false ∧ w.frozen? ⟨g, 2, none⟩ = false ∧ w.frozen? ⟨g, 3, none⟩ = false ∧ w.frozen? ⟨g, 4, none⟩ = false ∧ w.frozen? ⟨g, 5, none⟩ = false ∧ w.frozen? ⟨g, 6, none⟩ = false ∧ w.frozen? ⟨g, 7, none⟩ = false := ⟨(blk_cell h 0).trans rfl, (blk_cell h 1).trans rfl, (blk_cell h 2).trans rfl, (blk_cell h 3).trans rfl, (blk_cell h 4).trans rfl, (blk_cell h 5).trans rfl, (blk_cell h 6).trans rfl, (blk_cell h 7).trans rfl, blk_frozen h 0, blk_frozen h 1, blk_frozen h 2, blk_frozen h 3, blk_frozen h 4, blk_frozen h 5, blk_frozen h 6, blk_frozen h 7⟩
theorem blk9 {w : World} {g : Nat} {t : TypeId} {a0 a1 a2 a3 a4 a5 a6 a7 a8 : Value} (h : w.heap[g]? = some (.cells #[a0, a1, a2, a3, a4, a5, a6, a7, a8] t (0, 0))) : w.cell? ⟨g, 0, none⟩ = some a0 ∧ w.cell? ⟨g, 1, none⟩ = some a1 ∧ w.cell? ⟨g, 2, none⟩ = some a2 ∧ w.cell? ⟨g, 3, none⟩ = some a3 ∧ w.cell? ⟨g, 4, none⟩ = some a4 ∧ w.cell? ⟨g, 5, none⟩ = some a5 ∧ w.cell? ⟨g, 6, none⟩ = some a6 ∧ w.cell? ⟨g, 7, none⟩ = some a7 ∧ w.cell? ⟨g, 8, none⟩ = some a8 ∧ w.frozen? ⟨g, 0, none⟩ = false ∧ w.frozen? ⟨g, 1, none⟩ = false ∧ w.frozen? ⟨g, 2, none⟩ = false ∧ w.frozen? ⟨g, 3, none⟩ = false ∧ w.frozen? ⟨g, 4, none⟩ = false ∧ w.frozen? ⟨g, 5, none⟩ = false ∧ w.frozen? ⟨g, 6, none⟩ = false ∧ w.frozen? ⟨g, 7, none⟩ = false ∧ w.frozen? ⟨g, 8, none⟩ = false := ⟨(blk_cell h 0).trans rfl, (blk_cell h 1).trans rfl, (blk_cell h 2).trans rfl, (blk_cell h 3).trans rfl, (blk_cell h 4).trans rfl, (blk_cell h 5).trans rfl, (blk_cell h 6).trans rfl, (blk_cell h 7).trans rfl, (blk_cell h 8).trans rfl, blk_frozen h 0, blk_frozen h 1, blk_frozen h 2, blk_frozen h 3, blk_frozen h 4, blk_frozen h 5, blk_frozen h 6, blk_frozen h 7, blk_frozen h 8⟩
theorem blk10 {w : World} {g : Nat} {t : TypeId} {a0 a1 a2 a3 a4 a5 a6 a7 a8 a9 : Value} (h : w.heap[g]? = some (.cells #[a0, a1, a2, a3, a4, a5, a6, a7, a8, a9] t (0, 0))) : w.cell? ⟨g, 0, none⟩ = some a0 ∧ w.cell? ⟨g, 1, none⟩ = some a1 ∧ w.cell? ⟨g, 2, none⟩ = some a2 ∧ w.cell? ⟨g, 3, none⟩ = some a3 ∧ w.cell? ⟨g, 4, none⟩ = some a4 ∧ w.cell? ⟨g, 5, none⟩ = some a5 ∧ w.cell? ⟨g, 6, none⟩ = some a6 ∧ w.cell? ⟨g, 7, none⟩ = some a7 ∧ w.cell? ⟨g, 8, none⟩ = some a8 ∧ w.cell? ⟨g, 9, none⟩ = some a9 ∧ w.frozen? ⟨g, 0, none⟩ = false ∧ w.frozen? ⟨g, 1, none⟩ = false ∧ w.frozen? ⟨g, 2, none⟩ = false ∧ w.frozen? ⟨g, 3, none⟩ = false ∧ w.frozen? ⟨g, 4, none⟩ = false ∧ w.frozen? ⟨g, 5, none⟩ = false ∧ w.frozen? ⟨g, 6, none⟩ = false ∧ w.frozen? ⟨g, 7, none⟩ = false ∧ w.frozen? ⟨g, 8, none⟩ = false ∧ w.frozen? ⟨g, 9, none⟩ = false := ⟨(blk_cell h 0).trans rfl, (blk_cell h 1).trans rfl, (blk_cell h 2).trans rfl, (blk_cell h 3).trans rfl, (blk_cell h 4).trans rfl, (blk_cell h 5).trans rfl, (blk_cell h 6).trans rfl, (blk_cell h 7).trans rfl, (blk_cell h 8).trans rfl, (blk_cell h 9).trans rfl, blk_frozen h 0, blk_frozen h 1, blk_frozen h 2, blk_frozen h 3, blk_frozen h 4, blk_frozen h 5, blk_frozen h 6, blk_frozen h 7, blk_frozen h 8, blk_frozen h 9⟩
theorem sP : (∀ {α : Type} (l : List α) (i : Nat) (a : α), l.toArray.setIfInBounds i a = (l.set i a).toArray) ∧ (∀ {α : Type} (a b : α) (l : List α), (a :: l).set 0 b = b :: l) ∧ (∀ {α : Type} (a b : α) (l : List α) (n : Nat), (a :: l).set (n + 1) b = a :: l.set n b) := ⟨fun _ _ _ => by simp, fun _ _ _ => rfl, fun _ _ _ _ => rfl⟩
abbrev bm (n m : Nat) : Array Bool := ((List.range n).map fun i => m.testBit i).toArray
section
variable {w W w1 : World} {g n : Nat} {o : Obj} {q : Prop}
theorem bK (x : Aside0 q) (hb : Below w.heap.size w w1) (h : q → w.heap[g]? = some o := by intro h_; (with_reducible repeat (first | apply bN | apply bD | apply bA)); exact h_) : Aside0 (w1.heap[g]? = some o) := ⟨blk_below (h x.out) hb⟩
theorem nL (hg : n = w.heap.size) (x : Aside0 q) (h : q → w.heap[g]? = some o := by intro h_; (with_reducible repeat (first | apply bN | apply bD | apply bA)); exact h_) : Aside0 (g ≠ n) := ⟨hg ▸ Nat.ne_of_lt (blk_lt (h x.out))⟩
theorem nG (hg : n = w.heap.size) (x : Aside0 q) (h : q → w.heap[g]? = some o := by intro h_; (with_reducible repeat (first | apply bN | apply bD | apply bA)); exact h_) : Aside0 (n ≠ g) := ⟨hg ▸ Nat.ne_of_gt (blk_lt (h x.out))⟩
theorem bS (h : Below w.heap.size w W) (k : Below W.heap.size W w1) : Aside0 (Below w.heap.size w w1) := ⟨below_step h k⟩
theorem gE (hg : g = W.heap.size) (h : Below w.heap.size w W) : Aside0 (w.heap.size ≤ g) := ⟨hg ▸ below_size h⟩
theorem qB {p : Prop} (x : Aside0 q) (h : q → p := by intro h_; repeat (first | (with_reducible first | exact h_ | apply below_alloc | apply pw_below_drewN | apply below_drew1) | exact h_)) : p := h x.out
theorem h3 {a0 a1 a2 : Value} {t : TypeId} (h : Aside0 (w.heap[g]? = some (.cells #[a0, a1, a2] t (0, 0)))) : w.cell? ⟨g, 0, none⟩ = some a0 ∧ w.cell? ⟨g, 1, none⟩ = some a1 ∧ w.cell? ⟨g, 2, none⟩ = some a2 := ⟨(blk_cell h.out 0).trans rfl, (blk_cell h.out 1).trans rfl, (blk_cell h.out 2).trans rfl⟩
theorem B3 {u0 u1 u2 : Value} {i0 i1 i2 : Nat} {g' : Nat} {t : TypeId} {cs : Array Value} (hne : Aside0 (g ≠ g')) (h : w.heap[g]? = some (.cells cs t (0, 0))) : (((w.setCell ⟨g', i0, none⟩ u0).setCell ⟨g', i1, none⟩ u1).setCell ⟨g', i2, none⟩ u2).heap[g]? = some (.cells cs t (0, 0)) := blk_far (blk_far (blk_far h hne.out _) hne.out _) hne.out _
theorem P3 {a0 a1 a2 u0 u1 u2 : Value} {t : TypeId} (h : Aside0 (w.heap[g]? = some (.cells #[a0, a1, a2] t (0, 0)))) : (((w.setCell ⟨g, 0, none⟩ u0).setCell ⟨g, 1, none⟩ u1).setCell ⟨g, 2, none⟩ u2).heap[g]? = some (.cells #[u0, u1, u2] t (0, 0)) := blk_put (cs := #[u0, u1, a2]) (blk_put (cs := #[u0, a1, a2]) (blk_put (cs := #[a0, a1, a2]) h.out 0 u0 rfl) 1 u1 rfl) 2 u2 rfl
section
variable {α β : Type} {d : Kd α} {e base : Nat} {ok ok' : Nat → Prop} {v : Value} {xs : List α}
theorem bR (x : Aside0 q) (hb : Below w.heap.size w w1) (h : q → d.R e w base ok v xs := by intro h_; (with_reducible repeat (first | apply Kd.R_alloc | apply Kd.R_drewN | apply Kd.R_drew)); exact h_) : Aside0 (d.R e w1 base ok v xs) := ⟨Kd.R_below (h x.out) hb⟩
theorem eR {u : Value} {ys : List β} {e' : Nat} {d' : Kd β} (x : Aside0 q) (ho : d'.R e' w1 W.heap.size ok' u ys) (hb : Below W.heap.size W w1) (h : q → d.R e W base ok v xs := by intro h_; (with_reducible repeat (first | apply Kd.R_alloc | apply Kd.R_drewN | apply Kd.R_drew)); exact h_) : Aside0 (d.R e w1 base (fun k => ok k ∧ some k ≠ u.ownBlock) v xs) := ⟨Kd.R_elder' (h x.out) (Kd.R_base ho) hb⟩
theorem eR2 {γ : Type} {u u' : Value} {ys : List β} {zs : List γ} {e' e'' : Nat} {ok'' : Nat → Prop} {d' : Kd β} {d'' : Kd γ} (x : Aside0 q) (ho : d'.R e' w1 W.heap.size ok' u ys) (ho' : d''.R e'' w1 W.heap.size ok'' u' zs) (hb : Below W.heap.size W w1) (h : q → d.R e W base ok v xs := by intro h_; (with_reducible repeat (first | apply Kd.R_alloc | apply Kd.R_drewN | apply Kd.R_drew)); exact h_) : Aside0 (d.R e w1 base (fun k => (ok k ∧ some k ≠ u.ownBlock) ∧ some k ≠ u'.ownBlock) v xs) := ⟨Kd.R_mono (Kd.R_told (Kd.R_told (Kd.R_old (h x.out) hb) (Kd.R_base ho)) (Kd.R_base ho')) (fun _ h_ => h_.1)⟩
theorem sR {A : Option Addr} {m c : Nat} {p : Prop} (x : Aside0 (d.R e w base ok (.slice A m c) xs)) (h : d.C w A xs.length xs → p := by intro h_; repeat (first | exact h_ | (with_reducible refine Kd.C_alloc ?_ _) | (with_reducible refine Kd.C_drewN ?_ _) | (with_reducible refine Kd.C_drew ?_))) : p := h (Kd.R_reads' x.out).2.2
theorem sL {A : Option Addr} {m c : Nat} (x : Aside0 (d.R e w base ok (.slice A m c) xs)) : m ≤ c := (Kd.R_reads' x.out).2.1
theorem sC {A : Option Addr} {m : Nat} {p : Prop} (x : Aside0 (d.C w A m xs)) (hb : Aside0 (Below w.heap.size w w1)) (h : d.C w1 A m xs → p := by intro h_; repeat (first | exact h_ | (with_reducible refine Kd.C_alloc ?_ _) | (with_reducible refine Kd.C_drewN ?_ _) | (with_reducible refine Kd.C_drew ?_))) : p := h (Kd.C_below x.out hb.out)
theorem F3 {cells : Array Value} {t : TypeId} {u0 u1 u2 : Value} (h : Aside0 (d.R e w base ok v xs)) (hb : Aside0 (w.heap[g]? = some (.cells cells t (0, 0)))) (hk : ∀ k, ok k ∧ k ≠ g → ok' k) (ht : ∀ q, q ∈ e :: d.E → q ≠ t := by decide) : d.R e (((w.setCell ⟨g, 0, none⟩ u0).setCell ⟨g, 1, none⟩ u1).setCell ⟨g, 2, none⟩ u2) base ok' v xs := Kd.R_mono (Kd.R_far (p := ⟨g, 2, none⟩) (Kd.R_far (p := ⟨g, 1, none⟩) (Kd.R_far (p := ⟨g, 0, none⟩) (Kd.R_types h.out hb.out ht) (fun _ h => h.2) u0) (fun _ h => h.2) u1) (fun _ h => h.2) u2) hk
end
end
theorem qB1 {p q g0 : Prop} (x : Aside0 q) (yg0 : Aside0 g0) (h : q → g0 → p := by intro h_ hg0_; repeat (first | (with_reducible first | exact h_ | apply below_alloc | apply pw_below_drewN | apply below_drew1 | refine below_set ?_ hg0_) | exact h_)) : p := h x.out yg0.out
theorem qB2 {p q g0 g1 : Prop} (x : Aside0 q) (yg0 : Aside0 g0) (yg1 : Aside0 g1) (h : q → g0 → g1 → p := by intro h_ hg0_ hg1_; repeat (first | (with_reducible first | exact h_ | apply below_alloc | apply pw_below_drewN | apply below_drew1 | refine below_set ?_ hg0_ | refine below_set ?_ hg1_) | exact h_)) : p := h x.out yg0.out yg1.out
theorem qB3 {p q g0 g1 g2 : Prop} (x : Aside0 q) (yg0 : Aside0 g0) (yg1 : Aside0 g1) (yg2 : Aside0 g2) (h : q → g0 → g1 → g2 → p := by intro h_ hg0_ hg1_ hg2_; repeat (first | (with_reducible first | exact h_ | apply below_alloc | apply pw_below_drewN | apply below_drew1 | refine below_set ?_ hg0_ | refine below_set ?_ hg1_ | refine below_set ?_ hg2_) | exact h_)) : p := h x.out yg0.out yg1.out yg2.out
theorem qB4 {p q g0 g1 g2 g3 : Prop} (x : Aside0 q) (yg0 : Aside0 g0) (yg1 : Aside0 g1) (yg2 : Aside0 g2) (yg3 : Aside0 g3) (h : q → g0 → g1 → g2 → g3 → p := by intro h_ hg0_ hg1_ hg2_ hg3_; repeat (first | (with_reducible first | exact h_ | apply below_alloc | apply pw_below_drewN | apply below_drew1 | refine below_set ?_ hg0_ | refine below_set ?_ hg1_ | refine below_set ?_ hg2_ | refine below_set ?_ hg3_) | exact h_)) : p := h x.out yg0.out yg1.out yg2.out yg3.out
theorem qB5 {p q g0 g1 g2 g3 g4 : Prop} (x : Aside0 q) (yg0 : Aside0 g0) (yg1 : Aside0 g1) (yg2 : Aside0 g2) (yg3 : Aside0 g3) (yg4 : Aside0 g4) (h : q → g0 → g1 → g2 → g3 → g4 → p := by intro h_ hg0_ hg1_ hg2_ hg3_ hg4_; repeat (first | (with_reducible first | exact h_ | apply below_alloc | apply pw_below_drewN | apply below_drew1 | refine below_set ?_ hg0_ | refine below_set ?_ hg1_ | refine below_set ?_ hg2_ | refine below_set ?_ hg3_ | refine below_set ?_ hg4_) | exact h_)) : p := h x.out yg0.out yg1.out yg2.out yg3.out yg4.out
theorem w64o {x : Int} (h0 : -9223372036854775808 ≤ x) (h1 : x < 9223372036854775808) : wrap64 x = x := by unfold Go.RowKit.wrap64; omega
def vals (l : List Int) : Array Value := (l.map (Value.int .i64)).toArray
def zeros : List Int := List.replicate 64 0
theorem vals_cell {w : World} {g t : Nat} {s : List Int} (h : w.heap[g]? = some (.cells (vals s) t (0, 0))) (i : Int) (h0 : 0 ≤ i) (h1 : i < s.length) : w.cell? ⟨g, i.toNat, none⟩ = some (.int .i64 (rd s i)) := by
  rw [blk_cell h]
  have hi : i.toNat < s.length := by omega
  simp [vals, rd, List.getD_eq_getElem?_getD, List.getElem?_eq_getElem hi]
theorem vals_size (s : List Int) (h : s.length = 64) : (vals s).size = 64 := by simp [vals, h]
theorem vals_one (s : List Int) : (vals s).all (·.oneCell') = true := by simp [vals, Value.oneCell']
theorem bRow {B g : Nat} {w0 w : World} (hb : Below B w0 w) (hBg : B ≤ g) (cs : Array Value) : Below B w0 (w.setRow g cs) := hb.trans ⟨rfl, rfl, rfl, by simp, fun k hk => setRow_other _ _ _ _ (by omega)⟩
theorem vals_set (s : List Int) (i : Nat) (x : Int) : (vals s).setIfInBounds i (.int .i64 x) = vals (s.set i x) := by
  simp [vals, List.map_set]
theorem vals_get (s : List Int) (i : Nat) (h : i < s.length) : (vals s)[i]? = some (.int .i64 (rd s (i : Int))) := by
  simp [vals, rd, List.getD_eq_getElem?_getD, List.getElem?_eq_getElem h]
def bank_copied.f (a0_0 : Bool) (l0_1 : List Int) (l0_2 : List Int) : Option (Bool × List Int × List Int) := (some (([] : List Int) : List Int)).bind fun zl => (if zl.length + l0_1.length < 17592186044416 then ((some (([] : List Int) : List Int)).bind fun zk => (if zk.length + l0_2.length < 17592186044416 then (some (a0_0, (zl ++ l0_1), (zk ++ l0_2))) else (none))) else (none))
def bank_copied.T1 : Bool × List (List Nat × List Nat) := (true, [([], []), ([0], [0]), ([], []), ([], []), ([3], [3]), ([2, 4], [2, 4]), ([], []), ([], []), ([7], [7]), ([6, 8, 5], [6, 8]), ([1, 5, 9], [1, 5, 9]), ([10, 9, 0, 1, 2, 3, 4, 5, 6, 7, 8, 9, 10], [10])])
def bank_copied.B1 : List Nat := [0, 1, 0, 0, 8, 28, 0, 0, 128, 508, 1023, 2047]
theorem bank_copied.tab1 : rtab .any (opsOf Try.f51 1) = bank_copied.T1 := by kernel_rfl
theorem bank_copied.bits1 : waitsOk bank_copied.T1.2 bank_copied.B1 = true := by kernel_rfl
set_option maxHeartbeats 8000000 in
set_option maxRecDepth 100000 in
theorem bank_copied.calls (a0_0 : Bool) (A0_1 : Option Addr) (c0_1 : Nat) (l0_1 : List Int) (A0_2 : Option Addr) (c0_2 : Nat) (l0_2 : List Int) (r1 : Bool) (r2 : List Int) (r3 : List Int) (w : World) (hr0_1 : Kd.C (Kd.int .u64) w A0_1 l0_1.length l0_1) (hc0_1 : l0_1.length ≤ c0_1) (hr0_2 : Kd.C (Kd.int .u64) w A0_2 l0_2.length l0_2) (hc0_2 : l0_2.length ≤ c0_2) (h : bank_copied.f a0_0 l0_1 l0_2 = some (r1, r2, r3)) :
  Calls Try.prog 51 #[.agg #[.bool a0_0, .slice A0_1 l0_1.length c0_1, .slice A0_2 l0_2.length c0_2]] w fun e w' => ∃ v1_ v2_ : Value, e = .returned (.agg #[.bool r1, v1_, v2_]) ∧ Kd.R (Kd.int .u64) 61 w' w.heap.size (fun k_ => some k_ ≠ (v2_ : Value).ownBlock) v1_ r2 ∧ Kd.R (Kd.int .u64) 61 w' w.heap.size (fun k_ => some k_ ≠ (v1_ : Value).ownBlock) v2_ r3 ∧ Below w.heap.size w w' := by
 have hu78 := Try.underlying78
 have zt := aM hr0_1
 have HC0_1 := aM hc0_1
 clear hr0_1 hc0_1
 have HR0_2 := aM hr0_2
 have HC0_2 := aM hc0_2
 clear hr0_2 hc0_2
 have HB := aM (Below.refl w.heap.size w)
 have H : ((some (([] : List Int) : List Int)).bind fun zl => (if zl.length + l0_1.length < 17592186044416 then ((some (([] : List Int) : List Int)).bind fun zk => (if zk.length + l0_2.length < 17592186044416 then (some (a0_0, (zl ++ l0_1), (zk ++ l0_2))) else (none))) else (none))) = some (r1, r2, r3) := h
 clear h
 obtain ⟨zl, zu⟩ : ∃ y_ : List Int, y_ = (([] : List Int)) := ⟨_, rfl⟩
 replace H : (if zl.length + l0_1.length < 17592186044416 then ((some (([] : List Int) : List Int)).bind fun zk => (if zk.length + l0_2.length < 17592186044416 then (some (a0_0, (zl ++ l0_1), (zk ++ l0_2))) else (none))) else (none)) = some (r1, r2, r3) := pH zu H
 have zr := aM zu
 clear zu
 by_cases c2 : zl.length + l0_1.length < 17592186044416
 rotate_left
 ·rw [if_neg c2] at H
  exact absurd H (by simp)
 rw [if_pos c2] at H
 have z0 := aM c2
 clear c2
 obtain ⟨zs, zv⟩ : ∃ y_ : List Int, y_ = (zl ++ l0_1) := ⟨_, rfl⟩
 replace H : ((some (([] : List Int) : List Int)).bind fun zk => (if zk.length + l0_2.length < 17592186044416 then (some (a0_0, zs, (zk ++ l0_2))) else (none))) = some (r1, r2, r3) := pH zv H
 have zw := aM zv
 clear zv
 obtain ⟨zk, zx⟩ : ∃ y_ : List Int, y_ = (([] : List Int)) := ⟨_, rfl⟩
 replace H : (if zk.length + l0_2.length < 17592186044416 then (some (a0_0, zs, (zk ++ l0_2))) else (none)) = some (r1, r2, r3) := pH zx H
 have zo := aM zx
 clear zx
 by_cases c3 : zk.length + l0_2.length < 17592186044416
 rotate_left
 ·rw [if_neg c3] at H
  exact absurd H (by simp)
 rw [if_pos c3] at H
 have LMc3 := aM c3
 clear c3
 obtain ⟨z1, zy⟩ : ∃ y_ : List Int, y_ = (zk ++ l0_2) := ⟨_, rfl⟩
 replace H : (some (a0_0, zs, z1)) = some (r1, r2, r3) := pH zy H
 have Ny127 := aM zy
 clear zy
 simp only [Option.some.injEq, Prod.mk.injEq] at H
 obtain ⟨rfl, rfl, rfl⟩ := H
 go_enter Try.func51, Try.ntmps51
 try go_wp2_with (first | ((with_reducible refine gate_dst (N := 1) rfl ?_); refine box_event ?hg (N := 1) ?hd (cs := #[.bool a0_0, .slice A0_1 l0_1.length c0_1, .slice A0_2 l0_2.length c0_2]) (t := 78) ?hr ?_; (case hd => rfl); (case hg => rfl); (case hr => first | (go_simp; done) | (go_simp; rfl)); intro zi hg w4 hbox hb; have za := aM (hbox); have GW116 := gE (w := w) hg (qB HB); have zd := GW116; replace HB := bS (qB HB) hb; clear hb hbox hg) | ((with_reducible refine gate_dst (N := 2) rfl ?_); refine box_event ?hg (N := 2) ?hd (cs := #[.bool false, .slice none 0 0, .slice none 0 0]) (t := 78) ?hr ?_; (case hd => rfl); (case hg => rfl); (case hr => first | (go_simp; done) | (go_simp; rfl)); intro zf hg w5 hbox hb; have zb := aM (hbox); have GW117 := gE (w := w) hg (qB1 HB zd); have ze := GW117; replace HB := bS (qB1 HB zd) hb; have zc := nL hg za; have zm := nG hg za; replace za := bK za hb; clear hb hbox hg))
 replace za := aM (blk_drew za.out)
 replace zb := aM (blk_drew zb.out)
 replace HB := aM (below_drew1 HB.out)
 refine start_ (n := 12) (S := fun w' => w'.cell? ⟨zi, 0, none⟩ = some (.bool a0_0) ∧ w'.cell? ⟨zi, 1, none⟩ = some (.slice A0_1 l0_1.length c0_1) ∧ w'.cell? ⟨zi, 2, none⟩ = some (.slice A0_2 l0_2.length c0_2)) (ds := []) (bm 12 0) (by kernel_rfl) rfl rfl (h3 za) (fun hHeld => ?_); refine with_tabW bank_copied.tab1 bank_copied.bits1 (fun HT_ HW_ => ?_)
 generalize w5.drew = w6 at za zb HB hHeld ⊢
 refine pP (i := 0) (N := some 3) (bm 12 1) rfl rfl HT_.out ?_
 refine pP (i := 3) (N := some 6) (bm 12 9) rfl rfl HT_.out ?_
 refine pP (i := 7) (N := some 10) (bm 12 137) rfl rfl HT_.out ?_
 refine pT (i := 1) (N := some 4) (bm 12 139) rfl rfl HT_.out HW_.out hHeld (by rintro w' ⟨s0, s1, s2⟩; go_simp; with_reducible rfl) ?_
 refine pT (i := 4) (N := some 7) (bm 12 155) rfl rfl HT_.out HW_.out hHeld (by rintro w' ⟨s0, s1, s2⟩; go_simp; with_reducible rfl) ?_
 refine pT (i := 8) (N := some 11) (bm 12 411) rfl rfl HT_.out HW_.out hHeld (by rintro w' ⟨s0, s1, s2⟩; go_simp; with_reducible rfl) ?_
 refine join_ (σ := Value × Value × Value) 3 (bm 12 511) (fun s_ => [(5, s_.1), (8, s_.2.1), (9, s_.2.2)]) (fun s_ w' => (w'.cell? ⟨zi, 0, none⟩ = some (.bool a0_0) ∧ w'.cell? ⟨zi, 1, none⟩ = some (.slice A0_1 l0_1.length c0_1) ∧ w'.cell? ⟨zi, 2, none⟩ = some (.slice A0_2 l0_2.length c0_2)) ∧ (Kd.R (Kd.int .u64) 61 w' w.heap.size (fun k_ => some k_ ≠ (s_.2.2 : Value).ownBlock) s_.2.1 zs) ∧ (Kd.R (Kd.int .u64) 61 w' w.heap.size (fun k_ => some k_ ≠ (s_.2.1 : Value).ownBlock) s_.2.2 zk) ∧ (w'.heap[zi]? = some (.cells #[.bool a0_0, .slice A0_1 l0_1.length c0_1, .slice A0_2 l0_2.length c0_2] 78 (0, 0))) ∧ (w'.heap[zf]? = some (.cells #[.bool false, .slice none 0 0, .slice none 0 0] 78 (0, 0))) ∧ (Below w.heap.size w w')) ?_ ?_
 rotate_left
 ·intro hCont
  refine two_ (i := 2) (j := 6) (Ni := some 5) (Nj := some 9) (bm 12 415) (bm 12 475) rfl rfl rfl rfl (two_of HT_.out (by kernel_rfl)) (by decide) (by decide) (fun K hK => ?_) (fun K hK => ?_)
  ·skip
   refine Kd.R_lit_step (Kd.int .u64) _ 61 ?hg (N := 5) ?hd (xs := ([] : List Int)) (inner := []) (ok := fun _ => True) (okp := fun _ => True) ?hr ?hp (fun _ hk => hk) trivial (Below.refl _ _) (Nat.le_refl _) (by simp) ?_; (case hd => rfl); (case hg => rfl); (case hr => first | (go_simp; done) | (go_simp; rfl)); (case hp => exact (Reps.none _ _))
   intro zq w7 ho8 hb hg_ hnew_
   clear hg_ hnew_
   (first | rw [← zr.out] at ho8 | (simp only [Int.reduceToNat] at ho8; rw [← zr.out] at ho8))
   have zh := aM (Kd.R_lower ho8 (below_size (qB2 HB zd ze)))
   replace za := bK za hb
   replace zb := bK zb hb
   replace HB := bS (qB2 HB zd ze) hb
   clear hb ho8
   refine hK.out _ _ (h3 za) (fun hHeld => ?_)
   clear hK K
   refine norm_ (a' := ?_) ?_ ?_
   rotate_left
   ·show Act.put _ (some 5) _ = _
    simp only [Act.put, sP, i64_w, i32_w]
    rfl
   refine two_ (i := 5) (j := 6) (Ni := some 8) (Nj := some 9) (bm 12 447) (bm 12 479) rfl rfl rfl rfl (two_of HT_.out (by kernel_rfl)) (by decide) (by decide) (fun K hK => ?_) (fun K hK => ?_)
   ·skip
    refine Kd.R_append_rows_step (Kd.int .u64) (w0 := w) w.heap.size (by rfl) (.tmp 5) (.tmp 7) 76 61 (.int .u64 0) 8 rfl Try.underlying76 info61 rfl (by decide) (by omega) zq zl l0_1 _ _ _ (fun _ => True) (fun _ => False) rfl rfl ?aO ?aR (fun _ _ h => h) (fun _ h => h.elim) ?aF ?aB ?aS ?aL ?_
    (case aR => exact sC zt HB)
    (case aB => exact (qB2 HB zd ze))
    (case aF => exact (fun _ _ => trivial))
    (case aO => exact (pR zh.out))
    (case aS => exact (below_size (qB2 HB zd ze)))
    (case aL => have := z0.out; omega)
    intro zp w9 ho hb hg hat
    rw [← zw.out] at ho
    replace za := aM (blk_grown (g := zi) (pK za.out) hg (Kd.R_ne zh.out za.out (by decide)))
    replace zb := aM (blk_grown (g := zf) (pK zb.out) hg (Kd.R_ne zh.out zb.out (by decide)))
    replace HB := aM (hb)
    have zj := aM (ho)
    clear zh
    clear ho hb hg hat
    refine hK.out _ _ (h3 za) (fun hHeld => ?_)
    clear hK K
    refine norm_ (a' := ?_) ?_ ?_
    rotate_left
    ·show Act.put _ (some 8) _ = _
     simp only [Act.put, sP, i64_w, i32_w]
     rfl
    refine one_ (i := 6) (N := some 9) (bm 12 511) rfl rfl (one_of HT_.out (by kernel_rfl)) (by decide) (fun K hK => ?_)
    refine Kd.R_lit_step (Kd.int .u64) _ 61 ?hg (N := 9) ?hd (xs := ([] : List Int)) (inner := []) (ok := fun _ => True) (okp := fun _ => True) ?hr ?hp (fun _ hk => hk) trivial (Below.refl _ _) (Nat.le_refl _) (by simp) ?_; (case hd => rfl); (case hg => rfl); (case hr => first | (go_simp; done) | (go_simp; rfl)); (case hp => exact (Reps.none _ _))
    intro zn w10 ho11 hb hg_ hnew_
    clear hg_ hnew_
    (first | rw [← zo.out] at ho11 | (simp only [Int.reduceToNat] at ho11; rw [← zo.out] at ho11))
    have zg := aM (Kd.R_lower (Kd.R_new' ho11 (Kd.R_lt (pR zj.out))) (below_size (qB2 HB zd ze)))
    replace zj := eR zj ho11 hb
    replace za := bK za hb
    replace zb := bK zb hb
    replace HB := bS (qB2 HB zd ze) hb
    clear hb ho11
    refine hK.out _ _ (h3 za) (fun hHeld => ?_)
    clear hK K
    refine norm_ (a' := ?_) ?_ ?_
    rotate_left
    ·show Act.put _ (some 9) _ = _
     simp only [Act.put, sP, i64_w, i32_w]
     rfl
    exact norm_ (by simp only [putAll, Act.put, sP]) (hCont (zq, zp, zn) _ ⟨hHeld, (by (with_reducible repeat (first | apply rA | apply rN | apply rD)); exact Kd.R_mono zj.out (fun _ hk => hk.2)), (by (with_reducible repeat (first | apply rA | apply rN | apply rD)); exact Kd.R_mono zg.out (fun _ hk => hk.2)), (pK za.out), (pK zb.out), (qB2 HB zd ze)⟩)
   ·skip
    refine Kd.R_lit_step (Kd.int .u64) _ 61 ?hg (N := 9) ?hd (xs := ([] : List Int)) (inner := []) (ok := fun _ => True) (okp := fun _ => True) ?hr ?hp (fun _ hk => hk) trivial (Below.refl _ _) (Nat.le_refl _) (by simp) ?_; (case hd => rfl); (case hg => rfl); (case hr => first | (go_simp; done) | (go_simp; rfl)); (case hp => exact (Reps.none _ _))
    intro zn w9 ho10 hb hg_ hnew_
    clear hg_ hnew_
    (first | rw [← zo.out] at ho10 | (simp only [Int.reduceToNat] at ho10; rw [← zo.out] at ho10))
    have zg := aM (Kd.R_lower (Kd.R_new' ho10 (Kd.R_lt (pR zh.out))) (below_size (qB2 HB zd ze)))
    replace zh := eR zh ho10 hb
    replace za := bK za hb
    replace zb := bK zb hb
    replace HB := bS (qB2 HB zd ze) hb
    clear hb ho10
    refine hK.out _ _ (h3 za) (fun hHeld => ?_)
    clear hK K
    refine norm_ (a' := ?_) ?_ ?_
    rotate_left
    ·show Act.put _ (some 9) _ = _
     simp only [Act.put, sP, i64_w, i32_w]
     rfl
    refine one_ (i := 5) (N := some 8) (bm 12 511) rfl rfl (one_of HT_.out (by kernel_rfl)) (by decide) (fun K hK => ?_)
    refine Kd.R_append_rows_step (Kd.int .u64) (w0 := w) w.heap.size (by rfl) (.tmp 5) (.tmp 7) 76 61 (.int .u64 0) 8 rfl Try.underlying76 info61 rfl (by decide) (by omega) zq zl l0_1 _ _ _ (fun k_ => some k_ ≠ (zn : Value).ownBlock) (fun _ => False) rfl rfl ?aO ?aR (fun _ _ h => h) (fun _ h => h.elim) ?aF ?aB ?aS ?aL ?_
    (case aR => exact sC zt HB)
    (case aB => exact (qB2 HB zd ze))
    (case aF => exact (fun k_ hk => Kd.fresh' (Kd.R_lt (pR zg.out)) k_ hk))
    (case aO => exact (by (with_reducible repeat (first | apply rA | apply rN | apply rD)); exact Kd.R_mono zh.out (fun _ hk => hk.2)))
    (case aS => exact (below_size (qB2 HB zd ze)))
    (case aL => have := z0.out; omega)
    intro zp w11 ho hb hg hat
    rw [← zw.out] at ho
    replace za := aM (blk_grown (g := zi) (pK za.out) hg (Kd.R_ne zh.out za.out (by decide)))
    replace zb := aM (blk_grown (g := zf) (pK zb.out) hg (Kd.R_ne zh.out zb.out (by decide)))
    replace zg := aM (Kd.R_after (ok := (fun _ => True)) (pR zg.out) hg hat)
    replace HB := aM (hb)
    have zj := aM (ho)
    clear zh
    clear ho hb hg hat
    refine hK.out _ _ (h3 za) (fun hHeld => ?_)
    clear hK K
    refine norm_ (a' := ?_) ?_ ?_
    rotate_left
    ·show Act.put _ (some 8) _ = _
     simp only [Act.put, sP, i64_w, i32_w]
     rfl
    exact norm_ (by simp only [putAll, Act.put, sP]) (hCont (zq, zp, zn) _ ⟨hHeld, (pR zj.out), (by (with_reducible repeat (first | apply rA | apply rN | apply rD)); exact Kd.R_mono zg.out (fun _ hk => hk.2)), (pK za.out), (pK zb.out), (qB2 HB zd ze)⟩)
  ·skip
   refine Kd.R_lit_step (Kd.int .u64) _ 61 ?hg (N := 9) ?hd (xs := ([] : List Int)) (inner := []) (ok := fun _ => True) (okp := fun _ => True) ?hr ?hp (fun _ hk => hk) trivial (Below.refl _ _) (Nat.le_refl _) (by simp) ?_; (case hd => rfl); (case hg => rfl); (case hr => first | (go_simp; done) | (go_simp; rfl)); (case hp => exact (Reps.none _ _))
   intro zn w7 ho8 hb hg_ hnew_
   clear hg_ hnew_
   (first | rw [← zo.out] at ho8 | (simp only [Int.reduceToNat] at ho8; rw [← zo.out] at ho8))
   have zg := aM (Kd.R_lower ho8 (below_size (qB2 HB zd ze)))
   replace za := bK za hb
   replace zb := bK zb hb
   replace HB := bS (qB2 HB zd ze) hb
   clear hb ho8
   refine hK.out _ _ (h3 za) (fun hHeld => ?_)
   clear hK K
   refine norm_ (a' := ?_) ?_ ?_
   rotate_left
   ·show Act.put _ (some 9) _ = _
    simp only [Act.put, sP, i64_w, i32_w]
    rfl
   refine one_ (i := 2) (N := some 5) (bm 12 479) rfl rfl (one_of HT_.out (by kernel_rfl)) (by decide) (fun K hK => ?_)
   refine Kd.R_lit_step (Kd.int .u64) _ 61 ?hg (N := 5) ?hd (xs := ([] : List Int)) (inner := []) (ok := fun _ => True) (okp := fun _ => True) ?hr ?hp (fun _ hk => hk) trivial (Below.refl _ _) (Nat.le_refl _) (by simp) ?_; (case hd => rfl); (case hg => rfl); (case hr => first | (go_simp; done) | (go_simp; rfl)); (case hp => exact (Reps.none _ _))
   intro zq w9 ho10 hb hg_ hnew_
   clear hg_ hnew_
   (first | rw [← zr.out] at ho10 | (simp only [Int.reduceToNat] at ho10; rw [← zr.out] at ho10))
   have zh := aM (Kd.R_lower (Kd.R_new' ho10 (Kd.R_lt (pR zg.out))) (below_size (qB2 HB zd ze)))
   replace zg := eR zg ho10 hb
   replace za := bK za hb
   replace zb := bK zb hb
   replace HB := bS (qB2 HB zd ze) hb
   clear hb ho10
   refine hK.out _ _ (h3 za) (fun hHeld => ?_)
   clear hK K
   refine norm_ (a' := ?_) ?_ ?_
   rotate_left
   ·show Act.put _ (some 5) _ = _
    simp only [Act.put, sP, i64_w, i32_w]
    rfl
   refine one_ (i := 5) (N := some 8) (bm 12 511) rfl rfl (one_of HT_.out (by kernel_rfl)) (by decide) (fun K hK => ?_)
   refine Kd.R_append_rows_step (Kd.int .u64) (w0 := w) w.heap.size (by rfl) (.tmp 5) (.tmp 7) 76 61 (.int .u64 0) 8 rfl Try.underlying76 info61 rfl (by decide) (by omega) zq zl l0_1 _ _ _ (fun k_ => some k_ ≠ (zn : Value).ownBlock) (fun _ => False) rfl rfl ?aO ?aR (fun _ _ h => h) (fun _ h => h.elim) ?aF ?aB ?aS ?aL ?_
   (case aR => exact sC zt HB)
   (case aB => exact (qB2 HB zd ze))
   (case aF => exact (fun k_ hk => Kd.fresh' (Kd.R_lt (pR zg.out)) k_ hk))
   (case aO => exact (by (with_reducible repeat (first | apply rA | apply rN | apply rD)); exact Kd.R_mono zh.out (fun _ hk => hk.2)))
   (case aS => exact (below_size (qB2 HB zd ze)))
   (case aL => have := z0.out; omega)
   intro zp w11 ho hb hg hat
   rw [← zw.out] at ho
   replace za := aM (blk_grown (g := zi) (pK za.out) hg (Kd.R_ne zh.out za.out (by decide)))
   replace zb := aM (blk_grown (g := zf) (pK zb.out) hg (Kd.R_ne zh.out zb.out (by decide)))
   replace zg := aM (Kd.R_after (ok := (fun _ => True)) (pR zg.out) hg hat)
   replace HB := aM (hb)
   have zj := aM (ho)
   clear zh
   clear ho hb hg hat
   refine hK.out _ _ (h3 za) (fun hHeld => ?_)
   clear hK K
   refine norm_ (a' := ?_) ?_ ?_
   rotate_left
   ·show Act.put _ (some 8) _ = _
    simp only [Act.put, sP, i64_w, i32_w]
    rfl
   exact norm_ (by simp only [putAll, Act.put, sP]) (hCont (zq, zp, zn) _ ⟨hHeld, (pR zj.out), (by (with_reducible repeat (first | apply rA | apply rN | apply rD)); exact Kd.R_mono zg.out (fun _ hk => hk.2)), (pK za.out), (pK zb.out), (qB2 HB zd ze)⟩)
 rintro ⟨zq, zp, zn⟩ w12 ⟨hS_, h0_, h1_, h2_, h3_, h4_⟩
 have n0_ : Aside0 (Kd.R (Kd.int .u64) 61 w12 w.heap.size (fun k_ => some k_ ≠ (zn : Value).ownBlock) zp zs) := ⟨h0_⟩
 have n1_ : Aside0 (Kd.R (Kd.int .u64) 61 w12 w.heap.size (fun k_ => some k_ ≠ (zp : Value).ownBlock) zn zk) := ⟨h1_⟩
 have n2_ : Aside0 (w12.heap[zi]? = some (.cells #[.bool a0_0, .slice A0_1 l0_1.length c0_1, .slice A0_2 l0_2.length c0_2] 78 (0, 0))) := ⟨h2_⟩
 have n3_ : Aside0 (w12.heap[zf]? = some (.cells #[.bool false, .slice none 0 0, .slice none 0 0] 78 (0, 0))) := ⟨h3_⟩
 have n4_ : Aside0 (Below w.heap.size w w12) := ⟨h4_⟩
 clear za
 clear zb
 clear HB
 clear h0_ h1_ h2_ h3_ h4_
 have zj := n0_
 have zg := n1_
 have za := n2_
 have zb := n3_
 have HB := n4_
 clear n0_ n1_ n2_ n3_ n4_
 have hHeld : w12.cell? ⟨zi, 0, none⟩ = some (.bool a0_0) ∧ w12.cell? ⟨zi, 1, none⟩ = some (.slice A0_1 l0_1.length c0_1) ∧ w12.cell? ⟨zi, 2, none⟩ = some (.slice A0_2 l0_2.length c0_2) := hS_
 refine norm_ (a' := ?_) ?_ ?_
 rotate_left
 ·simp only [putAll, Act.put, sP]
  rfl
 refine one_ (i := 9) (N := some 12) (bm 12 1023) rfl rfl (one_of HT_.out (by kernel_rfl)) (by decide) (fun K hK => ?_)
 refine Kd.R_append_rows_step (Kd.int .u64) (w0 := w) w.heap.size (by rfl) (.tmp 9) (.tmp 11) 76 61 (.int .u64 0) 8 rfl Try.underlying76 info61 rfl (by decide) (by omega) zn zk l0_2 _ _ _ (fun k_ => some k_ ≠ (zp : Value).ownBlock) (fun _ => False) rfl rfl ?aO ?aR (fun _ _ h => h) (fun _ h => h.elim) ?aF ?aB ?aS ?aL ?_
 (case aR => exact sC HR0_2 HB)
 (case aB => exact (qB2 HB zd ze))
 (case aF => exact (fun k_ hk => Kd.fresh' (Kd.R_lt (pR zj.out)) k_ hk))
 (case aO => exact (pR zg.out))
 (case aS => exact (below_size (qB2 HB zd ze)))
 (case aL => have := LMc3.out; omega)
 intro v128 w13 ho hb hg hat
 rw [← Ny127.out] at ho
 replace za := aM (blk_grown (g := zi) (pK za.out) hg (Kd.R_ne zg.out za.out (by decide)))
 replace zb := aM (blk_grown (g := zf) (pK zb.out) hg (Kd.R_ne zg.out zb.out (by decide)))
 replace zj := aM (Kd.R_after (ok := (fun _ => True)) (by (with_reducible repeat (first | apply rA | apply rN | apply rD)); exact Kd.R_mono zj.out (fun _ hk => ⟨trivial, hk⟩)) hg hat)
 replace HB := aM (hb)
 have zz := aM (ho)
 clear zg
 clear ho hb hg hat
 obtain ⟨Ao14, co14, z2⟩ := Kd.R_slice zz.out
 (first | subst z2 | (injection z2 with f1_ f2_ f3_; have f4_ := f1_.symm; have f5_ := f3_.symm; clear f1_ f2_ f3_; subst f4_; subst f5_))
 obtain ⟨Ao15, co15, z3⟩ := Kd.R_slice zj.out
 (first | subst z3 | (injection z3 with f1_ f2_ f3_; have f4_ := f1_.symm; have f5_ := f3_.symm; clear f1_ f2_ f3_; subst f4_; subst f5_))
 refine hK.out _ _ (h3 za) (fun hHeld => ?_)
 clear hK K
 refine norm_ (a' := ?_) ?_ ?_
 rotate_left
 ·show Act.put _ (some 12) _ = _
  simp only [Act.put, sP, i64_w, i32_w]
  rfl
 refine pP (i := 10) (N := some 13) (bm 12 2047) rfl rfl HT_.out ?_
 refine one_ (i := 11) (N := none) (bm 12 4095) rfl rfl (one_of HT_.out (by kernel_rfl)) (by decide) (fun K hK => ?_)
 have hs16 : w13.cell? ⟨zf, 0, none⟩ = some (.bool false) := (blk_cell zb.out 0).trans rfl
 have hfs16 := blk_frozen zb.out 0
 have hns16_0 := zc.out
 have hms16_0 := zm.out
 have hs17 : w13.cell? ⟨zf, 1, none⟩ = some (.slice none 0 0) := (blk_cell zb.out 1).trans rfl
 have hfs17 := blk_frozen zb.out 1
 have hns17_0 := zc.out
 have hms17_0 := zm.out
 have hs18 : w13.cell? ⟨zf, 2, none⟩ = some (.slice none 0 0) := (blk_cell zb.out 2).trans rfl
 have hfs18 := blk_frozen zb.out 2
 have hns18_0 := zc.out
 have hms18_0 := zm.out
 refine skip_ (w1 := ?_) (by rfl) rfl ?_ ?_
 rotate_left
 ·go_simp
  rfl
 refine hK.out _ _ ⟨((cell_far (p := ⟨zf, _, none⟩) zc.out _).trans (((cell_far (p := ⟨zf, _, none⟩) zc.out _).trans (((cell_far (p := ⟨zf, _, none⟩) zc.out _).trans (hHeld.1)))))), ((cell_far (p := ⟨zf, _, none⟩) zc.out _).trans (((cell_far (p := ⟨zf, _, none⟩) zc.out _).trans (((cell_far (p := ⟨zf, _, none⟩) zc.out _).trans (hHeld.2.1)))))), ((cell_far (p := ⟨zf, _, none⟩) zc.out _).trans (((cell_far (p := ⟨zf, _, none⟩) zc.out _).trans (((cell_far (p := ⟨zf, _, none⟩) zc.out _).trans (hHeld.2.2))))))⟩ (fun hHeld => ?_)
 clear hK K
 refine done_ (done_of HT_.out (by kernel_rfl)) ?_
 try go_wp2
 refine bodyPost_ret (results_cell_row rfl _ _ zf 78 #[.bool a0_0, .slice Ao15 zs.length co15, .slice Ao14 z1.length co14] (0, 0) _ rfl (by exact P3 zb) Try.underlying78 rfl (by kernel_rfl)) rfl ?_
 exact ⟨_, _, pE, by (with_reducible repeat (first | apply rA | apply rN | apply rD)); exact F3 zj zb (fun _ hk => hk.1.2), by (with_reducible repeat (first | apply rA | apply rN | apply rD)); exact F3 zz zb (fun _ hk => hk.1), qB2 HB zd ze⟩
def bank_Copy.f (a0_0 : Bool) (l0_1 : List Int) (l0_2 : List Int) (a0_3 : Int) (a0_4 : Int) : Option (Bool × List Int × List Int × Int × Int) := (bank_copied.f a0_0 l0_1 l0_2).bind fun bt132 => (some (bt132.1, bt132.2.1, bt132.2.2, a0_3, a0_4))
def bank_Copy.T1 : Bool × List (List Nat × List Nat) := (true, [([], []), ([0], [0]), ([1], [1]), ([], []), ([3], [3]), ([], []), ([5], [5]), ([2, 4, 6], [2, 4, 6]), ([7, 2, 0, 1, 2, 3, 4, 5, 6, 7], [7])])
def bank_Copy.B1 : List Nat := [0, 1, 3, 0, 8, 0, 32, 127, 255]
theorem bank_Copy.tab1 : rtab .any (opsOf Try.f48 1) = bank_Copy.T1 := by kernel_rfl
theorem bank_Copy.bits1 : waitsOk bank_Copy.T1.2 bank_Copy.B1 = true := by kernel_rfl
set_option maxHeartbeats 8000000 in
set_option maxRecDepth 100000 in
theorem bank_Copy.calls (a0_0 : Bool) (A0_1 : Option Addr) (c0_1 : Nat) (l0_1 : List Int) (A0_2 : Option Addr) (c0_2 : Nat) (l0_2 : List Int) (a0_3 : Int) (a0_4 : Int) (r1 : Bool) (r2 : List Int) (r3 : List Int) (r4 : Int) (r5 : Int) (w : World) (hr0_1 : Kd.C (Kd.int .u64) w A0_1 l0_1.length l0_1) (hc0_1 : l0_1.length ≤ c0_1) (hr0_2 : Kd.C (Kd.int .u64) w A0_2 l0_2.length l0_2) (hc0_2 : l0_2.length ≤ c0_2) (h : bank_Copy.f a0_0 l0_1 l0_2 a0_3 a0_4 = some (r1, r2, r3, r4, r5)) :
  Calls Try.prog 48 #[.agg #[.bool a0_0, .slice A0_1 l0_1.length c0_1, .slice A0_2 l0_2.length c0_2, .int .u64 a0_3, .int .i64 a0_4]] w fun e w' => ∃ v1_ v2_ : Value, e = .returned (.agg #[.bool r1, v1_, v2_, .int .u64 r4, .int .i64 r5]) ∧ Kd.R (Kd.int .u64) 61 w' w.heap.size (fun k_ => some k_ ≠ (v2_ : Value).ownBlock) v1_ r2 ∧ Kd.R (Kd.int .u64) 61 w' w.heap.size (fun k_ => some k_ ≠ (v1_ : Value).ownBlock) v2_ r3 ∧ Below w.heap.size w w' := by
 have hu80 := Try.underlying80
 have hu78 := Try.underlying78
 have HR0_1 := aM hr0_1
 have HC0_1 := aM hc0_1
 clear hr0_1 hc0_1
 have HR0_2 := aM hr0_2
 have HC0_2 := aM hc0_2
 clear hr0_2 hc0_2
 have HB := aM (Below.refl w.heap.size w)
 have H : ((bank_copied.f a0_0 l0_1 l0_2).bind fun bt132 => (some (bt132.1, bt132.2.1, bt132.2.2, a0_3, a0_4))) = some (r1, r2, r3, r4, r5) := h
 clear h
 replace H := Option.bind_eq_some_iff.mp H
 obtain ⟨⟨zg, zi, zk⟩, A20, H⟩ := H
 try dsimp only at H
 have A2 := aM A20
 clear A20
 simp only [Option.some.injEq, Prod.mk.injEq] at H
 obtain ⟨rfl, rfl, rfl, rfl, rfl⟩ := H
 go_enter Try.func48, Try.ntmps48
 try go_wp2_with (first | ((with_reducible refine gate_dst (N := 1) rfl ?_); refine box_event ?hg (N := 1) ?hd (cs := #[.bool a0_0, .slice A0_1 l0_1.length c0_1, .slice A0_2 l0_2.length c0_2, .int .u64 a0_3, .int .i64 a0_4]) (t := 80) ?hr ?_; (case hd => rfl); (case hg => rfl); (case hr => first | (go_simp; done) | (go_simp; rfl)); intro zh hg w3 hbox hb; have zc := aM (hbox); have GW130 := gE (w := w) hg (qB HB); have zf := GW130; replace HB := bS (qB HB) hb; clear hb hbox hg) | ((with_reducible refine gate_dst (N := 2) rfl ?_); refine box_event ?hg (N := 2) ?hd (cs := #[.bool false, .slice none 0 0, .slice none 0 0, .int .u64 0, .int .i64 0]) (t := 80) ?hr ?_; (case hd => rfl); (case hg => rfl); (case hr => first | (go_simp; done) | (go_simp; rfl)); intro zb hg w4 hbox hb; have zd := aM (hbox); have GW131 := gE (w := w) hg (qB1 HB zf); have zj := GW131; replace HB := bS (qB1 HB zf) hb; have za := nL hg zc; have ze := nG hg zc; replace zc := bK zc hb; clear hb hbox hg))
 replace zc := aM (blk_drew zc.out)
 replace zd := aM (blk_drew zd.out)
 replace HB := aM (below_drew1 HB.out)
 refine start_ (n := 9) (S := fun w' => w'.cell? ⟨zh, 0, none⟩ = some (.bool a0_0) ∧ w'.cell? ⟨zh, 1, none⟩ = some (.slice A0_1 l0_1.length c0_1) ∧ w'.cell? ⟨zh, 2, none⟩ = some (.slice A0_2 l0_2.length c0_2) ∧ w'.cell? ⟨zh, 3, none⟩ = some (.int .u64 a0_3) ∧ w'.cell? ⟨zh, 4, none⟩ = some (.int .i64 a0_4)) (ds := []) (bm 9 0) (by kernel_rfl) rfl rfl ⟨(blk_cell zc.out 0).trans rfl, (blk_cell zc.out 1).trans rfl, (blk_cell zc.out 2).trans rfl, (blk_cell zc.out 3).trans rfl, (blk_cell zc.out 4).trans rfl⟩ (fun hHeld => ?_); refine with_tabW bank_Copy.tab1 bank_Copy.bits1 (fun HT_ HW_ => ?_)
 generalize w4.drew = w5 at zc zd HB hHeld ⊢
 refine pP (i := 0) (N := some 3) (bm 9 1) rfl rfl HT_.out ?_
 refine pP (i := 3) (N := some 6) (bm 9 9) rfl rfl HT_.out ?_
 refine pP (i := 5) (N := some 8) (bm 9 41) rfl rfl HT_.out ?_
 refine pT (i := 1) (N := some 4) (bm 9 43) rfl rfl HT_.out HW_.out hHeld (by rintro w' ⟨s0, s1, s2, s3, s4⟩; go_simp; with_reducible rfl) ?_
 refine pT (i := 4) (N := some 7) (bm 9 59) rfl rfl HT_.out HW_.out hHeld (by rintro w' ⟨s0, s1, s2, s3, s4⟩; go_simp; with_reducible rfl) ?_
 refine pT (i := 6) (N := some 9) (bm 9 123) rfl rfl HT_.out HW_.out hHeld (by rintro w' ⟨s0, s1, s2, s3, s4⟩; go_simp; with_reducible rfl) ?_
 refine one_ (i := 2) (N := some 5) (bm 9 127) rfl rfl (one_of HT_.out (by kernel_rfl)) (by decide) (fun K hK => ?_)
 refine goes_ Try.func51 (by kernel_rfl) rfl #[.agg #[.bool a0_0, .slice A0_1 l0_1.length c0_1, .slice A0_2 l0_2.length c0_2]] (by rfl) rfl rfl pA ?_
 with_reducible refine (bank_copied.calls a0_0 _ _ l0_1 _ _ l0_2 zg zi zk _ ?s1 ?s2 ?s3 ?s4 A2.out).mono ?_
 (case s1 => exact sC HR0_1 HB)
 (case s2 => exact HC0_1.out)
 (case s3 => exact sC HR0_2 HB)
 (case s4 => exact HC0_2.out)
 rintro e w6 ⟨v134, v137, rfl, ho0, ho1, hb⟩
 refine ⟨_, rfl, ?_⟩
 have zl := aM (Kd.R_lower ho0 (below_size (qB2 HB zf zj)))
 have zm := aM (Kd.R_lower ho1 (below_size (qB2 HB zf zj)))
 replace zc := bK zc hb
 replace zd := bK zd hb
 replace HB := bS (qB2 HB zf zj) hb
 (try clear hb)
 (try clear ho0)
 (try clear ho1)
 obtain ⟨Ao7, co7, eo7⟩ := Kd.R_slice zm.out
 (first | subst eo7 | (injection eo7 with f1_ f2_ f3_; have f4_ := f1_.symm; have f5_ := f3_.symm; clear f1_ f2_ f3_; subst f4_; subst f5_))
 obtain ⟨Ao8, co8, eo8⟩ := Kd.R_slice zl.out
 (first | subst eo8 | (injection eo8 with f1_ f2_ f3_; have f4_ := f1_.symm; have f5_ := f3_.symm; clear f1_ f2_ f3_; subst f4_; subst f5_))
 refine hK.out _ _ ⟨(blk_cell zc.out 0).trans rfl, (blk_cell zc.out 1).trans rfl, (blk_cell zc.out 2).trans rfl, (blk_cell zc.out 3).trans rfl, (blk_cell zc.out 4).trans rfl⟩ (fun hHeld => ?_)
 clear hK K
 refine norm_ (a' := ?_) ?_ ?_
 rotate_left
 ·show Act.put _ (some 5) _ = _
  simp only [Act.put, sP, i64_w, i32_w]
  rfl
 refine pP (i := 7) (N := some 10) (bm 9 255) rfl rfl HT_.out ?_
 refine one_ (i := 8) (N := none) (bm 9 511) rfl rfl (one_of HT_.out (by kernel_rfl)) (by decide) (fun K hK => ?_)
 have hs9 : w6.cell? ⟨zb, 0, none⟩ = some (.bool false) := (blk_cell zd.out 0).trans rfl
 have hfs9 := blk_frozen zd.out 0
 have hns9_0 := za.out
 have hms9_0 := ze.out
 have hs10 : w6.cell? ⟨zb, 1, none⟩ = some (.slice none 0 0) := (blk_cell zd.out 1).trans rfl
 have hfs10 := blk_frozen zd.out 1
 have hns10_0 := za.out
 have hms10_0 := ze.out
 have hs11 : w6.cell? ⟨zb, 2, none⟩ = some (.slice none 0 0) := (blk_cell zd.out 2).trans rfl
 have hfs11 := blk_frozen zd.out 2
 have hns11_0 := za.out
 have hms11_0 := ze.out
 have hs12 : w6.cell? ⟨zb, 3, none⟩ = some (.int .u64 0) := (blk_cell zd.out 3).trans rfl
 have hfs12 := blk_frozen zd.out 3
 have hns12_0 := za.out
 have hms12_0 := ze.out
 have hs13 : w6.cell? ⟨zb, 4, none⟩ = some (.int .i64 0) := (blk_cell zd.out 4).trans rfl
 have hfs13 := blk_frozen zd.out 4
 have hns13_0 := za.out
 have hms13_0 := ze.out
 refine skip_ (w1 := ?_) (by rfl) rfl ?_ ?_
 rotate_left
 ·go_simp
  rfl
 refine hK.out _ _ ⟨((cell_far (p := ⟨zb, _, none⟩) za.out _).trans (((cell_far (p := ⟨zb, _, none⟩) za.out _).trans (((cell_far (p := ⟨zb, _, none⟩) za.out _).trans (((cell_far (p := ⟨zb, _, none⟩) za.out _).trans (((cell_far (p := ⟨zb, _, none⟩) za.out _).trans (hHeld.1)))))))))), ((cell_far (p := ⟨zb, _, none⟩) za.out _).trans (((cell_far (p := ⟨zb, _, none⟩) za.out _).trans (((cell_far (p := ⟨zb, _, none⟩) za.out _).trans (((cell_far (p := ⟨zb, _, none⟩) za.out _).trans (((cell_far (p := ⟨zb, _, none⟩) za.out _).trans (hHeld.2.1)))))))))), ((cell_far (p := ⟨zb, _, none⟩) za.out _).trans (((cell_far (p := ⟨zb, _, none⟩) za.out _).trans (((cell_far (p := ⟨zb, _, none⟩) za.out _).trans (((cell_far (p := ⟨zb, _, none⟩) za.out _).trans (((cell_far (p := ⟨zb, _, none⟩) za.out _).trans (hHeld.2.2.1)))))))))), ((cell_far (p := ⟨zb, _, none⟩) za.out _).trans (((cell_far (p := ⟨zb, _, none⟩) za.out _).trans (((cell_far (p := ⟨zb, _, none⟩) za.out _).trans (((cell_far (p := ⟨zb, _, none⟩) za.out _).trans (((cell_far (p := ⟨zb, _, none⟩) za.out _).trans (hHeld.2.2.2.1)))))))))), ((cell_far (p := ⟨zb, _, none⟩) za.out _).trans (((cell_far (p := ⟨zb, _, none⟩) za.out _).trans (((cell_far (p := ⟨zb, _, none⟩) za.out _).trans (((cell_far (p := ⟨zb, _, none⟩) za.out _).trans (((cell_far (p := ⟨zb, _, none⟩) za.out _).trans (hHeld.2.2.2.2))))))))))⟩ (fun hHeld => ?_)
 clear hK K
 refine done_ (done_of HT_.out (by kernel_rfl)) ?_
 try go_wp2
 refine bodyPost_ret (results_cell_row rfl _ _ zb 80 #[.bool zg, .slice Ao8 zi.length co8, .slice Ao7 zk.length co7, .int .u64 a0_3, .int .i64 a0_4] (0, 0) _ rfl (by (with_reducible repeat (first | apply bN | apply bD | apply bA)); refine blk_put (cs := #[.bool zg, .slice Ao8 zi.length co8, .slice Ao7 zk.length co7, .int .u64 a0_3, .int .i64 0]) ?_ 4 _ rfl; (with_reducible repeat (first | apply bN | apply bD | apply bA)); refine blk_put (cs := #[.bool zg, .slice Ao8 zi.length co8, .slice Ao7 zk.length co7, .int .u64 0, .int .i64 0]) ?_ 3 _ rfl; (with_reducible repeat (first | apply bN | apply bD | apply bA)); refine blk_put (cs := #[.bool zg, .slice Ao8 zi.length co8, .slice none 0 0, .int .u64 0, .int .i64 0]) ?_ 2 _ rfl; (with_reducible repeat (first | apply bN | apply bD | apply bA)); refine blk_put (cs := #[.bool zg, .slice none 0 0, .slice none 0 0, .int .u64 0, .int .i64 0]) ?_ 1 _ rfl; (with_reducible repeat (first | apply bN | apply bD | apply bA)); refine blk_put (cs := #[.bool false, .slice none 0 0, .slice none 0 0, .int .u64 0, .int .i64 0]) ?_ 0 _ rfl; (with_reducible repeat (first | apply bN | apply bD | apply bA)); exact zd.out) Try.underlying80 rfl (by kernel_rfl)) rfl ?_
 exact ⟨_, _, pE, by (with_reducible repeat (first | apply rA | apply rN | apply rD)); exact Kd.R_mono (Kd.R_far (p := ⟨zb, 4, none⟩) (Kd.R_far (p := ⟨zb, 3, none⟩) (Kd.R_far (p := ⟨zb, 2, none⟩) (Kd.R_far (p := ⟨zb, 1, none⟩) (Kd.R_far (p := ⟨zb, 0, none⟩) (Kd.R_types zl.out zd.out (by decide)) (fun _ hk => hk.2) (.bool zg)) (fun _ hk => hk.2) (.slice Ao8 zi.length co8)) (fun _ hk => hk.2) (.slice Ao7 zk.length co7)) (fun _ hk => hk.2) (.int .u64 a0_3)) (fun _ hk => hk.2) (.int .i64 a0_4)) (fun _ hk => hk.1), by (with_reducible repeat (first | apply rA | apply rN | apply rD)); exact Kd.R_mono (Kd.R_far (p := ⟨zb, 4, none⟩) (Kd.R_far (p := ⟨zb, 3, none⟩) (Kd.R_far (p := ⟨zb, 2, none⟩) (Kd.R_far (p := ⟨zb, 1, none⟩) (Kd.R_far (p := ⟨zb, 0, none⟩) (Kd.R_types zm.out zd.out (by decide)) (fun _ hk => hk.2) (.bool zg)) (fun _ hk => hk.2) (.slice Ao8 zi.length co8)) (fun _ hk => hk.2) (.slice Ao7 zk.length co7)) (fun _ hk => hk.2) (.int .u64 a0_3)) (fun _ hk => hk.2) (.int .i64 a0_4)) (fun _ hk => hk.1), qB2 HB zf zj⟩
theorem GrW.rd_get (l : List Int) (k : Nat) (h : k < l.length) : rd l (k : Int) = l[k] := by
  simp [rd, List.getD_eq_getElem?_getD, List.getElem?_eq_getElem h]
theorem GrW.rd_pos (l : List Int) (k : Nat) (h : k < l.length) (hp : ∀ x ∈ l, 1 ≤ x) : 1 ≤ rd l (k : Int) := by
  rw [GrW.rd_get l k h]; exact hp _ (List.getElem_mem h)
theorem GrW.chk_8 (l : List Int) (h6 : ¬ 6 < l.length) (k : Nat) (h : k < l.length) (h1 : rd l (k : Int) < 1) : Gr.chk l = 8 := by
  rw [GrW.rd_get l k h] at h1
  unfold Gr.chk
  rw [if_neg h6, if_pos]
  rw [List.any_eq_true]
  exact ⟨l[k], List.getElem_mem h, by simpa using h1⟩
theorem GrW.all_succ (l : List Int) (k : Nat) (h : k < l.length) (ha : ∀ x ∈ l.take k, 1 ≤ x) (h1 : ¬ rd l (k : Int) < 1) : ∀ x ∈ l.take (k + 1), 1 ≤ x := by
  rw [GrW.rd_get l k h] at h1
  intro x hx
  rw [List.take_succ_eq_append_getElem h, List.mem_append] at hx
  rcases hx with hx | hx
  · exact ha x hx
  · simp at hx; omega
theorem GrW.prod_take_rd (l : List Int) (k : Nat) (h : k < l.length) : Gr.prod (l.take (k + 1)) = Gr.prod (l.take k) * rd l (k : Int) := by
  rw [GrW.rd_get l k h]; exact Gr.prod_take_succ l k h
theorem GrW.any_false (l : List Int) (hp : ∀ x ∈ l, 1 ≤ x) : (l.any fun x => decide (x < 1)) = false := by
  rw [List.any_eq_false]
  intro x hx
  have := hp x hx
  simp; omega
theorem GrW.chk_0 (l : List Int) (h6 : ¬ 6 < l.length) (hp : ∀ x ∈ l, 1 ≤ x) (h : Gr.prod l ≤ 64) : Gr.chk l = 0 := by
  unfold Gr.chk
  rw [if_neg h6, GrW.any_false l hp, if_neg (by simp), if_neg (by omega)]
theorem GrW.chk_12 (l : List Int) (h6 : ¬ 6 < l.length) (hp : ∀ x ∈ l, 1 ≤ x) (k : Nat) (h : k < l.length) (h2 : 64 / Gr.prod (l.take k) < rd l (k : Int)) : Gr.chk l = 12 := by
  have h1 := Gr.prod_pos (l.take k) (fun x hx => hp x (List.mem_of_mem_take hx))
  have h3 : 64 < rd l (k : Int) * Gr.prod (l.take k) := (Int.ediv_lt_iff_lt_mul (by omega)).1 h2
  have h4 := Gr.prod_take_le l hp (k + 1)
  rw [GrW.prod_take_rd l k h, Int.mul_comm] at h4
  unfold Gr.chk
  rw [if_neg h6, GrW.any_false l hp, if_neg (by simp), if_pos (by omega)]
theorem GrW.mul_le_of_div (l : List Int) (k : Nat) (h1 : 1 ≤ Gr.prod (l.take k)) (h : rd l (k : Int) ≤ 64 / Gr.prod (l.take k)) : Gr.prod (l.take k) * rd l (k : Int) ≤ 64 := by
  have := (Int.le_ediv_iff_mul_le (by omega)).1 h
  rw [Int.mul_comm]; exact this
def shape_Check.f (l0 : List Int) : Option Int := some (Gr.chk l0)
set_option maxHeartbeats 400000 in
set_option maxRecDepth 100000 in
theorem shape_Check.calls (A0 : Option Addr) (c0 : Nat) (l0 : List Int) (r : Int) (w : World) (hr0 : Kd.C (Kd.int .i64) w A0 l0.length l0) (hc0 : l0.length ≤ c0) (h : shape_Check.f l0 = some r) :
    Calls Try.prog 27 #[.slice A0 l0.length c0] w fun e w' => e = .returned (.int .i64 r) ∧ Drawn0 w w' := by
  have HR0 := Aside0.mk hr0
  clear hr0 hc0
  obtain rfl := Option.some.inj h
  clear h
  by_cases h6 : 6 < l0.length
  · have h6b : decide (6 < l0.length) = true := decide_eq_true h6
    have h6c : decide (6 < (l0.length : Int)) = true := decide_eq_true (by omega)
    have hr : Gr.chk l0 = 9 := by simp [Gr.chk, h6]
    have HH := Aside0.mk hr
    clear hr
    go_enter Try.func27, Try.ntmps27
    go_wp2
    go_step3
    go_wp2
    try rw [Exit.noGoto_ret]
    go_ret
    exact ⟨by rw [HH.out]; rfl, Drawn0.refl _⟩
  · have h6b : decide (6 < l0.length) = false := decide_eq_false h6
    have h6c : decide (6 < (l0.length : Int)) = false := decide_eq_false (by omega)
    have hlen : (l0.length : Int) ≤ 6 := by omega
    go_enter Try.func27, Try.ntmps27
    go_wp2
    go_step3
    go_wp2
    go_loop [13] (fun i => ∃ k : Nat, k ≤ l0.length ∧ i = .int .i64 k ∧ Aside0 (∀ x ∈ l0.take k, 1 ≤ x)) (fun i => l0.length - (intOf i).toNat)
    case atStart => exact ⟨0, by omega, rfl, ⟨by simp⟩⟩
    case round =>
      obtain ⟨k, hk, rfl, HA⟩ := hrel
      by_cases hlt : k < l0.length
      · have hb : decide ((k : Int) < (l0.length : Int)) = true := decide_eq_true (by omega)
        obtain ⟨ad, e, hx⟩ := Kd.at_int HR0.out (k : Int) (by omega) (by omega)
        cases e
        rw [Int.toNat_natCast] at hx
        by_cases h1 : rd l0 (k : Int) < 1
        · have h1b : decide (rd l0 (k : Int) < 1) = true := decide_eq_true h1
          have HH : Aside0 (Gr.chk l0 = 8) := Aside0.mk (GrW.chk_8 l0 h6 k hlt h1)
          go_wp2
          try rw [Exit.noGoto_ret]
          go_ret
          exact ⟨by rw [HH.out]; rfl, Drawn0.refl _⟩
        · have h1b : decide (rd l0 (k : Int) < 1) = false := decide_eq_false h1
          have HA1 := Aside0.mk (GrW.all_succ l0 k hlt HA.out h1)
          go_wp2
          go_round
          case measure => simp [intOf]; omega
          case rel => exact ⟨k + 1, by omega, by go_num, HA1⟩
      · have hb : decide ((k : Int) < (l0.length : Int)) = false := decide_eq_false (by omega)
        have HP : Aside0 (∀ x ∈ l0, 1 ≤ x) := ⟨by have := HA.out; rwa [List.take_of_length_le (by omega)] at this⟩
        clear HA
        go_wp2
        go_step3
        go_wp2
        go_loop [5, 22] (fun n i => ∃ k : Nat, k ≤ l0.length ∧ i = .int .i64 k ∧ n = .int .i64 (Gr.prod (l0.take k)) ∧ Gr.prod (l0.take k) ≤ 64) (fun n i => l0.length - (intOf i).toNat)
        case atStart => exact ⟨0, by omega, rfl, rfl, by simp [Gr.prod]⟩
        case round =>
          obtain ⟨k, hk, rfl, rfl, h64⟩ := hrel
          have hp1 := Gr.prod_pos (l0.take k) (fun x hx => HP.out x (List.mem_of_mem_take hx))
          by_cases hlt : k < l0.length
          · have hb : decide ((k : Int) < (l0.length : Int)) = true := decide_eq_true (by omega)
            obtain ⟨ad, e, hx⟩ := Kd.at_int HR0.out (k : Int) (by omega) (by omega)
            cases e
            rw [Int.toNat_natCast] at hx
            have hs := Aside0.mk (GrW.prod_take_rd l0 k hlt)
            have hx1 : 1 ≤ rd l0 (k : Int) := GrW.rd_pos l0 k hlt HP.out
            by_cases h1 : rd l0 (k : Int) = 1
            · have h1b : (rd l0 (k : Int) == 1) = true := by rw [h1]; rfl
              have hs2 : Aside0 (Gr.prod (l0.take (k + 1)) = Gr.prod (l0.take k)) := Aside0.mk (by rw [hs.out, h1]; omega)
              clear h1
              go_wp2
              go_round
              case measure => simp [intOf]; omega
              case rel => exact ⟨k + 1, by omega, by go_num, by rw [hs2.out], by rw [hs2.out]; exact h64⟩
            · have h1b : (rd l0 (k : Int) == 1) = false := beq_eq_false_iff_ne.mpr h1
              by_cases h2 : 64 / Gr.prod (l0.take k) < rd l0 (k : Int)
              · have h2b : decide (64 / Gr.prod (l0.take k) < rd l0 (k : Int)) = true := decide_eq_true h2
                have HH : Aside0 (Gr.chk l0 = 12) := Aside0.mk (GrW.chk_12 l0 h6 HP.out k hlt h2)
                go_wp2
                try rw [Exit.noGoto_ret]
                go_ret
                exact ⟨by rw [HH.out]; rfl, Drawn0.refl _⟩
              · have h2b : decide (64 / Gr.prod (l0.take k) < rd l0 (k : Int)) = false := decide_eq_false h2
                have h3 := GrW.mul_le_of_div l0 k hp1 (by omega : rd l0 (k : Int) ≤ 64 / Gr.prod (l0.take k))
                have h4 : 0 ≤ Gr.prod (l0.take k) * rd l0 (k : Int) := Int.mul_nonneg (by omega) (by omega)
                go_wp2
                go_round
                case measure => simp [intOf]; omega
                case rel => exact ⟨k + 1, by omega, by go_num, by rw [hs.out], by rw [hs.out]; exact h3⟩
          · have hb : decide ((k : Int) < (l0.length : Int)) = false := decide_eq_false (by omega)
            have HH : Aside0 (Gr.chk l0 = 0) := Aside0.mk (GrW.chk_0 l0 h6 HP.out (by rwa [List.take_of_length_le (by omega)] at h64))
            go_wp2
            try rw [Exit.noGoto_ret]
            go_ret
            exact ⟨by rw [HH.out]; rfl, Drawn0.refl _⟩
def shape_Count.l0 : Nat → Int → List Int → Int → Int → Option (Int)
 | 0, _, _, _, _ => none
 | k + 1, x3, x9, x10, x11 => if x11 < x10 then (if 0 ≤ x11 then (if x11 < (x9.length : Int) then (shape_Count.l0 k (wrap64 (x3 * (rd x9 x11))) x9 x10 (wrap64 (x11 + 1))) else (none)) else (none)) else (some x3)
def shape_Count.f (k : Nat) (l0 : List Int) : Option (Int) := (shape_Check.f l0).bind fun za => (if za = 0 then (shape_Count.l0 k 1 l0 (l0.length : Int) 0) else (some 0))
set_option maxHeartbeats 8000000 in
set_option maxRecDepth 100000 in
theorem shape_Count.calls (k : Nat) (A0 : Option Addr) (c0 : Nat) (l0 : List Int) (r : Int) (w : World) (hr0 : Kd.C (Kd.int .i64) w A0 l0.length l0) (hc0 : l0.length ≤ c0) (h : shape_Count.f k l0 = some r) :
  Calls Try.prog 28 #[.slice A0 l0.length c0] w fun e w' => e = .returned (.int .i64 r) ∧ Drawn0 w w' := by
 have HR0 := aM hr0
 have HC0 := aM hc0
 clear hr0 hc0
 have H : ((shape_Check.f l0).bind fun za => (if za = 0 then (shape_Count.l0 k 1 l0 (l0.length : Int) 0) else (some 0))) = some r := h
 clear h
 replace H := Option.bind_eq_some_iff.mp H
 obtain ⟨za, A20, H⟩ := H
 try dsimp only at H
 have A2 := aM A20
 clear A20
 by_cases c3 : za = 0
 rotate_left
 ·rw [if_neg c3] at H
  have zb : (za == 0) = false := beq_eq_false_iff_ne.mpr c3
  have zc : (za != 0) = true := bne_iff_ne.mpr c3
  obtain rfl := Option.some.inj H
  go_enter Try.func28, Try.ntmps28
  go_wp2_with (first | ((with_reducible refine gate_callee (f := 27) rfl ?_); refine goesL_ (some 7) rfl rfl Try.func27 (by kernel_rfl) rfl #[.slice A0 l0.length c0] rfl pA ?_; (with_reducible refine (shape_Check.calls _ _ l0 za _ ?s1 ?s2 A2.out).mono ?_); (case s1 => exact pC HR0.out); (case s2 => exact HC0.out); rintro e w' ⟨rfl, ⟨nd, rfl⟩⟩; refine ⟨_, rfl, ?_⟩))
  go_ret
  exact ⟨pF, by repeat (first | exact Drawn0.refl _ | apply Drawn0.step)⟩
 rw [if_pos c3] at H
 have zb : (za == 0) = true := beq_iff_eq.mpr c3
 have zc : (za != 0) = false := bne_eq_false_iff_eq.mpr c3
 clear c3
 have H' := aM H
 clear H
 go_enter Try.func28, Try.ntmps28
 go_wp2_with (first | ((with_reducible refine gate_callee (f := 27) rfl ?_); refine goesL_ (some 7) rfl rfl Try.func27 (by kernel_rfl) rfl #[.slice A0 l0.length c0] rfl pA ?_; (with_reducible refine (shape_Check.calls _ _ l0 za _ ?s1 ?s2 A2.out).mono ?_); (case s1 => exact pC HR0.out); (case s2 => exact HC0.out); rintro e w' ⟨rfl, ⟨nd, rfl⟩⟩; refine ⟨_, rfl, ?_⟩))
 go_loopg [3, 11] k (fun kq v3 v11 w' => ∃ (x3_1 : Int) (x11_1 : Int), v3 = .int .i64 x3_1 ∧ v11 = .int .i64 x11_1 ∧ Aside0 (shape_Count.l0 kq x3_1 l0 (l0.length : Int) x11_1 = some r) ∧ Aside0 (kq ≤ k) ∧ Drawn0 w w')
 case atStart => exact ⟨(1), (0), (pF), (pF), H', ⟨Nat.le_refl _⟩, by repeat (first | exact Drawn0.refl _ | apply Drawn0.step)⟩
 case round =>
  clear H'
  try clear zb
  try clear zc
  obtain ⟨x3_1, x11_1, rfl, rfl, HA, HK1, ⟨m1, rfl⟩⟩ := hrel
  cases gk with
  | zero => exact absurd HA.out (by simp [shape_Count.l0])
  | succ k1 =>
   have H := HA.out
   clear HA
   simp only [shape_Count.l0] at H
   by_cases c4 : x11_1 < (l0.length : Int)
   rotate_left
   ·rw [if_neg c4] at H
    have c4b0 : decide (x11_1 < (l0.length : Int)) = false := decide_eq_false c4
    clear c4
    obtain rfl := Option.some.inj H
    go_wp2
    go_ret
    exact ⟨pF, by repeat (first | exact Drawn0.refl _ | apply Drawn0.step)⟩
   rw [if_pos c4] at H
   have c4b0 : decide (x11_1 < (l0.length : Int)) = true := decide_eq_true c4
   clear c4
   by_cases c5 : 0 ≤ x11_1
   rotate_left
   ·rw [if_neg c5] at H
    exact absurd H (by simp)
   rw [if_pos c5] at H
   have c5b0 : decide (0 ≤ x11_1) = true := decide_eq_true c5
   clear c5
   by_cases c6 : x11_1 < (l0.length : Int)
   rotate_left
   ·rw [if_neg c6] at H
    exact absurd H (by simp)
   rw [if_pos c6] at H
   have c6b0 : decide (x11_1 < (l0.length : Int)) = true := decide_eq_true c6
   clear c6
   have H' := aM H
   clear H
   have p115 : 0 ≤ (x11_1 : Int) := of_decide_eq_true pD
   have q115 : x11_1 < (l0.length : Int) := of_decide_eq_true pD
   obtain ⟨ad115, e115, hx115_0⟩ := Kd.at_int HR0.out x11_1 p115 q115
   cases e115
   replace p115 := eq_true p115
   replace q115 := eq_true q115
   go_wp2
   go_roundg k1
   case measure => have := HK1.out; omega
   case rel => exact ⟨(wrap64 (x3_1 * (rd l0 x11_1))), (wrap64 (x11_1 + 1)), (pF), (pF), H', ⟨by have := HK1.out; omega⟩, by repeat (first | exact Drawn0.refl _ | apply Drawn0.step)⟩
def view_reach.f (a0 : Int) (a1 : Int) (a2 : Int) : Option (Int × Bool) := if a0 = 1 then (some (0, true)) else (if a1 ≥ a2 then (some (0, false)) else (if a1 ≤ (wrap64 (-a2)) then (some (0, false)) else (some (wrap64 ((wrap64 (a0 - 1)) * a1), true))))
set_option maxHeartbeats 8000000 in
set_option maxRecDepth 100000 in
theorem view_reach.calls (a0 : Int) (a1 : Int) (a2 : Int) (r1 : Int) (r2 : Bool) (w : World) (h : view_reach.f a0 a1 a2 = some (r1, r2)) :
  Calls Try.prog 46 #[.int .i64 a0, .int .i64 a1, .int .i64 a2] w fun e w' => e = .returned (.tuple #[.int .i64 r1, .bool r2]) ∧ Drawn0 w w' := by
 have H : (if a0 = 1 then (some (0, true)) else (if a1 ≥ a2 then (some (0, false)) else (if a1 ≤ (wrap64 (-a2)) then (some (0, false)) else (some (wrap64 ((wrap64 (a0 - 1)) * a1), true))))) = some (r1, r2) := h
 clear h
 by_cases c4 : a0 = 1
 ·rw [if_pos c4] at H
  have c4b0 : (a0 == 1) = true := beq_iff_eq.mpr c4
  have c4b1 : (a0 != 1) = false := bne_eq_false_iff_eq.mpr c4
  clear c4
  simp only [Option.some.injEq, Prod.mk.injEq] at H
  obtain ⟨rfl, rfl⟩ := H
  go_enter Try.func46, Try.ntmps46
  go_wp2
  go_ret2
  exact ⟨pF, by repeat (first | exact Drawn0.refl _ | apply Drawn0.step)⟩
 rw [if_neg c4] at H
 have c4b0 : (a0 == 1) = false := beq_eq_false_iff_ne.mpr c4
 have c4b1 : (a0 != 1) = true := bne_iff_ne.mpr c4
 by_cases c5 : a1 ≥ a2
 ·rw [if_pos c5] at H
  have c5b0 : decide (a2 ≤ a1) = true := decide_eq_true c5
  clear c5
  simp only [Option.some.injEq, Prod.mk.injEq] at H
  obtain ⟨rfl, rfl⟩ := H
  go_enter Try.func46, Try.ntmps46
  go_wp2
  go_ret2
  exact ⟨pF, by repeat (first | exact Drawn0.refl _ | apply Drawn0.step)⟩
 rw [if_neg c5] at H
 have c5b0 : decide (a2 ≤ a1) = false := decide_eq_false c5
 clear c5
 by_cases c6 : a1 ≤ (wrap64 (-a2))
 ·rw [if_pos c6] at H
  have c6b0 : decide (a1 ≤ (wrap64 (-a2))) = true := decide_eq_true c6
  clear c6
  simp only [Option.some.injEq, Prod.mk.injEq] at H
  obtain ⟨rfl, rfl⟩ := H
  go_enter Try.func46, Try.ntmps46
  go_wp2
  go_ret2
  exact ⟨pF, by repeat (first | exact Drawn0.refl _ | apply Drawn0.step)⟩
 rw [if_neg c6] at H
 have c6b0 : decide (a1 ≤ (wrap64 (-a2))) = false := decide_eq_false c6
 clear c6
 simp only [Option.some.injEq, Prod.mk.injEq] at H
 obtain ⟨rfl, rfl⟩ := H
 go_enter Try.func46, Try.ntmps46
 go_wp2
 go_ret2
 exact ⟨pF, by repeat (first | exact Drawn0.refl _ | apply Drawn0.step)⟩
mutual
def view_Right.j0 : Nat → Int → Bool → Int → List Int → List Int → Option (Bool)
 | 0, _, _, _, _, _ => none
 | k + 1, x1, x38, zf, zg, zh => if x38 = true then (some false) else (view_Right.l0 k x1 zf zf zg (zg.length : Int) 0 zf zg zh)
def view_Right.l0 : Nat → Int → Int → Int → List Int → Int → Int → Int → List Int → List Int → Option (Bool)
 | 0, _, _, _, _, _, _, _, _, _ => none
 | k + 1, x1, x5, x6, x44, x45, x46, zf, zg, zh => if x46 < x45 then (if 0 ≤ x46 then (if x46 < (x44.length : Int) then (if x46 < (zh.length : Int) then ((view_reach.f (rd x44 x46) (rd zh x46) x1).bind fun bt171 => (if bt171.2 = true then (view_Right.l0 k x1 (wrap64 (x5 + (mn bt171.1 0))) (wrap64 (x6 + (mx bt171.1 0))) x44 x45 (wrap64 (x46 + 1)) zf zg zh) else (some false))) else (none)) else (none)) else (none)) else (if x5 ≥ 0 then (some (decide (x6 < x1))) else (some false))
end
def view_Right.f (k : Nat) (a0_0 : Int) (l0_1 : List Int) (l0_2 : List Int) (a1 : Int) : Option (Bool) := (shape_Check.f l0_1).bind fun zc => (if zc = 0 then (if (l0_2.length : Int) = (l0_1.length : Int) then (if a1 > 64 then (view_Right.j0 k a1 true a0_0 l0_1 l0_2) else (if a0_0 < 0 then (view_Right.j0 k a1 true a0_0 l0_1 l0_2) else (view_Right.j0 k a1 (decide (a0_0 ≥ a1)) a0_0 l0_1 l0_2))) else (view_Right.j0 k a1 true a0_0 l0_1 l0_2)) else (view_Right.j0 k a1 true a0_0 l0_1 l0_2))
set_option maxHeartbeats 8000000 in
set_option maxRecDepth 100000 in
theorem view_Right.calls (k : Nat) (a0_0 : Int) (A0_1 : Option Addr) (c0_1 : Nat) (l0_1 : List Int) (A0_2 : Option Addr) (c0_2 : Nat) (l0_2 : List Int) (a1 : Int) (r : Bool) (w : World) (hr0_1 : Kd.C (Kd.int .i64) w A0_1 l0_1.length l0_1) (hc0_1 : l0_1.length ≤ c0_1) (hr0_2 : Kd.C (Kd.int .i64) w A0_2 l0_2.length l0_2) (hc0_2 : l0_2.length ≤ c0_2) (h : view_Right.f k a0_0 l0_1 l0_2 a1 = some r) :
  Calls Try.prog 32 #[.agg #[.int .i64 a0_0, .slice A0_1 l0_1.length c0_1, .slice A0_2 l0_2.length c0_2], .int .i64 a1] w fun e w' => e = .returned (.bool r) ∧ Below w.heap.size w w' := by
 have hu43 := Try.underlying43
 have zb := aM hr0_1
 have zd := aM hc0_1
 clear hr0_1 hc0_1
 have zm := aM hr0_2
 have HC0_2 := aM hc0_2
 clear hr0_2 hc0_2
 have HB := aM (Below.refl w.heap.size w)
 have H : ((shape_Check.f l0_1).bind fun zc => (if zc = 0 then (if (l0_2.length : Int) = (l0_1.length : Int) then (if a1 > 64 then (view_Right.j0 k a1 true a0_0 l0_1 l0_2) else (if a0_0 < 0 then (view_Right.j0 k a1 true a0_0 l0_1 l0_2) else (view_Right.j0 k a1 (decide (a0_0 ≥ a1)) a0_0 l0_1 l0_2))) else (view_Right.j0 k a1 true a0_0 l0_1 l0_2)) else (view_Right.j0 k a1 true a0_0 l0_1 l0_2))) = some r := h
 clear h
 have HC3 := aM H
 clear H
 go_enter Try.func32, Try.ntmps32
 go_upto_region 1 with (first | ((with_reducible refine gate_dst (N := 2) rfl ?_); (try (refine gate_guard (by rfl) ?_; dsimp only)); refine box_event ?hg (N := 2) ?hd (cs := #[.int .i64 a0_0, .slice A0_1 l0_1.length c0_1, .slice A0_2 l0_2.length c0_2]) (t := 43) ?hr ?_; (case hd => rfl); (case hg => rfl); (case hr => first | (go_simp; done) | (go_simp; rfl)); intro zk hg w4 hbox hb; have za := aM (hbox); have zj := gE (w := w) hg (qB HB); have ze := zj; replace HB := bS (qB HB) hb; clear hb hbox hg))
 repeat (go_quiet (first | ((with_reducible refine gate_dst (N := 2) rfl ?_); (try (refine gate_guard (by rfl) ?_; dsimp only)); refine box_event ?hg (N := 2) ?hd (cs := #[.int .i64 a0_0, .slice A0_1 l0_1.length c0_1, .slice A0_2 l0_2.length c0_2]) (t := 43) ?hr ?_; (case hd => rfl); (case hg => rfl); (case hr => first | (go_simp; done) | (go_simp; rfl)); intro zk hg w4 hbox hb; have za := aM (hbox); have zj := gE (w := w) hg (qB HB); have ze := zj; replace HB := bS (qB HB) hb; clear hb hbox hg)); go_upto_region 1 with (first | ((with_reducible refine gate_dst (N := 2) rfl ?_); (try (refine gate_guard (by rfl) ?_; dsimp only)); refine box_event ?hg (N := 2) ?hd (cs := #[.int .i64 a0_0, .slice A0_1 l0_1.length c0_1, .slice A0_2 l0_2.length c0_2]) (t := 43) ?hr ?_; (case hd => rfl); (case hg => rfl); (case hr => first | (go_simp; done) | (go_simp; rfl)); intro zk hg w4 hbox hb; have za := aM (hbox); have zj := gE (w := w) hg (qB HB); have ze := zj; replace HB := bS (qB HB) hb; clear hb hbox hg)))
 (try simp only [Act.put, sP])
 go_cut [38] (fun v38 wc => ∃ (kq : Nat) (x38_2 : Bool), v38 = .bool x38_2 ∧ Aside0 (view_Right.j0 kq a1 x38_2 a0_0 l0_1 l0_2 = some r) ∧ Aside0 (kq ≤ k) ∧ Aside0 (wc.heap[zk]? = some (.cells #[.int .i64 a0_0, (.slice A0_1 l0_1.length c0_1), (.slice A0_2 l0_2.length c0_2)] 43 (0, 0))) ∧ Aside0 (Below w.heap.size w wc))
 case first =>
  have H := HC3.out
  clear HC3
  replace H := Option.bind_eq_some_iff.mp H
  obtain ⟨zc, A50, H⟩ := H
  try dsimp only at H
  have A5 := aM A50
  clear A50
  by_cases c6 : zc = 0
  rotate_left
  ·rw [if_neg c6] at H
   have zl : (zc == 0) = false := beq_eq_false_iff_ne.mpr c6
   have c6b1 : (zc != 0) = true := bne_iff_ne.mpr c6
   (first | rw [zl] | (simp only [i64_w, i32_w]; rw [zl]) | skip)
   have H' := aM H
   clear H
   obtain ⟨hcz14_0, hcz14_1, hcz14_2, hfz14_0, hfz14_1, hfz14_2⟩ := blk3 za.out
   go_wp2_with (first | (go_at_call 27; (with_reducible refine (shape_Check.calls _ _ l0_1 zc _ ?s1 ?s2 A5.out).mono ?_); (case s1 => exact sC zb HB); (case s2 => exact zd.out); rintro e w' ⟨rfl, ⟨nd, rfl⟩⟩; (try first | exact ⟨rfl, _, World.drewN_drewN _ _ _⟩ | exact ⟨rfl, _, Eq.trans (World.drewN_drewN _ _ _) (congrArg (World.drewN _) (Nat.add_assoc _ _ _))⟩)))
   repeat (go_quiet (first | (go_at_call 27; (with_reducible refine (shape_Check.calls _ _ l0_1 zc _ ?s1 ?s2 A5.out).mono ?_); (case s1 => exact sC zb HB); (case s2 => exact zd.out); rintro e w' ⟨rfl, ⟨nd, rfl⟩⟩; (try first | exact ⟨rfl, _, World.drewN_drewN _ _ _⟩ | exact ⟨rfl, _, Eq.trans (World.drewN_drewN _ _ _) (congrArg (World.drewN _) (Nat.add_assoc _ _ _))⟩))); try go_wp2_with (first | (go_at_call 27; (with_reducible refine (shape_Check.calls _ _ l0_1 zc _ ?s1 ?s2 A5.out).mono ?_); (case s1 => exact sC zb HB); (case s2 => exact zd.out); rintro e w' ⟨rfl, ⟨nd, rfl⟩⟩; (try first | exact ⟨rfl, _, World.drewN_drewN _ _ _⟩ | exact ⟨rfl, _, Eq.trans (World.drewN_drewN _ _ _) (congrArg (World.drewN _) (Nat.add_assoc _ _ _))⟩))))
   go_meet
   case rel => exact ⟨_, (true), (pF), H', ⟨by first | omega | exact Nat.le_refl _⟩, ⟨pK za.out⟩, ⟨qB1 HB ze⟩⟩
  rw [if_pos c6] at H
  have zl : (zc == 0) = true := beq_iff_eq.mpr c6
  have c6b1 : (zc != 0) = false := bne_eq_false_iff_eq.mpr c6
  clear c6
  (first | rw [zl] | (simp only [i64_w, i32_w]; rw [zl]) | skip)
  by_cases c7 : (l0_2.length : Int) = (l0_1.length : Int)
  rotate_left
  ·rw [if_neg c7] at H
   have c7b0 : ((l0_2.length : Int) == (l0_1.length : Int)) = false := beq_eq_false_iff_ne.mpr c7
   have c7b1 : ((l0_2.length : Int) != (l0_1.length : Int)) = true := bne_iff_ne.mpr c7
   have c7b2 : (l0_2.length == l0_1.length) = false := by first | simpa using c7 | (simp at c7 ⊢; omega)
   have H' := aM H
   clear H
   obtain ⟨hcz13_0, hcz13_1, hcz13_2, hfz13_0, hfz13_1, hfz13_2⟩ := blk3 za.out
   go_wp2_with (first | (go_at_call 27; (with_reducible refine (shape_Check.calls _ _ l0_1 zc _ ?s1 ?s2 A5.out).mono ?_); (case s1 => exact sC zb HB); (case s2 => exact zd.out); rintro e w' ⟨rfl, ⟨nd, rfl⟩⟩; (try first | exact ⟨rfl, _, World.drewN_drewN _ _ _⟩ | exact ⟨rfl, _, Eq.trans (World.drewN_drewN _ _ _) (congrArg (World.drewN _) (Nat.add_assoc _ _ _))⟩)))
   repeat (go_quiet (first | (go_at_call 27; (with_reducible refine (shape_Check.calls _ _ l0_1 zc _ ?s1 ?s2 A5.out).mono ?_); (case s1 => exact sC zb HB); (case s2 => exact zd.out); rintro e w' ⟨rfl, ⟨nd, rfl⟩⟩; (try first | exact ⟨rfl, _, World.drewN_drewN _ _ _⟩ | exact ⟨rfl, _, Eq.trans (World.drewN_drewN _ _ _) (congrArg (World.drewN _) (Nat.add_assoc _ _ _))⟩))); try go_wp2_with (first | (go_at_call 27; (with_reducible refine (shape_Check.calls _ _ l0_1 zc _ ?s1 ?s2 A5.out).mono ?_); (case s1 => exact sC zb HB); (case s2 => exact zd.out); rintro e w' ⟨rfl, ⟨nd, rfl⟩⟩; (try first | exact ⟨rfl, _, World.drewN_drewN _ _ _⟩ | exact ⟨rfl, _, Eq.trans (World.drewN_drewN _ _ _) (congrArg (World.drewN _) (Nat.add_assoc _ _ _))⟩))))
   go_meet
   case rel => exact ⟨_, (true), (pF), H', ⟨by first | omega | exact Nat.le_refl _⟩, ⟨pK za.out⟩, ⟨qB1 HB ze⟩⟩
  rw [if_pos c7] at H
  have c7b0 : ((l0_2.length : Int) == (l0_1.length : Int)) = true := beq_iff_eq.mpr c7
  have c7b1 : ((l0_2.length : Int) != (l0_1.length : Int)) = false := bne_eq_false_iff_eq.mpr c7
  have c7b2 : (l0_2.length == l0_1.length) = true := by first | simpa using c7 | (simp at c7 ⊢; omega)
  clear c7
  by_cases c8 : a1 > 64
  ·rw [if_pos c8] at H
   have c8b0 : decide (64 < a1) = true := decide_eq_true c8
   clear c8
   have H' := aM H
   clear H
   obtain ⟨hcz9_0, hcz9_1, hcz9_2, hfz9_0, hfz9_1, hfz9_2⟩ := blk3 za.out
   go_wp2_with (first | (go_at_call 27; (with_reducible refine (shape_Check.calls _ _ l0_1 zc _ ?s1 ?s2 A5.out).mono ?_); (case s1 => exact sC zb HB); (case s2 => exact zd.out); rintro e w' ⟨rfl, ⟨nd, rfl⟩⟩; (try first | exact ⟨rfl, _, World.drewN_drewN _ _ _⟩ | exact ⟨rfl, _, Eq.trans (World.drewN_drewN _ _ _) (congrArg (World.drewN _) (Nat.add_assoc _ _ _))⟩)))
   repeat (go_quiet (first | (go_at_call 27; (with_reducible refine (shape_Check.calls _ _ l0_1 zc _ ?s1 ?s2 A5.out).mono ?_); (case s1 => exact sC zb HB); (case s2 => exact zd.out); rintro e w' ⟨rfl, ⟨nd, rfl⟩⟩; (try first | exact ⟨rfl, _, World.drewN_drewN _ _ _⟩ | exact ⟨rfl, _, Eq.trans (World.drewN_drewN _ _ _) (congrArg (World.drewN _) (Nat.add_assoc _ _ _))⟩))); try go_wp2_with (first | (go_at_call 27; (with_reducible refine (shape_Check.calls _ _ l0_1 zc _ ?s1 ?s2 A5.out).mono ?_); (case s1 => exact sC zb HB); (case s2 => exact zd.out); rintro e w' ⟨rfl, ⟨nd, rfl⟩⟩; (try first | exact ⟨rfl, _, World.drewN_drewN _ _ _⟩ | exact ⟨rfl, _, Eq.trans (World.drewN_drewN _ _ _) (congrArg (World.drewN _) (Nat.add_assoc _ _ _))⟩))))
   go_meet
   case rel => exact ⟨_, (true), (pF), H', ⟨by first | omega | exact Nat.le_refl _⟩, ⟨pK za.out⟩, ⟨qB1 HB ze⟩⟩
  rw [if_neg c8] at H
  have c8b0 : decide (64 < a1) = false := decide_eq_false c8
  clear c8
  by_cases c10 : a0_0 < 0
  ·rw [if_pos c10] at H
   have c10b0 : decide (a0_0 < 0) = true := decide_eq_true c10
   clear c10
   have H' := aM H
   clear H
   obtain ⟨hcz11_0, hcz11_1, hcz11_2, hfz11_0, hfz11_1, hfz11_2⟩ := blk3 za.out
   go_wp2_with (first | (go_at_call 27; (with_reducible refine (shape_Check.calls _ _ l0_1 zc _ ?s1 ?s2 A5.out).mono ?_); (case s1 => exact sC zb HB); (case s2 => exact zd.out); rintro e w' ⟨rfl, ⟨nd, rfl⟩⟩; (try first | exact ⟨rfl, _, World.drewN_drewN _ _ _⟩ | exact ⟨rfl, _, Eq.trans (World.drewN_drewN _ _ _) (congrArg (World.drewN _) (Nat.add_assoc _ _ _))⟩)))
   repeat (go_quiet (first | (go_at_call 27; (with_reducible refine (shape_Check.calls _ _ l0_1 zc _ ?s1 ?s2 A5.out).mono ?_); (case s1 => exact sC zb HB); (case s2 => exact zd.out); rintro e w' ⟨rfl, ⟨nd, rfl⟩⟩; (try first | exact ⟨rfl, _, World.drewN_drewN _ _ _⟩ | exact ⟨rfl, _, Eq.trans (World.drewN_drewN _ _ _) (congrArg (World.drewN _) (Nat.add_assoc _ _ _))⟩))); try go_wp2_with (first | (go_at_call 27; (with_reducible refine (shape_Check.calls _ _ l0_1 zc _ ?s1 ?s2 A5.out).mono ?_); (case s1 => exact sC zb HB); (case s2 => exact zd.out); rintro e w' ⟨rfl, ⟨nd, rfl⟩⟩; (try first | exact ⟨rfl, _, World.drewN_drewN _ _ _⟩ | exact ⟨rfl, _, Eq.trans (World.drewN_drewN _ _ _) (congrArg (World.drewN _) (Nat.add_assoc _ _ _))⟩))))
   go_meet
   case rel => exact ⟨_, (true), (pF), H', ⟨by first | omega | exact Nat.le_refl _⟩, ⟨pK za.out⟩, ⟨qB1 HB ze⟩⟩
  rw [if_neg c10] at H
  have c10b0 : decide (a0_0 < 0) = false := decide_eq_false c10
  clear c10
  have H' := aM H
  clear H
  obtain ⟨hcz12_0, hcz12_1, hcz12_2, hfz12_0, hfz12_1, hfz12_2⟩ := blk3 za.out
  go_wp2_with (first | (go_at_call 27; (with_reducible refine (shape_Check.calls _ _ l0_1 zc _ ?s1 ?s2 A5.out).mono ?_); (case s1 => exact sC zb HB); (case s2 => exact zd.out); rintro e w' ⟨rfl, ⟨nd, rfl⟩⟩; (try first | exact ⟨rfl, _, World.drewN_drewN _ _ _⟩ | exact ⟨rfl, _, Eq.trans (World.drewN_drewN _ _ _) (congrArg (World.drewN _) (Nat.add_assoc _ _ _))⟩)))
  repeat (go_quiet (first | (go_at_call 27; (with_reducible refine (shape_Check.calls _ _ l0_1 zc _ ?s1 ?s2 A5.out).mono ?_); (case s1 => exact sC zb HB); (case s2 => exact zd.out); rintro e w' ⟨rfl, ⟨nd, rfl⟩⟩; (try first | exact ⟨rfl, _, World.drewN_drewN _ _ _⟩ | exact ⟨rfl, _, Eq.trans (World.drewN_drewN _ _ _) (congrArg (World.drewN _) (Nat.add_assoc _ _ _))⟩))); try go_wp2_with (first | (go_at_call 27; (with_reducible refine (shape_Check.calls _ _ l0_1 zc _ ?s1 ?s2 A5.out).mono ?_); (case s1 => exact sC zb HB); (case s2 => exact zd.out); rintro e w' ⟨rfl, ⟨nd, rfl⟩⟩; (try first | exact ⟨rfl, _, World.drewN_drewN _ _ _⟩ | exact ⟨rfl, _, Eq.trans (World.drewN_drewN _ _ _) (congrArg (World.drewN _) (Nat.add_assoc _ _ _))⟩))))
  go_meet
  case rel => exact ⟨_, (decide (a0_0 ≥ a1)), (pF), H', ⟨by first | omega | exact Nat.le_refl _⟩, ⟨pK za.out⟩, ⟨qB1 HB ze⟩⟩
 case rest =>
  clear HC3
  obtain ⟨kq, x38_2, rfl, HA, HJ2, za, HB⟩ := hcut
  cases kq with
  | zero => exact absurd HA.out (by simp [view_Right.j0])
  | succ kj2 =>
   have H := HA.out
   clear HA
   simp only [view_Right.j0] at H
   by_cases c15 : x38_2 = true
   ·subst c15
    rw [if_pos rfl] at H
    obtain rfl := Option.some.inj H
    go_wp2
    repeat (go_quiet (fail); try go_wp2)
    go_ret
    exact ⟨pE, qB1 HB ze⟩
   replace c15 := Bool.eq_false_iff.mpr c15
   subst c15
   rw [if_neg (show ¬ (false = true) by decide)] at H
   have H' := aM H
   clear H
   obtain ⟨hcz16_0, hcz16_1, hcz16_2, hfz16_0, hfz16_1, hfz16_2⟩ := blk3 za.out
   go_wp2
   repeat (go_quiet (fail); try go_wp2)
   go_loopg [5, 6, 46] kj2 (fun kq v5 v6 v46 w' => ∃ (x5_2 : Int) (x6_2 : Int) (x46_2 : Int), v5 = .int .i64 x5_2 ∧ v6 = .int .i64 x6_2 ∧ v46 = .int .i64 x46_2 ∧ Aside0 (view_Right.l0 kq a1 x5_2 x6_2 l0_1 (l0_1.length : Int) x46_2 a0_0 l0_1 l0_2 = some r) ∧ Aside0 (kq ≤ kj2) ∧ Aside0 (w'.heap[zk]? = some (.cells #[.int .i64 a0_0, (.slice A0_1 l0_1.length c0_1), (.slice A0_2 l0_2.length c0_2)] 43 (0, 0))) ∧ Aside0 (Below w.heap.size w w'))
   case atStart => exact ⟨(a0_0), (a0_0), (0), (pF), (pF), (pF), H', ⟨Nat.le_refl _⟩, ⟨pK za.out⟩, ⟨qB1 HB ze⟩⟩
   case round =>
    clear H'
    try clear c15
    try clear hcz16_0 hcz16_1 hcz16_2 hfz16_0 hfz16_1 hfz16_2
    obtain ⟨x5_2, x6_2, x46_2, rfl, rfl, rfl, HA, HK2, za, HB⟩ := hrel
    cases gk with
    | zero => exact absurd HA.out (by simp [view_Right.l0])
    | succ k2 =>
     have H := HA.out
     clear HA
     simp only [view_Right.l0] at H
     by_cases c17 : x46_2 < (l0_1.length : Int)
     rotate_left
     ·rw [if_neg c17] at H
      have c17b0 : decide (x46_2 < (l0_1.length : Int)) = false := decide_eq_false c17
      clear c17
      by_cases c27 : x5_2 ≥ 0
      ·rw [if_pos c27] at H
       have c27b0 : decide (0 ≤ x5_2) = true := decide_eq_true c27
       clear c27
       obtain rfl := Option.some.inj H
       go_wp2
       repeat (go_quiet (fail); try go_wp2)
       go_ret
       exact ⟨pE, qB1 HB ze⟩
      rw [if_neg c27] at H
      have c27b0 : decide (0 ≤ x5_2) = false := decide_eq_false c27
      clear c27
      obtain rfl := Option.some.inj H
      go_wp2
      repeat (go_quiet (fail); try go_wp2)
      go_ret
      exact ⟨pE, qB1 HB ze⟩
     rw [if_pos c17] at H
     have c17b0 : decide (x46_2 < (l0_1.length : Int)) = true := decide_eq_true c17
     clear c17
     by_cases c18 : 0 ≤ x46_2
     rotate_left
     ·rw [if_neg c18] at H
      exact absurd H (by simp)
     rw [if_pos c18] at H
     have c18b0 : decide (0 ≤ x46_2) = true := decide_eq_true c18
     clear c18
     by_cases c19 : x46_2 < (l0_1.length : Int)
     rotate_left
     ·rw [if_neg c19] at H
      exact absurd H (by simp)
     rw [if_pos c19] at H
     have c19b0 : decide (x46_2 < (l0_1.length : Int)) = true := decide_eq_true c19
     clear c19
     by_cases c20 : x46_2 < (l0_2.length : Int)
     rotate_left
     ·rw [if_neg c20] at H
      exact absurd H (by simp)
     rw [if_pos c20] at H
     have c20b0 : decide (x46_2 < (l0_2.length : Int)) = true := decide_eq_true c20
     clear c20
     replace H := Option.bind_eq_some_iff.mp H
     obtain ⟨⟨zi, t172⟩, zn, H⟩ := H
     try dsimp only at H
     have A21 := aM zn
     clear zn
     by_cases c22 : t172 = true
     rotate_left
     ·replace c22 := Bool.eq_false_iff.mpr c22
      subst c22
      rw [if_neg (show ¬ (false = true) by decide)] at H
      obtain rfl := Option.some.inj H
      have p169 : 0 ≤ (x46_2 : Int) := of_decide_eq_true pD
      have q169 : x46_2 < (l0_1.length : Int) := of_decide_eq_true pD
      obtain ⟨ad169, e169, hx169_0⟩ := Kd.at_int zb.out x46_2 p169 q169
      cases e169
      replace hx169_0 := (HB.out.cell (World.block_lt_of_cell? w _ hx169_0)).trans hx169_0
      replace p169 := eq_true p169
      replace q169 := eq_true q169
      obtain ⟨hcz26_0, hcz26_1, hcz26_2, hfz26_0, hfz26_1, hfz26_2⟩ := blk3 za.out
      have p170 : 0 ≤ (x46_2 : Int) := of_decide_eq_true pD
      have q170 : x46_2 < (l0_2.length : Int) := of_decide_eq_true pD
      obtain ⟨ad170, e170, hx170_0⟩ := Kd.at_int zm.out x46_2 p170 q170
      cases e170
      replace hx170_0 := (HB.out.cell (World.block_lt_of_cell? w _ hx170_0)).trans hx170_0
      replace p170 := eq_true p170
      replace q170 := eq_true q170
      go_wp2_with (first | (go_at_call 46; (with_reducible refine (view_reach.calls (rd l0_1 x46_2) (rd l0_2 x46_2) a1 zi false _ A21.out).mono ?_); rintro e w' ⟨rfl, ⟨nd, rfl⟩⟩; (try first | exact ⟨rfl, _, World.drewN_drewN _ _ _⟩ | exact ⟨rfl, _, Eq.trans (World.drewN_drewN _ _ _) (congrArg (World.drewN _) (Nat.add_assoc _ _ _))⟩)))
      repeat (go_quiet (first | (go_at_call 46; (with_reducible refine (view_reach.calls (rd l0_1 x46_2) (rd l0_2 x46_2) a1 zi false _ A21.out).mono ?_); rintro e w' ⟨rfl, ⟨nd, rfl⟩⟩; (try first | exact ⟨rfl, _, World.drewN_drewN _ _ _⟩ | exact ⟨rfl, _, Eq.trans (World.drewN_drewN _ _ _) (congrArg (World.drewN _) (Nat.add_assoc _ _ _))⟩))); try go_wp2_with (first | (go_at_call 46; (with_reducible refine (view_reach.calls (rd l0_1 x46_2) (rd l0_2 x46_2) a1 zi false _ A21.out).mono ?_); rintro e w' ⟨rfl, ⟨nd, rfl⟩⟩; (try first | exact ⟨rfl, _, World.drewN_drewN _ _ _⟩ | exact ⟨rfl, _, Eq.trans (World.drewN_drewN _ _ _) (congrArg (World.drewN _) (Nat.add_assoc _ _ _))⟩))))
      go_ret
      exact ⟨pE, qB1 HB ze⟩
     subst c22
     rw [if_pos rfl] at H
     obtain ⟨ji23, hji23⟩ : ∃ j_ : Int, (mn zi 0) = j_ := ⟨_, rfl⟩
     replace H : (view_Right.l0 k2 a1 (wrap64 (x5_2 + (ji23))) (wrap64 (x6_2 + (mx zi 0))) l0_1 (l0_1.length : Int) (wrap64 (x46_2 + 1)) a0_0 l0_1 l0_2) = some r := by first | (rw [hji23] at H; exact H) | (simp only [hji23] at H ⊢; exact H)
     (try rw [hji23] at A21)
     (try (have hji23h : ji23 ≤ 0 := by (rw [← hji23]; unfold mn; (repeat' split) <;> omega)))
     (try (have hji23g : ji23 ≤ 64 := by omega))
     have hji23_ : (if 0 < zi then 0 else zi) = ji23 := hji23
     obtain ⟨ji24, hji24⟩ : ∃ j_ : Int, (mx zi 0) = j_ := ⟨_, rfl⟩
     replace H : (view_Right.l0 k2 a1 (wrap64 (x5_2 + (ji23))) (wrap64 (x6_2 + (ji24))) l0_1 (l0_1.length : Int) (wrap64 (x46_2 + 1)) a0_0 l0_1 l0_2) = some r := by first | (rw [hji24] at H; exact H) | (simp only [hji24] at H ⊢; exact H)
     (try rw [hji24] at A21)
     (try (have hji24l : 0 ≤ ji24 := by (rw [← hji24]; unfold mx; (repeat' split) <;> omega)))
     (try (have hji24m : 0 ≤ ji24 := by omega))
     have hji24_ : (if zi < 0 then 0 else zi) = ji24 := hji24
     have H' := aM H
     clear H
     have p169 : 0 ≤ (x46_2 : Int) := of_decide_eq_true pD
     have q169 : x46_2 < (l0_1.length : Int) := of_decide_eq_true pD
     obtain ⟨ad169, e169, hx169_0⟩ := Kd.at_int zb.out x46_2 p169 q169
     cases e169
     replace hx169_0 := (HB.out.cell (World.block_lt_of_cell? w _ hx169_0)).trans hx169_0
     replace p169 := eq_true p169
     replace q169 := eq_true q169
     obtain ⟨hcz25_0, hcz25_1, hcz25_2, hfz25_0, hfz25_1, hfz25_2⟩ := blk3 za.out
     have p170 : 0 ≤ (x46_2 : Int) := of_decide_eq_true pD
     have q170 : x46_2 < (l0_2.length : Int) := of_decide_eq_true pD
     obtain ⟨ad170, e170, hx170_0⟩ := Kd.at_int zm.out x46_2 p170 q170
     cases e170
     replace hx170_0 := (HB.out.cell (World.block_lt_of_cell? w _ hx170_0)).trans hx170_0
     replace p170 := eq_true p170
     replace q170 := eq_true q170
     go_wp2_with (first | (go_at_call 46; (with_reducible refine (view_reach.calls (rd l0_1 x46_2) (rd l0_2 x46_2) a1 zi true _ A21.out).mono ?_); rintro e w' ⟨rfl, ⟨nd, rfl⟩⟩; (try first | exact ⟨rfl, _, World.drewN_drewN _ _ _⟩ | exact ⟨rfl, _, Eq.trans (World.drewN_drewN _ _ _) (congrArg (World.drewN _) (Nat.add_assoc _ _ _))⟩)))
     repeat (go_quiet (first | (go_at_call 46; (with_reducible refine (view_reach.calls (rd l0_1 x46_2) (rd l0_2 x46_2) a1 zi true _ A21.out).mono ?_); rintro e w' ⟨rfl, ⟨nd, rfl⟩⟩; (try first | exact ⟨rfl, _, World.drewN_drewN _ _ _⟩ | exact ⟨rfl, _, Eq.trans (World.drewN_drewN _ _ _) (congrArg (World.drewN _) (Nat.add_assoc _ _ _))⟩))); try go_wp2_with (first | (go_at_call 46; (with_reducible refine (view_reach.calls (rd l0_1 x46_2) (rd l0_2 x46_2) a1 zi true _ A21.out).mono ?_); rintro e w' ⟨rfl, ⟨nd, rfl⟩⟩; (try first | exact ⟨rfl, _, World.drewN_drewN _ _ _⟩ | exact ⟨rfl, _, Eq.trans (World.drewN_drewN _ _ _) (congrArg (World.drewN _) (Nat.add_assoc _ _ _))⟩))))
     go_roundg k2
     case measure => have := HJ2.out; have := HK2.out; omega
     case rel => exact ⟨(wrap64 (x5_2 + (ji23))), (wrap64 (x6_2 + (ji24))), (wrap64 (x46_2 + 1)), (by first | rfl | (simp; done) | (simp only [← hji23] <;> (first | rfl | simp)) | (simp [*]; done)), (by first | rfl | (simp; done) | (simp only [← hji24] <;> (first | rfl | simp)) | (simp [*]; done)), (pF), H', ⟨by have := HJ2.out; have := HK2.out; omega⟩, ⟨pK za.out⟩, ⟨qB1 HB ze⟩⟩
def view_right.f (k : Nat) (a0_0 : Int) (l0_1 : List Int) (l0_2 : List Int) : Option (Bool) := (view_Right.f k a0_0 l0_1 l0_2 64).bind fun za => (some za)
set_option maxHeartbeats 8000000 in
set_option maxRecDepth 100000 in
theorem view_right.calls (k : Nat) (a0_0 : Int) (A0_1 : Option Addr) (c0_1 : Nat) (l0_1 : List Int) (A0_2 : Option Addr) (c0_2 : Nat) (l0_2 : List Int) (r : Bool) (w : World) (hr0_1 : Kd.C (Kd.int .i64) w A0_1 l0_1.length l0_1) (hc0_1 : l0_1.length ≤ c0_1) (hr0_2 : Kd.C (Kd.int .i64) w A0_2 l0_2.length l0_2) (hc0_2 : l0_2.length ≤ c0_2) (h : view_right.f k a0_0 l0_1 l0_2 = some r) :
  Calls Try.prog 52 #[.agg #[.int .i64 a0_0, .slice A0_1 l0_1.length c0_1, .slice A0_2 l0_2.length c0_2]] w fun e w' => e = .returned (.bool r) ∧ Below w.heap.size w w' := by
 have hu43 := Try.underlying43
 have HR0_1 := aM hr0_1
 have HC0_1 := aM hc0_1
 clear hr0_1 hc0_1
 have HR0_2 := aM hr0_2
 have HC0_2 := aM hc0_2
 clear hr0_2 hc0_2
 have HB := aM (Below.refl w.heap.size w)
 have H : ((view_Right.f k a0_0 l0_1 l0_2 64).bind fun za => (some za)) = some r := h
 clear h
 replace H := Option.bind_eq_some_iff.mp H
 obtain ⟨za, A20, H⟩ := H
 try dsimp only at H
 have A2 := aM A20
 clear A20
 obtain rfl := Option.some.inj H
 go_enter Try.func52, Try.ntmps52
 go_wp2_with (first | ((with_reducible refine gate_dst (N := 1) rfl ?_); refine box_event ?hg (N := 1) ?hd (cs := #[.int .i64 a0_0, .slice A0_1 l0_1.length c0_1, .slice A0_2 l0_2.length c0_2]) (t := 43) ?hr ?_; (case hd => rfl); (case hg => rfl); (case hr => first | (go_simp; done) | (go_simp; rfl)); intro gb173 hg w3 hbox hb; have zb := aM (hbox); have GW173 := gE (w := w) hg (qB HB); have zc := GW173; replace HB := bS (qB HB) hb; clear hb hbox hg; obtain ⟨hcz4_0, hcz4_1, hcz4_2, hfz4_0, hfz4_1, hfz4_2⟩ := blk3 zb.out) | ((with_reducible refine gate_callee (f := 32) rfl ?_); refine goesL_ (some 4) rfl rfl Try.func32 (by kernel_rfl) rfl #[.agg #[.int .i64 a0_0, .slice A0_1 l0_1.length c0_1, .slice A0_2 l0_2.length c0_2], .int .i64 64] rfl pA ?_; (with_reducible refine (view_Right.calls k a0_0 _ _ l0_1 _ _ l0_2 64 za _ ?s1 ?s2 ?s3 ?s4 A2.out).mono ?_); (case s1 => exact sC HR0_1 HB); (case s2 => exact HC0_1.out); (case s3 => exact sC HR0_2 HB); (case s4 => exact HC0_2.out); rintro e w5 ⟨rfl, hb⟩; refine ⟨_, rfl, ?_⟩; replace zb := bK zb hb; replace HB := bS (qB1 HB zc) hb; (try clear hb); (try clear hk); (try clear hi)))
 go_ret
 exact ⟨pE, qB1 HB zc⟩
mutual
def walk_At.j0 : Nat → List Int → Int → Bool → Option (List Int × Bool)
 | 0, _, _, _ => none
 | k + 1, x0, x1, x15 => if x15 = true then (some (([] : List Int), false)) else (if 0 ≤ (x0.length : Int) then (if ((x0.length : Int) : Int).toNat ≤ 35184372088832 then (walk_At.l0 k x0 x1 (List.replicate ((x0.length : Int) : Int).toNat 0) (wrap64 ((x0.length : Int) - 1))) else (none)) else (none))
def walk_At.l0 : Nat → List Int → Int → List Int → Int → Option (List Int × Bool)
 | 0, _, _, _, _ => none
 | k + 1, x0, x1, x6, x7 => if x7 ≥ 0 then (if 0 ≤ x7 then (if x7 < (x0.length : Int) then (if (rd x0 x7) = 0 then (none) else (if x7 < (x6.length : Int) then (walk_At.l0 k x0 (wrap64 (Int.tdiv x1 (rd x0 x7))) (x6.set (x7 : Int).toNat (Int.tmod x1 (rd x0 x7))) (wrap64 (x7 - 1))) else (none))) else (none)) else (none)) else (some (x6, true))
end
def walk_At.f (k : Nat) (l0 : List Int) (a1 : Int) : Option (List Int × Bool) := if a1 < 0 then (walk_At.j0 k l0 a1 true) else ((shape_Count.f k l0).bind fun za => (walk_At.j0 k l0 a1 (decide (a1 ≥ za))))
set_option maxHeartbeats 8000000 in
set_option maxRecDepth 100000 in
theorem walk_At.calls (k : Nat) (A0 : Option Addr) (c0 : Nat) (l0 : List Int) (a1 : Int) (r1 : List Int) (r2 : Bool) (w : World) (hr0 : Kd.C (Kd.int .i64) w A0 l0.length l0) (hc0 : l0.length ≤ c0) (h : walk_At.f k l0 a1 = some (r1, r2)) :
  Calls Try.prog 53 #[.slice A0 l0.length c0, .int .i64 a1] w fun e w' => ∃ v0_ : Value, e = .returned (.tuple #[v0_, .bool r2]) ∧ Kd.R (Kd.int .i64) 3 w' w.heap.size (fun _ => True) v0_ r1 ∧ Below w.heap.size w w' := by
 have HR0 := aM hr0
 have HC0 := aM hc0
 clear hr0 hc0
 have HB := aM (Below.refl w.heap.size w)
 have H : (if a1 < 0 then (walk_At.j0 k l0 a1 true) else ((shape_Count.f k l0).bind fun za => (walk_At.j0 k l0 a1 (decide (a1 ≥ za))))) = some (r1, r2) := h
 clear h
 have HC3 := aM H
 clear H
 go_enter Try.func53, Try.ntmps53
 go_upto_region 1 with (fail)
 go_cut [15] (fun v15 wc => ∃ (kq : Nat) (x15_2 : Bool), v15 = .bool x15_2 ∧ Aside0 (walk_At.j0 kq l0 a1 x15_2 = some (r1, r2)) ∧ Aside0 (kq ≤ k) ∧ Aside0 (Below w.heap.size w wc))
 case first =>
  have H := HC3.out
  clear HC3
  by_cases c4 : a1 < 0
  ·rw [if_pos c4] at H
   have zc : decide (a1 < 0) = true := decide_eq_true c4
   clear c4
   (first | rw [zc] | (simp only [i64_w, i32_w]; rw [zc]) | skip)
   have H' := aM H
   clear H
   go_wp2
   go_meet
   case rel => exact ⟨_, (true), (pF), H', ⟨by first | omega | exact Nat.le_refl _⟩, ⟨qB HB⟩⟩
  rw [if_neg c4] at H
  have zc : decide (a1 < 0) = false := decide_eq_false c4
  clear c4
  (first | rw [zc] | (simp only [i64_w, i32_w]; rw [zc]) | skip)
  replace H := Option.bind_eq_some_iff.mp H
  obtain ⟨za, A50, H⟩ := H
  try dsimp only at H
  have A5 := aM A50
  clear A50
  have H' := aM H
  clear H
  go_wp2_with (first | (go_at_call 28; (with_reducible refine (shape_Count.calls k _ _ l0 za _ ?s1 ?s2 A5.out).mono ?_); (case s1 => exact sC HR0 HB); (case s2 => exact HC0.out); rintro e w' ⟨rfl, ⟨nd, rfl⟩⟩))
  go_meet
  case rel => exact ⟨_, (decide (a1 ≥ za)), (pF), H', ⟨by first | omega | exact Nat.le_refl _⟩, ⟨qB HB⟩⟩
 case rest =>
  clear HC3
  obtain ⟨kq, x15_2, rfl, HA, HJ2, HB⟩ := hcut
  cases kq with
  | zero => exact absurd HA.out (by simp [walk_At.j0])
  | succ kj2 =>
   have H := HA.out
   clear HA
   simp only [walk_At.j0] at H
   by_cases c6 : x15_2 = true
   ·subst c6
    rw [if_pos rfl] at H
    simp only [Option.some.injEq, Prod.mk.injEq] at H
    obtain ⟨rfl, rfl⟩ := H
    go_wp2
    go_ret2
    exact ⟨_, pE, pN, qB HB⟩
   replace c6 := Bool.eq_false_iff.mpr c6
   subst c6
   rw [if_neg (show ¬ (false = true) by decide)] at H
   by_cases c7 : 0 ≤ (l0.length : Int)
   rotate_left
   ·rw [if_neg c7] at H
    exact absurd H (by simp)
   rw [if_pos c7] at H
   have c7b0 := eq_true c7
   have c7b1 : decide (0 ≤ (l0.length : Int)) = true := decide_eq_true c7
   clear c7
   by_cases c8 : ((l0.length : Int) : Int).toNat ≤ 35184372088832
   rotate_left
   ·rw [if_neg c8] at H
    exact absurd H (by simp)
   rw [if_pos c8] at H
   have c8b0 := eq_true c8
   have c8b1 : decide (((l0.length : Int) : Int).toNat ≤ 35184372088832) = true := decide_eq_true c8
   clear c8
   obtain ⟨zh, zd⟩ : ∃ y_ : List Int, y_ = (List.replicate ((l0.length : Int) : Int).toNat 0) := ⟨_, rfl⟩
   replace H : (walk_At.l0 kj2 l0 a1 zh (wrap64 ((l0.length : Int) - 1))) = some (r1, r2) := pH zd H
   have zf := aM zd
   clear zd
   have H' := aM H
   clear H
   go_wp2_with (first | ((with_reducible refine gate_dst (N := 18) rfl ?_); refine Kd.R_make (Kd.int .i64) _ 3 rfl (N := 18) rfl 22 _ _ rfl (l0.length : Int) rfl rfl Try.underlying22 (.int .i64 0) 8 info3 rfl (by decide) (by omega) 0 (ok := fun _ => True) (okp := fun _ => True) rfl (fun _ hk => hk) trivial (of_decide_eq_true pD) (Nat.le_trans (Nat.mul_le_mul_right _ (of_decide_eq_true pD : (l0.length : Int).toNat ≤ 35184372088832)) (by omega)) (Below.refl _ _) (Nat.le_refl _) ?_; intro v177 w9 ho10 hb hg_ hnew_; clear hg_ hnew_; (first | rw [← zf.out] at ho10 | (simp only [Int.reduceToNat] at ho10; rw [← zf.out] at ho10)); have HO178 := aM (Kd.R_lower ho10 (below_size (qB HB))); replace HB := bS (qB HB) hb; clear hb ho10))
   go_loopg [1, 7] kj2 (fun kq v1 v7 w' => ∃ (x1_2 : Int) (x6_2 : List Int) (x7_2 : Int), v1 = .int .i64 x1_2 ∧ v7 = .int .i64 x7_2 ∧ Aside0 (walk_At.l0 kq l0 x1_2 x6_2 x7_2 = some (r1, r2)) ∧ Aside0 (kq ≤ kj2) ∧ Aside0 (Kd.R (Kd.int .i64) 3 w' w.heap.size (fun _ => True) v177 x6_2) ∧ Aside0 (Below w.heap.size w w'))
   case atStart => exact ⟨(a1), (zh), (wrap64 ((l0.length : Int) - 1)), (pF), (pF), H', ⟨Nat.le_refl _⟩, ⟨pR HO178.out⟩, ⟨qB HB⟩⟩
   case round =>
    clear H'
    try clear c6
    try clear c7b0
    try clear c7b1
    try clear c8b0
    try clear c8b1
    obtain ⟨x1_2, x6_2, x7_2, rfl, rfl, HA, HK2, zb, HB⟩ := hrel
    cases gk with
    | zero => exact absurd HA.out (by simp [walk_At.l0])
    | succ k2 =>
     have H := HA.out
     clear HA
     simp only [walk_At.l0] at H
     by_cases c11 : x7_2 ≥ 0
     rotate_left
     ·rw [if_neg c11] at H
      have c11b0 : decide (0 ≤ x7_2) = false := decide_eq_false c11
      clear c11
      simp only [Option.some.injEq, Prod.mk.injEq] at H
      obtain ⟨rfl, rfl⟩ := H
      go_wp2
      go_ret2
      exact ⟨_, pE, pR zb.out, qB HB⟩
     rw [if_pos c11] at H
     have c11b0 : decide (0 ≤ x7_2) = true := decide_eq_true c11
     clear c11
     by_cases c12 : 0 ≤ x7_2
     rotate_left
     ·rw [if_neg c12] at H
      exact absurd H (by simp)
     rw [if_pos c12] at H
     have c12b0 : decide (0 ≤ x7_2) = true := decide_eq_true c12
     clear c12
     by_cases c13 : x7_2 < (l0.length : Int)
     rotate_left
     ·rw [if_neg c13] at H
      exact absurd H (by simp)
     rw [if_pos c13] at H
     have c13b0 : decide (x7_2 < (l0.length : Int)) = true := decide_eq_true c13
     clear c13
     by_cases c14 : (rd l0 x7_2) = 0
     ·rw [if_pos c14] at H
      exact absurd H (by simp)
     rw [if_neg c14] at H
     have c14b0 : ((rd l0 x7_2) == 0) = false := beq_eq_false_iff_ne.mpr c14
     have c14b1 : ((rd l0 x7_2) != 0) = true := bne_iff_ne.mpr c14
     by_cases c15 : x7_2 < (x6_2.length : Int)
     rotate_left
     ·rw [if_neg c15] at H
      exact absurd H (by simp)
     rw [if_pos c15] at H
     have c15b0 : decide (x7_2 < (x6_2.length : Int)) = true := decide_eq_true c15
     clear c15
     obtain ⟨zg, ze⟩ : ∃ y_ : List Int, y_ = (x6_2.set (x7_2 : Int).toNat (Int.tmod x1_2 (rd l0 x7_2))) := ⟨_, rfl⟩
     replace H : (walk_At.l0 k2 l0 (wrap64 (Int.tdiv x1_2 (rd l0 x7_2))) zg (wrap64 (x7_2 - 1))) = some (r1, r2) := pH ze H
     have Ny180 := aM ze
     clear ze
     have H' := aM H
     clear H
     have p179 : 0 ≤ (x7_2 : Int) := of_decide_eq_true pD
     have q179 : x7_2 < (l0.length : Int) := of_decide_eq_true pD
     obtain ⟨ad179, e179, hx179_0⟩ := Kd.at_int HR0.out x7_2 p179 q179
     cases e179
     replace hx179_0 := (HB.out.cell (World.block_lt_of_cell? w _ hx179_0)).trans hx179_0
     replace p179 := eq_true p179
     replace q179 := eq_true q179
     have p16 : 0 ≤ (x7_2 : Int) := of_decide_eq_true pD
     have q16 : (x7_2 : Int) < ((x6_2.length : Int) : Int) := of_decide_eq_true pD
     obtain ⟨go16, co16, zi, zj, gl16, cl16, HG16⟩ := Kd.R_form zb.out (by omega)
     (first | cases zi | (injection zi with ea_ en_ ec_; (first | subst ea_ | (injection ea_ with ea_; subst ea_)); subst ec_; clear en_))
     have GB16 := aM zj
     have GG16 := aM HG16
     clear zj gl16 HG16
     obtain ⟨hx16_0, hf16_0⟩ := Kd.R_celln 0 zb.out (x7_2 : Int) p16 q16
     replace p16 := eq_true p16
     replace q16 := eq_true q16
     have HP17 := Kd.R_putg zb.out (x7_2 : Int) (Int.tmod x1_2 (rd l0 x7_2))
     go_wp2_with (first | ((with_reducible refine gate_store (t := 3) (p := 34) rfl ?_); refine store_event (t := 3) (p := 34) (v := ?vo_w18) (w1 := (wr.setCell ⟨go16, (x7_2 : Int).toNat, none⟩ (.int .i64 (Int.tmod x1_2 (rd l0 x7_2))))) ?hg ?ho ?hn ?hr ?_; (case ho => rfl); (case hg => rfl); (case hn => rfl); (case hr => first | (go_simp; done) | (go_simp; rfl)); intro w18 hw; have hg : wr.grownBy w18 (some go16) := (by rw [hw]; exact HP17.2); have hp_ : Kd.R (Kd.int .i64) 3 w18 w.heap.size (fun _ => True) (.slice (some ⟨go16, 0, none⟩) x6_2.length co16) zg := (by rw [hw, Ny180.out]; exact HP17.1); clear HP17; replace zb := aM (hp_); replace HB := aM ((by rw [hw]; exact below_set (HB.out) GB16.out : Below w.heap.size w w18)); clear hg hw hp_; have p181 : 0 ≤ (x7_2 : Int) := of_decide_eq_true pD; have q181 : x7_2 < (l0.length : Int) := of_decide_eq_true pD; obtain ⟨ad181, e181, hx181_0⟩ := Kd.at_int HR0.out x7_2 p181 q181; obtain rfl : ad179 = ad181 := (by injection e181); replace hx181_0 := (HB.out.cell (World.block_lt_of_cell? w _ hx181_0)).trans hx181_0; replace p181 := eq_true p181; replace q181 := eq_true q181))
     go_roundg k2
     case measure => have := HJ2.out; have := HK2.out; omega
     case rel => exact ⟨(wrap64 (Int.tdiv x1_2 (rd l0 x7_2))), (zg), (wrap64 (x7_2 - 1)), (pF), (pF), H', ⟨by have := HJ2.out; have := HK2.out; omega⟩, ⟨pR zb.out⟩, ⟨qB HB⟩⟩
def view_At.l0 : Nat → Int → List Int → Int → Int → Int → List Int → List Int → Option (Int × Bool)
 | 0, _, _, _, _, _, _, _ => none
 | k + 1, x8, x25, x26, x27, zh, zi, zd => if x27 < x26 then (if 0 ≤ x27 then (if x27 < (x25.length : Int) then (if (rd x25 x27) > 0 then (if x27 < (zd.length : Int) then (view_At.l0 k (wrap64 (x8 + (wrap64 ((rd x25 x27) * (rd zd x27))))) x25 x26 (wrap64 (x27 + 1)) zh zi zd) else (none)) else (view_At.l0 k x8 x25 x26 (wrap64 (x27 + 1)) zh zi zd)) else (none)) else (none)) else (some (x8, true))
def view_At.f (k : Nat) (a0_0 : Int) (l0_1 : List Int) (l0_2 : List Int) (a1 : Int) : Option (Int × Bool) := (view_right.f k a0_0 l0_1 l0_2).bind fun zl => (if zl = true then ((walk_At.f k l0_1 a1).bind fun bt184 => (if bt184.2 = true then (view_At.l0 k a0_0 bt184.1 (bt184.1.length : Int) 0 a0_0 l0_1 l0_2) else (some (0, false)))) else (some (0, false)))
set_option maxHeartbeats 8000000 in
set_option maxRecDepth 100000 in
theorem view_At.calls (k : Nat) (a0_0 : Int) (A0_1 : Option Addr) (c0_1 : Nat) (l0_1 : List Int) (A0_2 : Option Addr) (c0_2 : Nat) (l0_2 : List Int) (a1 : Int) (r1 : Int) (r2 : Bool) (w : World) (hr0_1 : Kd.C (Kd.int .i64) w A0_1 l0_1.length l0_1) (hc0_1 : l0_1.length ≤ c0_1) (hr0_2 : Kd.C (Kd.int .i64) w A0_2 l0_2.length l0_2) (hc0_2 : l0_2.length ≤ c0_2) (h : view_At.f k a0_0 l0_1 l0_2 a1 = some (r1, r2)) :
  Calls Try.prog 49 #[.agg #[.int .i64 a0_0, .slice A0_1 l0_1.length c0_1, .slice A0_2 l0_2.length c0_2], .int .i64 a1] w fun e w' => e = .returned (.tuple #[.int .i64 r1, .bool r2]) ∧ Below w.heap.size w w' := by
 have hu43 := Try.underlying43
 have ze := aM hr0_1
 have zf := aM hc0_1
 clear hr0_1 hc0_1
 have zj := aM hr0_2
 have zm := aM hc0_2
 clear hr0_2 hc0_2
 have HB := aM (Below.refl w.heap.size w)
 have H : ((view_right.f k a0_0 l0_1 l0_2).bind fun zl => (if zl = true then ((walk_At.f k l0_1 a1).bind fun bt184 => (if bt184.2 = true then (view_At.l0 k a0_0 bt184.1 (bt184.1.length : Int) 0 a0_0 l0_1 l0_2) else (some (0, false)))) else (some (0, false)))) = some (r1, r2) := h
 clear h
 replace H := Option.bind_eq_some_iff.mp H
 obtain ⟨zl, A30, H⟩ := H
 try dsimp only at H
 have A3 := aM A30
 clear A30
 by_cases c4 : zl = true
 rotate_left
 ·replace c4 := Bool.eq_false_iff.mpr c4
  subst c4
  rw [if_neg (show ¬ (false = true) by decide)] at H
  simp only [Option.some.injEq, Prod.mk.injEq] at H
  obtain ⟨rfl, rfl⟩ := H
  go_enter Try.func49, Try.ntmps49
  go_wp2_with (first | ((with_reducible refine gate_dst (N := 2) rfl ?_); refine box_event ?hg (N := 2) ?hd (cs := #[.int .i64 a0_0, .slice A0_1 l0_1.length c0_1, .slice A0_2 l0_2.length c0_2]) (t := 43) ?hr ?_; (case hd => rfl); (case hg => rfl); (case hr => first | (go_simp; done) | (go_simp; rfl)); intro zn hg w25 hbox hb; have za := aM (hbox); have zg := gE (w := w) hg (qB HB); have zb := zg; replace HB := bS (qB HB) hb; clear hb hbox hg; obtain ⟨hcz26_0, hcz26_1, hcz26_2, hfz26_0, hfz26_1, hfz26_2⟩ := blk3 za.out) | ((with_reducible refine gate_callee (f := 52) rfl ?_); refine goesL_ (some 12) rfl rfl Try.func52 (by kernel_rfl) rfl #[.agg #[.int .i64 a0_0, .slice A0_1 l0_1.length c0_1, .slice A0_2 l0_2.length c0_2]] rfl pA ?_; (with_reducible refine (view_right.calls k a0_0 _ _ l0_1 _ _ l0_2 false _ ?s1 ?s2 ?s3 ?s4 A3.out).mono ?_); (case s1 => exact sC ze HB); (case s2 => exact zf.out); (case s3 => exact sC zj HB); (case s4 => exact zm.out); rintro e w27 ⟨rfl, hb⟩; refine ⟨_, rfl, ?_⟩; replace za := bK za hb; replace HB := bS (qB1 HB zb) hb; (try clear hb); (try clear hk); (try clear hi)))
  go_ret2
  exact ⟨pE, qB1 HB zb⟩
 subst c4
 rw [if_pos rfl] at H
 replace H := Option.bind_eq_some_iff.mp H
 obtain ⟨⟨zc, t185⟩, A50, H⟩ := H
 try dsimp only at H
 have A5 := aM A50
 clear A50
 by_cases c6 : t185 = true
 rotate_left
 ·replace c6 := Bool.eq_false_iff.mpr c6
  subst c6
  rw [if_neg (show ¬ (false = true) by decide)] at H
  simp only [Option.some.injEq, Prod.mk.injEq] at H
  obtain ⟨rfl, rfl⟩ := H
  go_enter Try.func49, Try.ntmps49
  go_wp2_with (first | ((with_reducible refine gate_dst (N := 2) rfl ?_); refine box_event ?hg (N := 2) ?hd (cs := #[.int .i64 a0_0, .slice A0_1 l0_1.length c0_1, .slice A0_2 l0_2.length c0_2]) (t := 43) ?hr ?_; (case hd => rfl); (case hg => rfl); (case hr => first | (go_simp; done) | (go_simp; rfl)); intro zn hg w20 hbox hb; have za := aM (hbox); have zg := gE (w := w) hg (qB HB); have zb := zg; replace HB := bS (qB HB) hb; clear hb hbox hg; obtain ⟨hcz21_0, hcz21_1, hcz21_2, hfz21_0, hfz21_1, hfz21_2⟩ := blk3 za.out) | ((with_reducible refine gate_callee (f := 52) rfl ?_); refine goesL_ (some 12) rfl rfl Try.func52 (by kernel_rfl) rfl #[.agg #[.int .i64 a0_0, .slice A0_1 l0_1.length c0_1, .slice A0_2 l0_2.length c0_2]] rfl pA ?_; (with_reducible refine (view_right.calls k a0_0 _ _ l0_1 _ _ l0_2 true _ ?s1 ?s2 ?s3 ?s4 A3.out).mono ?_); (case s1 => exact sC ze HB); (case s2 => exact zf.out); (case s3 => exact sC zj HB); (case s4 => exact zm.out); rintro e w22 ⟨rfl, hb⟩; refine ⟨_, rfl, ?_⟩; replace za := bK za hb; replace HB := bS (qB1 HB zb) hb; (try clear hb); (try clear hk); (try clear hi); obtain ⟨hcz23_0, hcz23_1, hcz23_2, hfz23_0, hfz23_1, hfz23_2⟩ := blk3 za.out) | ((with_reducible refine gate_callee (f := 53) rfl ?_); refine goesL_ (some 18) rfl rfl Try.func53 (by kernel_rfl) rfl #[.slice A0_1 l0_1.length c0_1, .int .i64 a1] rfl pA ?_; (with_reducible refine (walk_At.calls k _ _ l0_1 a1 zc false _ ?s1 ?s2 A5.out).mono ?_); (case s1 => exact sC ze HB); (case s2 => exact zf.out); rintro e w24 ⟨v186, rfl, ho0, hb⟩; refine ⟨_, rfl, ?_⟩; have zo := aM (Kd.R_lower ho0 (below_size (qB1 HB zb))); replace za := bK za hb; replace HB := bS (qB1 HB zb) hb; (try clear hb); (try clear hk); (try clear hi); (try clear ho0)))
  go_ret2
  exact ⟨pE, qB1 HB zb⟩
 subst c6
 rw [if_pos rfl] at H
 have H' := aM H
 clear H
 go_enter Try.func49, Try.ntmps49
 go_wp2_with (first | ((with_reducible refine gate_dst (N := 2) rfl ?_); refine box_event ?hg (N := 2) ?hd (cs := #[.int .i64 a0_0, .slice A0_1 l0_1.length c0_1, .slice A0_2 l0_2.length c0_2]) (t := 43) ?hr ?_; (case hd => rfl); (case hg => rfl); (case hr => first | (go_simp; done) | (go_simp; rfl)); intro zn hg w7 hbox hb; have za := aM (hbox); have zg := gE (w := w) hg (qB HB); have zb := zg; replace HB := bS (qB HB) hb; clear hb hbox hg; obtain ⟨hcz8_0, hcz8_1, hcz8_2, hfz8_0, hfz8_1, hfz8_2⟩ := blk3 za.out) | ((with_reducible refine gate_callee (f := 52) rfl ?_); refine goesL_ (some 12) rfl rfl Try.func52 (by kernel_rfl) rfl #[.agg #[.int .i64 a0_0, .slice A0_1 l0_1.length c0_1, .slice A0_2 l0_2.length c0_2]] rfl pA ?_; (with_reducible refine (view_right.calls k a0_0 _ _ l0_1 _ _ l0_2 true _ ?s1 ?s2 ?s3 ?s4 A3.out).mono ?_); (case s1 => exact sC ze HB); (case s2 => exact zf.out); (case s3 => exact sC zj HB); (case s4 => exact zm.out); rintro e w9 ⟨rfl, hb⟩; refine ⟨_, rfl, ?_⟩; replace za := bK za hb; replace HB := bS (qB1 HB zb) hb; (try clear hb); (try clear hk); (try clear hi); obtain ⟨hcz10_0, hcz10_1, hcz10_2, hfz10_0, hfz10_1, hfz10_2⟩ := blk3 za.out) | ((with_reducible refine gate_callee (f := 53) rfl ?_); refine goesL_ (some 18) rfl rfl Try.func53 (by kernel_rfl) rfl #[.slice A0_1 l0_1.length c0_1, .int .i64 a1] rfl pA ?_; (with_reducible refine (walk_At.calls k _ _ l0_1 a1 zc true _ ?s1 ?s2 A5.out).mono ?_); (case s1 => exact sC ze HB); (case s2 => exact zf.out); rintro e w11 ⟨v186, rfl, ho0, hb⟩; refine ⟨_, rfl, ?_⟩; have zo := aM (Kd.R_lower ho0 (below_size (qB1 HB zb))); replace za := bK za hb; replace HB := bS (qB1 HB zb) hb; (try clear hb); (try clear hk); (try clear hi); (try clear ho0); obtain ⟨hcz12_0, hcz12_1, hcz12_2, hfz12_0, hfz12_1, hfz12_2⟩ := blk3 za.out; obtain ⟨Ao13, co13, eo13⟩ := Kd.R_slice zo.out; subst eo13))
 go_loopg [8, 27] k (fun kq v8 v27 w' => ∃ (x8_1 : Int) (x27_1 : Int), v8 = .int .i64 x8_1 ∧ v27 = .int .i64 x27_1 ∧ Aside0 (view_At.l0 kq x8_1 zc (zc.length : Int) x27_1 a0_0 l0_1 l0_2 = some (r1, r2)) ∧ Aside0 (kq ≤ k) ∧ Aside0 (Kd.R (Kd.int .i64) 3 w' w.heap.size (fun _ => True) (.slice Ao13 zc.length co13) zc) ∧ Aside0 (w'.heap[zn]? = some (.cells #[.int .i64 a0_0, (.slice A0_1 l0_1.length c0_1), (.slice A0_2 l0_2.length c0_2)] 43 (0, 0))) ∧ Aside0 (Below w.heap.size w w'))
 case atStart => exact ⟨(a0_0), (0), (pF), (pF), H', ⟨Nat.le_refl _⟩, ⟨pR zo.out⟩, ⟨pK za.out⟩, ⟨qB1 HB zb⟩⟩
 case round =>
  clear H'
  try clear c4
  try clear c6
  try clear hcz10_0 hcz10_1 hcz10_2 hcz12_0 hcz12_1 hcz12_2 hcz8_0 hcz8_1 hcz8_2 hfz10_0 hfz10_1 hfz10_2 hfz12_0 hfz12_1 hfz12_2 hfz8_0 hfz8_1 hfz8_2
  obtain ⟨x8_1, x27_1, rfl, rfl, HA, HK1, zk, za, HB⟩ := hrel
  cases gk with
  | zero => exact absurd HA.out (by simp [view_At.l0])
  | succ k1 =>
   have H := HA.out
   clear HA
   simp only [view_At.l0] at H
   by_cases c14 : x27_1 < (zc.length : Int)
   rotate_left
   ·rw [if_neg c14] at H
    have c14b0 : decide (x27_1 < (zc.length : Int)) = false := decide_eq_false c14
    clear c14
    simp only [Option.some.injEq, Prod.mk.injEq] at H
    obtain ⟨rfl, rfl⟩ := H
    go_wp2
    go_ret2
    exact ⟨pE, qB1 HB zb⟩
   rw [if_pos c14] at H
   have c14b0 : decide (x27_1 < (zc.length : Int)) = true := decide_eq_true c14
   clear c14
   by_cases c15 : 0 ≤ x27_1
   rotate_left
   ·rw [if_neg c15] at H
    exact absurd H (by simp)
   rw [if_pos c15] at H
   have c15b0 : decide (0 ≤ x27_1) = true := decide_eq_true c15
   clear c15
   by_cases c16 : x27_1 < (zc.length : Int)
   rotate_left
   ·rw [if_neg c16] at H
    exact absurd H (by simp)
   rw [if_pos c16] at H
   have c16b0 : decide (x27_1 < (zc.length : Int)) = true := decide_eq_true c16
   clear c16
   by_cases c17 : (rd zc x27_1) > 0
   rotate_left
   ·rw [if_neg c17] at H
    have c17b0 : decide (0 < (rd zc x27_1)) = false := decide_eq_false c17
    clear c17
    have H' := aM H
    clear H
    have p188 : 0 ≤ (x27_1 : Int) := of_decide_eq_true pD
    have q188 : x27_1 < (zc.length : Int) := of_decide_eq_true pD
    obtain ⟨ad188, e188, hx188_0⟩ := Kd.at_int (Kd.R_reads' zk.out).2.2 x27_1 p188 q188
    cases e188
    replace p188 := eq_true p188
    replace q188 := eq_true q188
    go_wp2
    go_roundg k1
    case measure => have := HK1.out; omega
    case rel => exact ⟨(x8_1), (wrap64 (x27_1 + 1)), (pF), (pF), H', ⟨by have := HK1.out; omega⟩, ⟨pR zk.out⟩, ⟨pK za.out⟩, ⟨qB1 HB zb⟩⟩
   rw [if_pos c17] at H
   have c17b0 : decide (0 < (rd zc x27_1)) = true := decide_eq_true c17
   clear c17
   by_cases c18 : x27_1 < (l0_2.length : Int)
   rotate_left
   ·rw [if_neg c18] at H
    exact absurd H (by simp)
   rw [if_pos c18] at H
   have c18b0 : decide (x27_1 < (l0_2.length : Int)) = true := decide_eq_true c18
   clear c18
   have H' := aM H
   clear H
   have p188 : 0 ≤ (x27_1 : Int) := of_decide_eq_true pD
   have q188 : x27_1 < (zc.length : Int) := of_decide_eq_true pD
   obtain ⟨ad188, e188, hx188_0⟩ := Kd.at_int (Kd.R_reads' zk.out).2.2 x27_1 p188 q188
   cases e188
   replace p188 := eq_true p188
   replace q188 := eq_true q188
   obtain ⟨hcz19_0, hcz19_1, hcz19_2, hfz19_0, hfz19_1, hfz19_2⟩ := blk3 za.out
   have p189 : 0 ≤ (x27_1 : Int) := of_decide_eq_true pD
   have q189 : x27_1 < (l0_2.length : Int) := of_decide_eq_true pD
   obtain ⟨ad189, e189, hx189_0⟩ := Kd.at_int zj.out x27_1 p189 q189
   cases e189
   replace hx189_0 := (HB.out.cell (World.block_lt_of_cell? w _ hx189_0)).trans hx189_0
   replace p189 := eq_true p189
   replace q189 := eq_true q189
   go_wp2
   go_roundg k1
   case measure => have := HK1.out; omega
   case rel => exact ⟨(wrap64 (x8_1 + (wrap64 ((rd zc x27_1) * (rd l0_2 x27_1))))), (wrap64 (x27_1 + 1)), (pF), (pF), H', ⟨by have := HK1.out; omega⟩, ⟨pR zk.out⟩, ⟨pK za.out⟩, ⟨qB1 HB zb⟩⟩
def cells_List.l0 : Nat → List Int → Int → Int → Int → List Int → List Int → Option (List Int)
 | 0, _, _, _, _, _, _ => none
 | k + 1, x3, x12, x13, zd, ze, zf => if x13 < x12 then ((view_At.f k zd ze zf x13).bind fun bt193 => (if x3.length < 17592186044416 then (cells_List.l0 k (x3 ++ [bt193.1]) x12 (wrap64 (x13 + 1)) zd ze zf) else (none))) else (some x3)
def cells_List.f (k : Nat) (a0_0 : Int) (l0_1 : List Int) (l0_2 : List Int) : Option (List Int) := (view_Right.f k a0_0 l0_1 l0_2 64).bind fun zj => (if zj = true then ((shape_Count.f k l0_1).bind fun zc => (cells_List.l0 k ([] : List Int) zc 0 a0_0 l0_1 l0_2)) else (some ([] : List Int)))
set_option maxHeartbeats 8000000 in
set_option maxRecDepth 100000 in
theorem cells_List.calls (k : Nat) (a0_0 : Int) (A0_1 : Option Addr) (c0_1 : Nat) (l0_1 : List Int) (A0_2 : Option Addr) (c0_2 : Nat) (l0_2 : List Int) (r : List Int) (w : World) (hr0_1 : Kd.C (Kd.int .i64) w A0_1 l0_1.length l0_1) (hc0_1 : l0_1.length ≤ c0_1) (hr0_2 : Kd.C (Kd.int .i64) w A0_2 l0_2.length l0_2) (hc0_2 : l0_2.length ≤ c0_2) (h : cells_List.f k a0_0 l0_1 l0_2 = some r) :
  Calls Try.prog 38 #[.agg #[.int .i64 a0_0, .slice A0_1 l0_1.length c0_1, .slice A0_2 l0_2.length c0_2]] w fun e w' => ∃ v0_ : Value, e = .returned (v0_) ∧ Kd.R (Kd.int .i64) 3 w' w.heap.size (fun _ => True) v0_ r ∧ Below w.heap.size w w' := by
 have hu43 := Try.underlying43
 have zg := aM hr0_1
 have zh := aM hc0_1
 clear hr0_1 hc0_1
 have zk := aM hr0_2
 have zl := aM hc0_2
 clear hr0_2 hc0_2
 have HB := aM (Below.refl w.heap.size w)
 have H : ((view_Right.f k a0_0 l0_1 l0_2 64).bind fun zj => (if zj = true then ((shape_Count.f k l0_1).bind fun zc => (cells_List.l0 k ([] : List Int) zc 0 a0_0 l0_1 l0_2)) else (some ([] : List Int)))) = some r := h
 clear h
 replace H := Option.bind_eq_some_iff.mp H
 obtain ⟨zj, A20, H⟩ := H
 try dsimp only at H
 have A2 := aM A20
 clear A20
 by_cases c3 : zj = true
 rotate_left
 ·replace c3 := Bool.eq_false_iff.mpr c3
  subst c3
  rw [if_neg (show ¬ (false = true) by decide)] at H
  obtain rfl := Option.some.inj H
  go_enter Try.func38, Try.ntmps38
  go_wp2_with (first | ((with_reducible refine gate_dst (N := 1) rfl ?_); refine box_event ?hg (N := 1) ?hd (cs := #[.int .i64 a0_0, .slice A0_1 l0_1.length c0_1, .slice A0_2 l0_2.length c0_2]) (t := 43) ?hr ?_; (case hd => rfl); (case hg => rfl); (case hr => first | (go_simp; done) | (go_simp; rfl)); intro zm hg w15 hbox hb; have za := aM (hbox); have zn := gE (w := w) hg (qB HB); have zb := zn; replace HB := bS (qB HB) hb; clear hb hbox hg; obtain ⟨hcz16_0, hcz16_1, hcz16_2, hfz16_0, hfz16_1, hfz16_2⟩ := blk3 za.out) | ((with_reducible refine gate_callee (f := 32) rfl ?_); refine goesL_ (some 8) rfl rfl Try.func32 (by kernel_rfl) rfl #[.agg #[.int .i64 a0_0, .slice A0_1 l0_1.length c0_1, .slice A0_2 l0_2.length c0_2], .int .i64 64] rfl pA ?_; (with_reducible refine (view_Right.calls k a0_0 _ _ l0_1 _ _ l0_2 64 false _ ?s1 ?s2 ?s3 ?s4 A2.out).mono ?_); (case s1 => exact sC zg HB); (case s2 => exact zh.out); (case s3 => exact sC zk HB); (case s4 => exact zl.out); rintro e w17 ⟨rfl, hb⟩; refine ⟨_, rfl, ?_⟩; replace za := bK za hb; replace HB := bS (qB1 HB zb) hb; (try clear hb); (try clear hk); (try clear hi)))
  go_ret
  exact ⟨_, pE, pN, qB1 HB zb⟩
 subst c3
 rw [if_pos rfl] at H
 replace H := Option.bind_eq_some_iff.mp H
 obtain ⟨zc, A40, H⟩ := H
 try dsimp only at H
 have A4 := aM A40
 clear A40
 have H' := aM H
 clear H
 go_enter Try.func38, Try.ntmps38
 go_wp2_with (first | ((with_reducible refine gate_dst (N := 1) rfl ?_); refine box_event ?hg (N := 1) ?hd (cs := #[.int .i64 a0_0, .slice A0_1 l0_1.length c0_1, .slice A0_2 l0_2.length c0_2]) (t := 43) ?hr ?_; (case hd => rfl); (case hg => rfl); (case hr => first | (go_simp; done) | (go_simp; rfl)); intro zm hg w5 hbox hb; have za := aM (hbox); have zn := gE (w := w) hg (qB HB); have zb := zn; replace HB := bS (qB HB) hb; clear hb hbox hg; obtain ⟨hcz6_0, hcz6_1, hcz6_2, hfz6_0, hfz6_1, hfz6_2⟩ := blk3 za.out) | ((with_reducible refine gate_callee (f := 32) rfl ?_); refine goesL_ (some 8) rfl rfl Try.func32 (by kernel_rfl) rfl #[.agg #[.int .i64 a0_0, .slice A0_1 l0_1.length c0_1, .slice A0_2 l0_2.length c0_2], .int .i64 64] rfl pA ?_; (with_reducible refine (view_Right.calls k a0_0 _ _ l0_1 _ _ l0_2 64 true _ ?s1 ?s2 ?s3 ?s4 A2.out).mono ?_); (case s1 => exact sC zg HB); (case s2 => exact zh.out); (case s3 => exact sC zk HB); (case s4 => exact zl.out); rintro e w7 ⟨rfl, hb⟩; refine ⟨_, rfl, ?_⟩; replace za := bK za hb; replace HB := bS (qB1 HB zb) hb; (try clear hb); (try clear hk); (try clear hi); obtain ⟨hcz8_0, hcz8_1, hcz8_2, hfz8_0, hfz8_1, hfz8_2⟩ := blk3 za.out) | ((with_reducible refine gate_callee (f := 28) rfl ?_); refine goesL_ (some 12) rfl rfl Try.func28 (by kernel_rfl) rfl #[.slice A0_1 l0_1.length c0_1] rfl pA ?_; (with_reducible refine (shape_Count.calls k _ _ l0_1 zc _ ?s1 ?s2 A4.out).mono ?_); (case s1 => exact sC zg HB); (case s2 => exact zh.out); rintro e w' ⟨rfl, ⟨nd, rfl⟩⟩; refine ⟨_, rfl, ?_⟩))
 go_loopg [3, 13] k (fun kq v3 v13 w' => ∃ (x3_1 : List Int) (x13_1 : Int), v13 = .int .i64 x13_1 ∧ Aside0 (cells_List.l0 kq x3_1 zc x13_1 a0_0 l0_1 l0_2 = some r) ∧ Aside0 (kq ≤ k) ∧ Aside0 (Kd.R (Kd.int .i64) 3 w' w.heap.size (fun _ => True) v3 x3_1) ∧ Aside0 (w'.heap[zm]? = some (.cells #[.int .i64 a0_0, (.slice A0_1 l0_1.length c0_1), (.slice A0_2 l0_2.length c0_2)] 43 (0, 0))) ∧ Aside0 (Below w.heap.size w w'))
 case atStart => exact ⟨(([] : List Int)), (0), (pF), H', ⟨Nat.le_refl _⟩, ⟨pN⟩, ⟨pK za.out⟩, ⟨qB1 HB zb⟩⟩
 case round =>
  clear H'
  try clear c3
  try clear hcz6_0 hcz6_1 hcz6_2 hcz8_0 hcz8_1 hcz8_2 hfz6_0 hfz6_1 hfz6_2 hfz8_0 hfz8_1 hfz8_2
  obtain ⟨x3_1, x13_1, rfl, HA, HK1, zi, za, HB⟩ := hrel
  cases gk with
  | zero => exact absurd HA.out (by simp [cells_List.l0])
  | succ k1 =>
   have H := HA.out
   clear HA
   simp only [cells_List.l0] at H
   by_cases c9 : x13_1 < zc
   rotate_left
   ·rw [if_neg c9] at H
    have c9b0 : decide (x13_1 < zc) = false := decide_eq_false c9
    clear c9
    obtain rfl := Option.some.inj H
    go_wp2
    go_ret
    exact ⟨_, pE, pR zi.out, qB1 HB zb⟩
   rw [if_pos c9] at H
   have c9b0 : decide (x13_1 < zc) = true := decide_eq_true c9
   clear c9
   replace H := Option.bind_eq_some_iff.mp H
   obtain ⟨⟨zp, t194⟩, zq, H⟩ := H
   try dsimp only at H
   have A10 := aM zq
   clear zq
   by_cases c11 : x3_1.length < 17592186044416
   rotate_left
   ·rw [if_neg c11] at H
    exact absurd H (by simp)
   rw [if_pos c11] at H
   have LMc11 := aM c11
   clear c11
   obtain ⟨zr, zo⟩ : ∃ y_ : List Int, y_ = (x3_1 ++ [zp]) := ⟨_, rfl⟩
   replace H : (cells_List.l0 k1 zr zc (wrap64 (x13_1 + 1)) a0_0 l0_1 l0_2) = some r := pH zo H
   have Ny195 := aM zo
   clear zo
   have H' := aM H
   clear H
   obtain ⟨hcz12_0, hcz12_1, hcz12_2, hfz12_0, hfz12_1, hfz12_2⟩ := blk3 za.out
   go_wp2_with (first | ((with_reducible refine gate_callee (f := 49) rfl ?_); refine goesL_ (some 19) rfl rfl Try.func49 (by kernel_rfl) rfl #[.agg #[.int .i64 a0_0, .slice A0_1 l0_1.length c0_1, .slice A0_2 l0_2.length c0_2], .int .i64 x13_1] rfl pA ?_; (with_reducible refine (view_At.calls k1 a0_0 _ _ l0_1 _ _ l0_2 x13_1 zp t194 _ ?s1 ?s2 ?s3 ?s4 A10.out).mono ?_); (case s1 => exact sC zg HB); (case s2 => exact zh.out); (case s3 => exact sC zk HB); (case s4 => exact zl.out); rintro e w13 ⟨rfl, hb⟩; refine ⟨_, rfl, ?_⟩; replace zi := bR zi hb; replace za := bK za hb; replace HB := bS (qB1 HB zb) hb; (try clear hb); (try clear hk); (try clear hi)) | ((with_reducible refine gate_builtin (b := .append) (xs := #[.tmp 22, .tmp 24]) rfl ?_); at_builtin; refine Kd.R_append (Kd.int .i64) (w0 := w) w.heap.size rfl (.tmp 22) (.tmp 24) 22 3 (.int .i64 0) 8 rfl Try.underlying22 info3 rfl (by decide) (by omega) u3 x3_1 zp [.int .i64 zp] (fun _ => True) (fun _ => False) rfl rfl ?aP (fun _ hk => hk.elim) ?aF ?aO ?aB ?aS ?aL ?_; (case aP => exact rfl); (case aB => exact (qB1 HB zb)); (case aF => exact (fun _ _ => trivial)); (case aO => exact (pR zi.out)); (case aS => exact (below_size (qB1 HB zb))); (case aL => have := LMc11.out; omega); intro v196 w14 ho hb hg hat; rw [← Ny195.out] at ho; replace za := aM (blk_grown (g := zm) (pK za.out) hg (Kd.R_ne zi.out za.out (by decide))); replace HB := aM (hb); have HO197 := aM (ho); clear zi; clear ho hb hg hat))
   go_roundg k1
   case measure => have := HK1.out; omega
   case rel => exact ⟨(zr), (wrap64 (x13_1 + 1)), (pF), H', ⟨by have := HK1.out; omega⟩, ⟨pR HO197.out⟩, ⟨pK za.out⟩, ⟨qB1 HB zb⟩⟩
def cells_of.l0 : List Int → List Int → Option (List Int)
  | [], s => some s
  | c :: l, s => if 0 ≤ c ∧ c < 64 then cells_of.l0 l (s.set c.toNat (wrap64 (rd s c + 1))) else none
def cells_of.f (k : Nat) (a0_0 : Int) (l0_1 : List Int) (l0_2 : List Int) : Option (List Int) := (cells_List.f k a0_0 l0_1 l0_2).bind fun l => if l.length < 4611686018427387904 then cells_of.l0 l zeros else none
set_option maxHeartbeats 8000000 in
set_option maxRecDepth 100000 in
theorem cells_of.calls (k : Nat) (a0_0 : Int) (A0_1 : Option Addr) (c0_1 : Nat) (l0_1 : List Int) (A0_2 : Option Addr) (c0_2 : Nat) (l0_2 : List Int) (r : List Int) (w : World) (hr0_1 : Kd.C (Kd.int .i64) w A0_1 l0_1.length l0_1) (hc0_1 : l0_1.length ≤ c0_1) (hr0_2 : Kd.C (Kd.int .i64) w A0_2 l0_2.length l0_2) (hc0_2 : l0_2.length ≤ c0_2) (h : cells_of.f k a0_0 l0_1 l0_2 = some r) :
  Calls Try.prog 47 #[.agg #[.int .i64 a0_0, .slice A0_1 l0_1.length c0_1, .slice A0_2 l0_2.length c0_2]] w fun e w' => e = .returned (.agg (vals r)) ∧ Below w.heap.size w w' := by
 have hu24 := Try.underlying43
 have HR0_1 := aM hr0_1
 have HC0_1 := aM hc0_1
 clear hr0_1 hc0_1
 have HR0_2 := aM hr0_2
 have HC0_2 := aM hc0_2
 clear hr0_2 hc0_2
 have HB := aM (Below.refl w.heap.size w)
 obtain ⟨l, A20, H⟩ := Option.bind_eq_some_iff.mp h
 clear h
 split at H
 rotate_left
 · exact absurd H (by simp)
 rename_i hlen0
 have hlen := aM hlen0
 clear hlen0
 have A2 := aM A20
 have H' := aM H
 clear A20 H
 go_enter Try.func47, Try.ntmps47
 go_wp2_with (first | ((with_reducible refine gate_dst (N := 1) rfl ?_); refine box_event ?hg (N := 1) ?hd (cs := #[.int .i64 a0_0, .slice A0_1 l0_1.length c0_1, .slice A0_2 l0_2.length c0_2]) (t := 43) ?hr ?_; (case hd => rfl); (case hg => rfl); (case hr => first | (go_simp; done) | (go_simp; rfl)); intro gb771 hg w5 hbox hb; have BK771 := aM (hbox); have GE771 := gE (w := w) hg (qB HB); replace HB := bS (qB HB) hb; clear hb hbox hg) | ((with_reducible refine gate_dst (N := 2) rfl ?_); refine box_event ?hg (N := 2) ?hd (cs := vals zeros) (t := 93) ?hr ?_; (case hd => rfl); (case hg => rfl); (case hr => first | (go_simp; done) | (go_simp; rfl)); intro gb2 hg w6 hbox hb; have BK2 := aM (hbox); have GE2 := gE (w := w) hg (qB1 HB GE771); have NB771_2 := nL hg BK771; have NB2_771 := nG hg BK771; replace BK771 := bK BK771 hb; replace HB := bS (qB1 HB GE771) hb; clear hb hbox hg) | ((with_reducible refine gate_dst (N := 3) rfl ?_); refine box_event ?hg (N := 3) ?hd (cs := vals zeros) (t := 93) ?hr ?_; (case hd => rfl); (case hg => rfl); (case hr => first | (go_simp; done) | (go_simp; rfl)); intro gb3 hg w7 hbox hb; have BK3 := aM (hbox); have GE3 := gE (w := w) hg (qB2 HB GE771 GE2); have NB771_3 := nL hg BK771; have NB3_771 := nG hg BK771; have NB2_3 := nL hg BK2; have NB3_2 := nG hg BK2; replace BK771 := bK BK771 hb; replace BK2 := bK BK2 hb; replace HB := bS (qB2 HB GE771 GE2) hb; clear hb hbox hg; obtain ⟨hcz6_0, hcz6_1, hcz6_2, hfz6_0, hfz6_1, hfz6_2⟩ := blk3 BK771.out) | ((with_reducible refine gate_callee (f := 38) rfl ?_); refine goesL_ (some 7) rfl rfl Try.func38 (by kernel_rfl) rfl #[.agg #[.int .i64 a0_0, .slice A0_1 l0_1.length c0_1, .slice A0_2 l0_2.length c0_2]] rfl pA ?_; (with_reducible refine (cells_List.calls k a0_0 _ _ l0_1 _ _ l0_2 l _ ?s1 ?s2 ?s3 ?s4 A2.out).mono ?_); (case s1 => exact sC HR0_1 HB); (case s2 => exact HC0_1.out); (case s3 => exact sC HR0_2 HB); (case s4 => exact HC0_2.out); rintro e w17 ⟨v0, rfl, ho0, hb⟩; refine ⟨_, rfl, ?_⟩; have HO := aM (Kd.R_lower ho0 (below_size (qB3 HB GE771 GE2 GE3))); have hlt := aM (Kd.R_base ho0); have NL2 := aM (fun e : v0.ownBlock = some gb2 => Nat.lt_irrefl _ (Nat.lt_of_lt_of_le (blk_lt BK2.out) (hlt.out _ e))); have NL3 := aM (fun e : v0.ownBlock = some gb3 => Nat.lt_irrefl _ (Nat.lt_of_lt_of_le (blk_lt BK3.out) (hlt.out _ e))); clear hlt; replace BK771 := bK BK771 hb; replace BK2 := bK BK2 hb; replace BK3 := bK BK3 hb; replace HB := bS (qB3 HB GE771 GE2 GE3) hb; (try clear hb); (try clear ho0); obtain ⟨Ao, co, eo⟩ := Kd.R_slice HO.out; subst eo))
 go_loopg [9] l.length (fun kq v9 w' => ∃ (i : Nat) (s : List Int), v9 = .int .i64 (i : Int) ∧ Aside0 (i + kq = l.length) ∧ Aside0 (cells_of.l0 (l.drop i) s = some r) ∧ Aside0 (s.length = 64) ∧ Aside0 (w'.heap[gb2]? = some (.cells (vals zeros) 93 (0, 0))) ∧ Aside0 (w'.heap[gb3]? = some (.cells (vals s) 93 (0, 0))) ∧ Aside0 (Kd.R (Kd.int .i64) 3 w' w.heap.size (fun _ => True) (.slice Ao l.length co) l) ∧ Aside0 (Below w.heap.size w w'))
 case atStart => exact ⟨0, zeros, rfl, ⟨by omega⟩, ⟨by rw [List.drop_zero]; exact H'.out⟩, ⟨by decide⟩, BK2, BK3, HO, HB⟩
 case round =>
  clear H' BK2 BK3 HB HO hcz6_0 hcz6_1 hcz6_2 hfz6_0 hfz6_1 hfz6_2 BK771
  obtain ⟨i, s, rfl, HK, HA, HS, BK2, BK3, HO, HB⟩ := hrel
  cases gk with
  | zero => 
   have c1b : decide ((i : Int) < (l.length : Int)) = false := decide_eq_false (by have := HK.out; omega)
   have c1n : decide (i < l.length) = false := decide_eq_false (by have := HK.out; omega)
   have HA1 := HA.out
   rw [List.drop_eq_nil_of_le (by have := HK.out; omega), cells_of.l0] at HA1
   obtain rfl := Option.some.inj HA1
   clear HA HA1
   have hz := aM (vals_size s HS.out)
   have hu72 := aM Try.underlying93
   go_wp2_with (first | ((with_reducible refine gate_dst (N := 19) rfl ?_); refine wpList_load_row rfl 93 (.tmp 3) rfl gb3 rfl 93 (vals s) (0, 0) _ BK3.out hu72.out rfl (by rw [hz.out]; kernel_rfl) ?_; simp only [Act.put, sP]) | ((with_reducible refine gate_store (t := 93) (p := 2) rfl ?_); refine wpList_store_row rfl 93 (.tmp 2) (.tmp 19) rfl gb2 (vals s) rfl rfl 93 (vals zeros) BK2.out (by rw [hz.out]; kernel_rfl) (by rw [hz.out]; rfl) (vals_one s) ?_))
   (try simp only [Act.put, sP])
   refine bodyPost_ret (results_cell_row rfl _ _ gb2 93 (vals s) (0, 0) _ rfl (setRow_heap _ _ _ _ _ _ BK2.out) hu72.out rfl (by rw [hz.out]; kernel_rfl)) rfl ?_
   exact ⟨rfl, bRow HB.out GE2.out _⟩
  | succ kq =>
    have c1 : (i : Int) < (l.length : Int) := by have := HK.out; omega
    have hi : i < l.length := by omega
    have HA1 := HA.out
    rw [List.drop_eq_getElem_cons hi, cells_of.l0] at HA1
    have hx : rd l (i : Int) = l[i] := by simp [rd, List.getD_eq_getElem?_getD, List.getElem?_eq_getElem hi]
    rw [← hx] at HA1
    by_cases c2 : 0 ≤ rd l (i : Int) ∧ rd l (i : Int) < 64
    · rw [if_pos c2] at HA1
      have H1 := aM HA1
      have c1b : decide ((i : Int) < (l.length : Int)) = true := decide_eq_true c1
      obtain ⟨ad, e, hx1⟩ := Kd.at_int (Kd.R_reads' HO.out).2.2 (i : Int) (by omega) c1
      cases e
      rw [Int.toNat_natCast] at hx1
      have hx2 := vals_cell BK3.out (rd l (i : Int)) c2.1 (by have := HS.out; omega)
      have hf2 := blk_frozen BK3.out (rd l (i : Int)).toNat
      have q0 : (0 ≤ (i : Int)) = True := eq_true (by omega)
      have q1 : ((i : Int) < (l.length : Int)) = True := eq_true c1
      have q2 : (0 ≤ rd l (i : Int)) = True := eq_true c2.1
      have q3 : (rd l (i : Int) < 64) = True := eq_true c2.2
      clear hx HA1 c1 c2 hi
      go_wp2
      go_roundg kq
      case measure => omega
      case rel => exact ⟨i + 1, _, by rw [w64o (by have := HK.out; have := hlen.out; omega) (by have := HK.out; have := hlen.out; omega)]; rfl, ⟨by have := HK.out; omega⟩, H1, ⟨by rw [List.length_set]; exact HS.out⟩, ⟨blk_far BK2.out NB2_3.out _⟩, ⟨blk_put BK3.out _ _ (vals_set _ _ _)⟩, ⟨Kd.R_mono (Kd.R_far (Kd.R_types HO.out BK3.out (by decide)) (fun _ hk => hk.2) _) (fun _ _ => trivial)⟩, ⟨below_set HB.out GE3.out⟩⟩
    · rw [if_neg c2] at HA1; exact absurd HA1 (by simp)
theorem cells_of.l0_length : ∀ (l s r : List Int), cells_of.l0 l s = some r → r.length = s.length
  | [], s, r, h => by rw [cells_of.l0] at h; cases h; rfl
  | c :: l, s, r, h => by
    rw [cells_of.l0] at h
    split at h
    · rw [cells_of.l0_length l _ r h, List.length_set]
    · cases h
theorem cells_of.size {k : Nat} {a : Int} {l1 l2 r : List Int} (h : cells_of.f k a l1 l2 = some r) : r.length = 64 := by
  obtain ⟨l, _, h⟩ := Option.bind_eq_some_iff.mp h
  split at h
  · rw [cells_of.l0_length _ _ _ h]; decide
  · cases h
theorem vals_index (s : List Int) (i : Nat) (h : i < 64) (hs : s.length = 64) (w : World) : (Instr.index 93 (.agg (vals s)) (.int .i64 (i : Int))).run Try.prog w = .ok (.int .i64 (rd s (i : Int))) w := by
  have hv := vals_get s i (by omega)
  have hz := vals_size s hs
  simp [Instr.index, run_underlying Try.underlying93, asIntOf, part, go_sem, h, hv]
theorem vals_indexz (s : List Int) (i : Int) (h0 : 0 ≤ i) (h : i < 64) (hs : s.length = 64) (w : World) : (Instr.index 93 (.agg (vals s)) (.int .i64 i)).run Try.prog w = .ok (.int .i64 (rd s i)) w := by
  obtain ⟨n, rfl⟩ := Int.eq_ofNat_of_zero_le h0
  exact vals_index s n (by omega) hs w
end Go.Proofs.Ytmhikecbajkonaa.Q
