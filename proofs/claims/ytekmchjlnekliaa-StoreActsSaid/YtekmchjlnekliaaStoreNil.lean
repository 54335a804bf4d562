/- A store that is not there; Len. The reference's rows: kinds of cells that lie in the arguments. -/
import Derived.Test.YtekmchjlnekliaaQxfBankCopied
import Derived.Test.YtekmchjlnekliaaQxfBankCopy
import Derived.Test.YtekmchjlnekliaaQxfLaw24Many
import Derived.Test.YtekmchjlnekliaaQxfPlainLong
import Derived.Test.YtekmchjlnekliaaQxfPlainWide
import Derived.Test.YtekmchjlnekliaaQxfRef07Same
import Derived.Test.YtekmchjlnekliaaQxfRef07Words
import Derived.Test.YtekmchjlnekliaaQxfRef18All
import Derived.Test.YtekmchjlnekliaaQxfRef18Same
import Derived.Test.YtekmchjlnekliaaQxfRef19Has
import Derived.Test.YtekmchjlnekliaaQxfStoreCopies
import Derived.Test.YtekmchjlnekliaaStoreNew
import Derived.Test.YtekmchjlnekliaaStoreGet
import Derived.Test.YtekmchjlnekliaaStorePut
namespace Go.Proofs.Ytekmchjlnekliaa.Q
open Go.RowKit Go.Proofs.YtekmchjlnekliaaW.PrintWords Go.Proofs.YtekmchjlnekliaaW.PrintLast Go.Proofs.YtekmchjlnekliaaW.PrintMore
attribute [local go_sem] max2_int min2_int max_two min_two max_three min_three max_four min_four
set_option linter.unusedVariables false
set_option linter.unusedSimpArgs false
theorem store_Len.calls (gs : Nat) (A : Option Addr) (n c : Nat) (v : Value) (w : World) (hst : w.heap[gs]? = some (.cells #[.slice A n c, v] 57 (0, 0))) :
  Calls Try.prog 14 #[.pointer (some ⟨gs, 0, none⟩)] w fun e w' => e = .returned (.int .i64 n) ∧ Below w.heap.size w w' := by
 have hu57 := Try.underlying57
 have HS := aM hst
 clear hst
 have HB := aM (Below.refl w.heap.size w)
 have hczs := blk2 HS.out
 go_enter Try.func14, Try.ntmps14
 go_wp2
 go_ret
 exact ⟨pE, qB HB⟩
theorem store_Len.nil (w : World) : Calls Try.prog 14 #[.pointer none] w fun e w' => e = .returned (.int .i64 0) ∧ Below w.heap.size w w' := by
 have HB := aM (Below.refl w.heap.size w)
 go_enter Try.func14, Try.ntmps14
 go_wp2
 go_ret
 exact ⟨pE, qB HB⟩
theorem store_Version.nil (w : World) : Calls Try.prog 13 #[.pointer none] w fun e w' => e = .returned (.int .i64 0) ∧ Below w.heap.size w w' := by
 have HB := aM (Below.refl w.heap.size w)
 go_enter Try.func13, Try.ntmps13
 go_wp2
 go_ret
 exact ⟨pE, qB HB⟩
theorem store_Put.nil (u v : Value) (w : World) : Calls Try.prog 9 #[.pointer none, u, v] w fun e w' => e = .returned (.int .i64 21) ∧ Below w.heap.size w w' := by
 have HB := aM (Below.refl w.heap.size w)
 go_enter Try.func9, Try.ntmps9
 go_wp2
 go_ret
 exact ⟨pE, qB HB⟩
theorem store_Get.nil (u : Value) (w : World) : Calls Try.prog 10 #[.pointer none, u] w fun e w' => e = .returned (.tuple #[.slice none 0 0, .int .i64 21]) ∧ Below w.heap.size w w' := by
 have HB := aM (Below.refl w.heap.size w)
 go_enter Try.func10, Try.ntmps10
 go_wp2
 go_ret2
 exact ⟨pE, qB HB⟩
/-- A scalar whose words lie in the world W. -/
def kE (W : World) : Kd S43 where
  sz := 5
  E := []
  K := fun _ x cs => k43.K W x cs
  M := fun _ _ _ x cs => k43.K W x cs
  K_len := fun h => k43.K_len h
  K_one := fun h => k43.K_one h
  K_below := fun _ h => h
  K_of_M := fun h => h
  M_mono := fun _ h => h
  M_bound := fun h => h
  M_move := fun _ h => h
  M_lower := fun _ h => h
namespace Rf
theorem C_in {W w : World} {A : Option Addr} {n : Nat} {l : List S43} (h : Kd.C k43 W A n l) (hb : Below W.heap.size W w) : Kd.C (kE W) w A n l := ReadsRow.imp_ h hb (fun _ _ hp => hp)
theorem C_out {W w : World} {A : Option Addr} {n : Nat} {l : List S43} (h : Kd.C (kE W) w A n l) (hb : Below W.heap.size W w) : Kd.C k43 w A n l := ReadsRow.imp_ (R := (kE W).K w) h (Below.refl _ _) (fun _ _ hp => k43.K_below hb hp)
theorem R_S {W w : World} {e base : Nat} {ok : Nat → Prop} {v : Value} {l : List S43} (h : Kd.R (kE W) e w base ok v l) : Kd.S (kE W) e w base ok v l := by
  obtain ⟨h0, inner, ho, hr⟩ := h
  refine ⟨fun _ => 0, h0, inner, by rw [List.length_zipIdx]; exact ho, by rw [List.length_zipIdx]; exact hr.1, fun j p hj => ?_⟩
  rw [List.getElem?_zipIdx, Nat.zero_add] at hj
  obtain ⟨q, hq, rfl⟩ := Option.map_eq_some_iff.1 hj
  exact hr.2 j q hq
/-- The reference's cells: those of the arguments, or an array of its own. -/
def V (W w : World) (ok : Nat → Prop) (v : Value) (l : List S43) : Prop := (∃ A c, v = .slice A l.length c ∧ l.length ≤ c ∧ Kd.C k43 W A l.length l) ∨ Kd.R (kE W) 43 w W.heap.size ok v l
theorem V_slice {W w : World} {ok : Nat → Prop} {v : Value} {l : List S43} (h : V W w ok v l) : ∃ A c, v = .slice A l.length c := h.elim (fun ⟨A, c, e, _⟩ => ⟨A, c, e⟩) (fun h => Kd.R_slice h)
theorem V_reads {W w : World} {ok : Nat → Prop} {A : Option Addr} {n c : Nat} {l : List S43} (h : V W w ok (.slice A n c) l) (hb : Below W.heap.size W w) : n = l.length ∧ n ≤ c ∧ Kd.C (kE W) w A l.length l := by
  rcases h with ⟨A', c', e, hc, hr⟩ | h
  · injection e with e1 e2 e3
    subst e1 e2 e3
    exact ⟨rfl, hc, C_in hr hb⟩
  · exact Kd.R_reads' h
theorem V_step {W w w' : World} {ok : Nat → Prop} {v : Value} {l : List S43} (h : V W w ok v l) (hm : ∀ k, ok k → k < w.heap.size → w'.heap[k]? = w.heap[k]?) : V W w' ok v l := h.imp id (fun h => Kd.R_step h hm)
theorem V_below {W w w' : World} {ok : Nat → Prop} {v : Value} {l : List S43} (h : V W w ok v l) (hb : Below w.heap.size w w') : V W w' ok v l := V_step h (fun k _ hk => hb.block k hk)
theorem at_E {W w : World} {A : Option Addr} {n : Nat} {l : List S43} (h : Kd.C (kE W) w A n l) (i : Int) (h0 : 0 ≤ i) (h1 : i < n) : ∃ ad A1 c1 A2 c2, A = some ad ∧ w.cell? (ad.add (i.toNat * 5)) = some (.bool (rd_T43 l i).f0.f0) ∧ w.cell? ⟨(ad.add (i.toNat * 5)).block, (ad.add (i.toNat * 5)).off + 1, none⟩ = some (.slice A1 (rd_T43 l i).f0.f1.length c1) ∧ w.cell? ⟨(ad.add (i.toNat * 5)).block, (ad.add (i.toNat * 5)).off + 2, none⟩ = some (.slice A2 (rd_T43 l i).f0.f2.length c2) ∧ w.cell? ⟨(ad.add (i.toNat * 5)).block, (ad.add (i.toNat * 5)).off + 3, none⟩ = some (.int .u64 (rd_T43 l i).f1) ∧ w.cell? ⟨(ad.add (i.toNat * 5)).block, (ad.add (i.toNat * 5)).off + 4, none⟩ = some (.int .i64 (rd_T43 l i).f2) ∧ k43.K W (rd_T43 l i) [.bool (rd_T43 l i).f0.f0, .slice A1 (rd_T43 l i).f0.f1.length c1, .slice A2 (rd_T43 l i).f0.f2.length c2, .int .u64 (rd_T43 l i).f1, .int .i64 (rd_T43 l i).f2] := by
  obtain ⟨ad, cs, e, _, hK, hc0⟩ := Kd.C_get h z43 i h0 h1
  have hc : ∀ j u, cs[j]? = some u → w.cell? (ad.add (i.toNat * 5 + j)) = some u := hc0
  obtain ⟨A1, c1, A2, c2, rfl, l1, g1, l2, g2⟩ := k43_open hK
  exact ⟨ad, A1, c1, A2, c2, e, hc 0 _ rfl, by rw [← add_field _ _ 1 (by omega)]; exact hc 1 _ rfl, by rw [← add_field _ _ 2 (by omega)]; exact hc 2 _ rfl, by rw [← add_field _ _ 3 (by omega)]; exact hc 3 _ rfl, by rw [← add_field _ _ 4 (by omega)]; exact hc 4 _ rfl, hK⟩
end Rf
end Go.Proofs.Ytekmchjlnekliaa.Q
