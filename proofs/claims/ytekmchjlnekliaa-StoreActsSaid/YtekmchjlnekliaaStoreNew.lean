/- The store's methods: what they compute, and that they compute it. -/
import Derived.Test.YtekmchjlnekliaaQxfBankCopied
import Derived.Test.YtekmchjlnekliaaQxfBankCopy
import Derived.Test.YtekmchjlnekliaaQxfLaw24Many
import Derived.Test.YtekmchjlnekliaaQxfPlainLong
import Derived.Test.YtekmchjlnekliaaQxfPlainWide
import Derived.Test.YtekmchjlnekliaaQxfRef07Same
import Derived.Test.YtekmchjlnekliaaQxfRef07Words
import Derived.Test.YtekmchjlnekliaaQxfRef18All
import Derived.Test.YtekmchjlnekliaaQxfRef18Same
import Derived.Test.YtekmchjlnekliaaQxfRef19Has
import Derived.Test.YtekmchjlnekliaaQxfStoreCopies
namespace Go.Proofs.Ytekmchjlnekliaa.Q
open Go.RowKit Go.Proofs.YtekmchjlnekliaaW.PrintWords Go.Proofs.YtekmchjlnekliaaW.PrintLast Go.Proofs.YtekmchjlnekliaaW.PrintMore
attribute [local go_sem] max2_int min2_int max_two min_two max_three min_three max_four min_four
set_option linter.unusedVariables false
set_option linter.unusedSimpArgs false
theorem store_Version.calls (gs : Nat) (v : Value) (ver : Int) (w : World) (hst : w.heap[gs]? = some (.cells #[v, .int .i64 ver] 57 (0, 0))) :
  Calls Try.prog 13 #[.pointer (some ⟨gs, 0, none⟩)] w fun e w' => e = .returned (.int .i64 ver) ∧ Below w.heap.size w w' := by
 have hu57 := Try.underlying57
 have HS := aM hst
 clear hst
 have HB := aM (Below.refl w.heap.size w)
 have hczs := blk2 HS.out
 go_enter Try.func13, Try.ntmps13
 go_wp2
 go_ret
 exact ⟨pE, qB HB⟩
theorem store_New.nil (A : Option Addr) (c : Nat) (w : World) : Calls Try.prog 8 #[.slice A 0 c] w fun e w' => e = .returned (.pointer none) ∧ Below w.heap.size w w' := by
 have HB := aM (Below.refl w.heap.size w)
 go_enter Try.func8, Try.ntmps8
 go_wp2
 go_ret
 exact ⟨pE, qB HB⟩
set_option maxHeartbeats 8000000 in
set_option maxRecDepth 100000 in
theorem store_New.calls (k : Nat) (A : Option Addr) (c : Nat) (l V : List S43) (w : World) (hr : Kd.C k43 w A l.length l) (hc : l.length ≤ c) (h1 : 1 ≤ l.length) (h64 : l.length ≤ 64) (h : store_copies.f k l = some V) :
  Calls Try.prog 8 #[.slice A l.length c] w fun e w' => ∃ (gs : Nat) (v : Value), e = .returned (.pointer (some ⟨gs, 0, none⟩)) ∧ w'.heap[gs]? = some (.cells #[v, .int .i64 0] 57 (0, 0)) ∧ w.heap.size ≤ gs ∧ Kd.S k43 43 w' w.heap.size (fun k_ => k_ ≠ gs) v V ∧ Below w.heap.size w w' := by
 have hu57 := Try.underlying57
 have HR := aM hr
 have HC := aM hc
 have AC := aM h
 clear hr hc h
 have HB := aM (Below.refl w.heap.size w)
 have d1 : decide ((l.length : Int) < 1) = false := decide_eq_false (by omega)
 have d2 : decide ((l.length : Int) > 64) = false := decide_eq_false (by omega)
 have d3 : decide (64 < (l.length : Int)) = false := decide_eq_false (by omega)
 have d4 : decide (l.length < 1) = false := decide_eq_false (by omega)
 have d5 : decide (64 < l.length) = false := decide_eq_false (by omega)
 have hl0 : ¬ (l.length = 0) := by omega
 have hln : ¬ (l = []) := fun e => by rw [e] at h1; simp at h1
 have hb0 : (l.length == 0) = false := beq_eq_false_iff_ne.mpr hl0
 go_enter Try.func8, Try.ntmps8
 go_wp2_with (first | ((with_reducible refine gate_callee (f := 19) rfl ?_); refine goesL_ (some 12) rfl rfl Try.func19 (by kernel_rfl) rfl #[.slice A l.length c] rfl pA ?_; (with_reducible refine (store_copies.calls k _ _ l V _ ?s1 ?s2 AC.out).mono ?_); (case s1 => exact Kd.C_below HR.out (qB HB)); (case s2 => exact HC.out); rintro e w9 ⟨v0, rfl, ho0, hb⟩; refine ⟨_, rfl, ?_⟩; have HV := aM (Kd.S_lower ho0 (below_size (qB HB))); replace HB := bS (qB HB) hb; clear hb ho0; obtain ⟨Ao, co, eo⟩ := Kd.S_slice HV.out; subst eo) | ((with_reducible refine gate_dst (N := 14) rfl ?_); refine box_event ?hg (N := 14) ?hd (cs := #[.slice Ao V.length co, .int .i64 0]) (t := 57) ?hr ?_; (case hd => rfl); (case hg => rfl); (case hr => first | (go_simp; done) | (go_simp; rfl)); intro gs hg w10 hbox hb; have BS := aM hbox; have GE := gE (w := w) hg (qB HB); replace HV := aM (Kd.S_below (Kd.S_elderB HV.out gs (Nat.le_of_eq hg.symm)) hb); replace HB := bS (qB HB) hb; clear hb hbox hg))
 go_ret
 exact ⟨gs, _, pE, BS.out, GE.out, Kd.S_mono HV.out (fun _ hk => hk.2), qB HB⟩
end Go.Proofs.Ytekmchjlnekliaa.Q
