/- StoreActs: the ways out ahead of the loop. -/
import Derived.Test.YtekmchjlnekliaaQxfBankCopied
import Derived.Test.YtekmchjlnekliaaQxfBankCopy
import Derived.Test.YtekmchjlnekliaaQxfLaw24Many
import Derived.Test.YtekmchjlnekliaaQxfPlainLong
import Derived.Test.YtekmchjlnekliaaQxfPlainWide
import Derived.Test.YtekmchjlnekliaaQxfRef07Same
import Derived.Test.YtekmchjlnekliaaQxfRef07Words
import Derived.Test.YtekmchjlnekliaaQxfRef18All
import Derived.Test.YtekmchjlnekliaaQxfRef18Same
import Derived.Test.YtekmchjlnekliaaQxfRef19Has
import Derived.Test.YtekmchjlnekliaaQxfStoreCopies
import Derived.Test.YtekmchjlnekliaaStoreNew
import Derived.Test.YtekmchjlnekliaaStoreGet
import Derived.Test.YtekmchjlnekliaaStorePut
import Derived.Test.YtekmchjlnekliaaStoreNil
import Derived.Test.YtekmchjlnekliaaStoreLaw
import Derived.Test.YtekmchjlnekliaaStoreSame
namespace Go.Proofs.Ytekmchjlnekliaa.Q
open Go.RowKit Go.Proofs.YtekmchjlnekliaaW.PrintWords Go.Proofs.YtekmchjlnekliaaW.PrintLast Go.Proofs.YtekmchjlnekliaaW.PrintMore
attribute [local go_sem] max2_int min2_int max_two min_two max_three min_three max_four min_four
set_option linter.unusedVariables false
set_option linter.unusedSimpArgs false
namespace Sb
theorem newNil (A : Option Addr) (c : Nat) (l : List S43) (h : l.length < 1 ∨ 64 < l.length) (w : World) : Calls Try.prog 8 #[.slice A l.length c] w fun e w' => e = .returned (.pointer none) ∧ Below w.heap.size w w' := by
 by_cases h1 : l.length < 1
 ·have hz : l.length = 0 := by omega
  rw [hz]; exact store_New.nil A c w
 have h64 : 64 < l.length := by omega
 have d1 : decide ((l.length : Int) < 1) = false := decide_eq_false (by omega)
 have d2 : decide ((l.length : Int) > 64) = true := decide_eq_true (by omega)
 have d3 : decide (64 < (l.length : Int)) = true := decide_eq_true (by omega)
 have d4 : decide (l.length < 1) = false := decide_eq_false (by omega)
 have d5 : decide (64 < l.length) = true := decide_eq_true (by omega)
 have hl0 : ¬ (l.length = 0) := by omega
 have hln : ¬ (l = []) := fun e => by rw [e] at h64; simp at h64
 have hb0 : (l.length == 0) = false := beq_eq_false_iff_ne.mpr hl0
 have HB := aM (Below.refl w.heap.size w)
 clear h h1 h64
 go_enter Try.func8, Try.ntmps8
 go_wp2
 go_ret
 exact ⟨pE, qB HB⟩
set_option maxHeartbeats 16000000 in
set_option maxRecDepth 100000 in
theorem A (W : World) (A0 : Option Addr) (c0 : Nat) (l0 : List S43) (hr0 : Kd.C k43 W A0 l0.length l0) (hc0 : l0.length ≤ c0) (A1 : Option Addr) (c1 : Nat) (l1 : List S25) (hr1 : Kd.C k25 W A1 l1.length l1) (hc1 : l1.length ≤ c1) (h : 100 < l0.length) :
  Calls Try.prog 4 #[.slice A0 l0.length c0, .slice A1 l1.length c1] W fun e W' => e = .returned (.bool true) ∧ Below W.heap.size W W' := by
 have hu43 := Try.underlying43
 have hu57 := Try.underlying57
 have hu25 := Try.underlying25
 have hu48 := Try.underlying48
 have HR0 := aM hr0
 have HR1 := aM hr1
 have HC0 := aM hc0
 have HC1 := aM hc1
 clear hr0 hr1 hc0 hc1
 have HB := aM (Below.refl W.heap.size W)
 have g100 := (show decide ((l0.length : Int) > 100) = true from decide_eq_true (by omega))
 have h100 := (show decide (100 < (l0.length : Int)) = true from decide_eq_true (by omega))
 have k100 := (show decide (100 < l0.length) = true from decide_eq_true (by omega))
 go_enter Try.func4, Try.ntmps4
 go_wp2_with (first | (go_at_call 7; (with_reducible refine (gradinelaw24_same.calls _).mono ?_); rintro e w7 ⟨rfl, hb⟩; replace HB := bS (qB HB) hb; clear hb))
 go_ret
 exact ⟨pE, qB HB⟩
set_option maxHeartbeats 16000000 in
set_option maxRecDepth 100000 in
theorem B (W : World) (A0 : Option Addr) (c0 : Nat) (l0 : List S43) (hr0 : Kd.C k43 W A0 l0.length l0) (hc0 : l0.length ≤ c0) (A1 : Option Addr) (c1 : Nat) (l1 : List S25) (hr1 : Kd.C k25 W A1 l1.length l1) (hc1 : l1.length ≤ c1) (h : l0.length ≤ 100) (hw : gradineplain_Wide.f 200 l0 9 = some true) :
  Calls Try.prog 4 #[.slice A0 l0.length c0, .slice A1 l1.length c1] W fun e W' => e = .returned (.bool true) ∧ Below W.heap.size W W' := by
 have AW := aM hw
 clear hw
 have hu43 := Try.underlying43
 have hu57 := Try.underlying57
 have hu25 := Try.underlying25
 have hu48 := Try.underlying48
 have HR0 := aM hr0
 have HR1 := aM hr1
 have HC0 := aM hc0
 have HC1 := aM hc1
 clear hr0 hr1 hc0 hc1
 have HB := aM (Below.refl W.heap.size W)
 have g100 := (show decide ((l0.length : Int) > 100) = false from decide_eq_false (by omega))
 have h100 := (show decide (100 < (l0.length : Int)) = false from decide_eq_false (by omega))
 have k100 := (show decide (100 < l0.length) = false from decide_eq_false (by omega))
 go_enter Try.func4, Try.ntmps4
 go_wp2_with (first | (go_at_call 5; (with_reducible refine (gradineplain_Wide.calls 200 _ _ l0 9 true _ ?s1 ?s2 AW.out).mono ?_); (case s1 => exact Kd.C_below HR0.out (qB HB)); (case s2 => exact HC0.out); rintro e w4 ⟨rfl, hb⟩; replace HB := bS (qB HB) hb; clear hb) | (go_at_call 7; (with_reducible refine (gradinelaw24_same.calls _).mono ?_); rintro e w7 ⟨rfl, hb⟩; replace HB := bS (qB HB) hb; clear hb))
 go_ret
 exact ⟨pE, qB HB⟩
set_option maxHeartbeats 16000000 in
set_option maxRecDepth 100000 in
theorem C (W : World) (A0 : Option Addr) (c0 : Nat) (l0 : List S43) (hr0 : Kd.C k43 W A0 l0.length l0) (hc0 : l0.length ≤ c0) (A1 : Option Addr) (c1 : Nat) (l1 : List S25) (hr1 : Kd.C k25 W A1 l1.length l1) (hc1 : l1.length ≤ c1) (h : l0.length ≤ 100) (hw : gradineplain_Wide.f 200 l0 9 = some false) (hm : gradinelaw24_many.f (l1.length + 300) l1 = some true) :
  Calls Try.prog 4 #[.slice A0 l0.length c0, .slice A1 l1.length c1] W fun e W' => e = .returned (.bool true) ∧ Below W.heap.size W W' := by
 have AW := aM hw
 have AM := aM hm
 clear hw hm
 have hu43 := Try.underlying43
 have hu57 := Try.underlying57
 have hu25 := Try.underlying25
 have hu48 := Try.underlying48
 have HR0 := aM hr0
 have HR1 := aM hr1
 have HC0 := aM hc0
 have HC1 := aM hc1
 clear hr0 hr1 hc0 hc1
 have HB := aM (Below.refl W.heap.size W)
 have g100 := (show decide ((l0.length : Int) > 100) = false from decide_eq_false (by omega))
 have h100 := (show decide (100 < (l0.length : Int)) = false from decide_eq_false (by omega))
 have k100 := (show decide (100 < l0.length) = false from decide_eq_false (by omega))
 go_enter Try.func4, Try.ntmps4
 go_wp2_with (first | (go_at_call 5; (with_reducible refine (gradineplain_Wide.calls 200 _ _ l0 9 false _ ?s1 ?s2 AW.out).mono ?_); (case s1 => exact Kd.C_below HR0.out (qB HB)); (case s2 => exact HC0.out); rintro e w4 ⟨rfl, hb⟩; replace HB := bS (qB HB) hb; clear hb) | (go_at_call 6; (with_reducible refine (gradinelaw24_many.calls (l1.length + 300) _ _ l1 true _ ?s1 ?s2 AM.out).mono ?_); (case s1 => exact Kd.C_below HR1.out (qB HB)); (case s2 => exact HC1.out); rintro e w5 ⟨rfl, hb⟩; replace HB := bS (qB HB) hb; clear hb) | (go_at_call 7; (with_reducible refine (gradinelaw24_same.calls _).mono ?_); rintro e w7 ⟨rfl, hb⟩; replace HB := bS (qB HB) hb; clear hb))
 go_ret
 exact ⟨pE, qB HB⟩
set_option maxHeartbeats 16000000 in
set_option maxRecDepth 100000 in
theorem D0 (W : World) (A0 : Option Addr) (c0 : Nat) (l0 : List S43) (hr0 : Kd.C k43 W A0 l0.length l0) (hc0 : l0.length ≤ c0) (A1 : Option Addr) (c1 : Nat) (l1 : List S25) (hr1 : Kd.C k25 W A1 l1.length l1) (hc1 : l1.length ≤ c1) (h : l0.length ≤ 100) (h1 : l0.length < 1) (hw : gradineplain_Wide.f 200 l0 9 = some false) (hm : gradinelaw24_many.f (l1.length + 300) l1 = some false) :
  Calls Try.prog 4 #[.slice A0 l0.length c0, .slice A1 l1.length c1] W fun e W' => e = .returned (.bool true) ∧ Below W.heap.size W W' := by
 have AW := aM hw
 have AM := aM hm
 have HO := aM (show l0.length < 1 ∨ 64 < l0.length from by omega)
 clear hw hm
 have hu43 := Try.underlying43
 have hu57 := Try.underlying57
 have hu25 := Try.underlying25
 have hu48 := Try.underlying48
 have HR0 := aM hr0
 have HR1 := aM hr1
 have HC0 := aM hc0
 have HC1 := aM hc1
 clear hr0 hr1 hc0 hc1
 have HB := aM (Below.refl W.heap.size W)
 have g100 := (show decide ((l0.length : Int) > 100) = false from decide_eq_false (by omega))
 have h100 := (show decide (100 < (l0.length : Int)) = false from decide_eq_false (by omega))
 have k100 := (show decide (100 < l0.length) = false from decide_eq_false (by omega))
 have g1 := (show decide ((l0.length : Int) < 1) = true from decide_eq_true (by omega))
 have k1 := (show decide (l0.length < 1) = true from decide_eq_true (by omega))
 have g64 := (show decide ((l0.length : Int) > 64) = false from decide_eq_false (by omega))
 have h64 := (show decide (64 < (l0.length : Int)) = false from decide_eq_false (by omega))
 have k64 := (show decide (64 < l0.length) = false from decide_eq_false (by omega))
 go_enter Try.func4, Try.ntmps4
 go_wp2_with (first | (go_at_call 5; (with_reducible refine (gradineplain_Wide.calls 200 _ _ l0 9 false _ ?s1 ?s2 AW.out).mono ?_); (case s1 => exact Kd.C_below HR0.out (qB HB)); (case s2 => exact HC0.out); rintro e w4 ⟨rfl, hb⟩; replace HB := bS (qB HB) hb; clear hb) | (go_at_call 6; (with_reducible refine (gradinelaw24_many.calls (l1.length + 300) _ _ l1 false _ ?s1 ?s2 AM.out).mono ?_); (case s1 => exact Kd.C_below HR1.out (qB HB)); (case s2 => exact HC1.out); rintro e w5 ⟨rfl, hb⟩; replace HB := bS (qB HB) hb; clear hb) | ((with_reducible refine gate_callee (f := 8) rfl ?_); refine goesL_ (some 27) rfl rfl Try.func8 (by kernel_rfl) rfl #[.slice A0 l0.length c0] rfl pA ?_; (with_reducible refine (newNil _ _ _ HO.out _).mono ?_); rintro e w8 ⟨rfl, hb⟩; refine ⟨_, rfl, ?_⟩; replace HB := bS (qB HB) hb; clear hb) | (go_at_call 10; (with_reducible refine (store_Get.nil _ _).mono ?_); rintro e w9 ⟨rfl, hb⟩; replace HB := bS (qB HB) hb; clear hb) | (go_at_call 14; (with_reducible refine (store_Len.nil _).mono ?_); rintro e w10 ⟨rfl, hb⟩; replace HB := bS (qB HB) hb; clear hb) | (go_at_call 13; (with_reducible refine (store_Version.nil _).mono ?_); rintro e w11 ⟨rfl, hb⟩; replace HB := bS (qB HB) hb; clear hb) | (go_at_call 9; (with_reducible refine (store_Put.nil _ _ _).mono ?_); rintro e w12 ⟨rfl, hb⟩; replace HB := bS (qB HB) hb; clear hb) | (go_at_call 7; (with_reducible refine (gradinelaw24_same.calls _).mono ?_); rintro e w7 ⟨rfl, hb⟩; replace HB := bS (qB HB) hb; clear hb))
 go_ret
 exact ⟨pE, qB HB⟩
set_option maxHeartbeats 16000000 in
set_option maxRecDepth 100000 in
theorem D1 (W : World) (A0 : Option Addr) (c0 : Nat) (l0 : List S43) (hr0 : Kd.C k43 W A0 l0.length l0) (hc0 : l0.length ≤ c0) (A1 : Option Addr) (c1 : Nat) (l1 : List S25) (hr1 : Kd.C k25 W A1 l1.length l1) (hc1 : l1.length ≤ c1) (h : l0.length ≤ 100) (h2 : 64 < l0.length) (hw : gradineplain_Wide.f 200 l0 9 = some false) (hm : gradinelaw24_many.f (l1.length + 300) l1 = some false) :
  Calls Try.prog 4 #[.slice A0 l0.length c0, .slice A1 l1.length c1] W fun e W' => e = .returned (.bool true) ∧ Below W.heap.size W W' := by
 have AW := aM hw
 have AM := aM hm
 have HO := aM (show l0.length < 1 ∨ 64 < l0.length from by omega)
 clear hw hm
 have hu43 := Try.underlying43
 have hu57 := Try.underlying57
 have hu25 := Try.underlying25
 have hu48 := Try.underlying48
 have HR0 := aM hr0
 have HR1 := aM hr1
 have HC0 := aM hc0
 have HC1 := aM hc1
 clear hr0 hr1 hc0 hc1
 have HB := aM (Below.refl W.heap.size W)
 have g100 := (show decide ((l0.length : Int) > 100) = false from decide_eq_false (by omega))
 have h100 := (show decide (100 < (l0.length : Int)) = false from decide_eq_false (by omega))
 have k100 := (show decide (100 < l0.length) = false from decide_eq_false (by omega))
 have g1 := (show decide ((l0.length : Int) < 1) = false from decide_eq_false (by omega))
 have k1 := (show decide (l0.length < 1) = false from decide_eq_false (by omega))
 have g64 := (show decide ((l0.length : Int) > 64) = true from decide_eq_true (by omega))
 have h64 := (show decide (64 < (l0.length : Int)) = true from decide_eq_true (by omega))
 have k64 := (show decide (64 < l0.length) = true from decide_eq_true (by omega))
 go_enter Try.func4, Try.ntmps4
 go_wp2_with (first | (go_at_call 5; (with_reducible refine (gradineplain_Wide.calls 200 _ _ l0 9 false _ ?s1 ?s2 AW.out).mono ?_); (case s1 => exact Kd.C_below HR0.out (qB HB)); (case s2 => exact HC0.out); rintro e w4 ⟨rfl, hb⟩; replace HB := bS (qB HB) hb; clear hb) | (go_at_call 6; (with_reducible refine (gradinelaw24_many.calls (l1.length + 300) _ _ l1 false _ ?s1 ?s2 AM.out).mono ?_); (case s1 => exact Kd.C_below HR1.out (qB HB)); (case s2 => exact HC1.out); rintro e w5 ⟨rfl, hb⟩; replace HB := bS (qB HB) hb; clear hb) | ((with_reducible refine gate_callee (f := 8) rfl ?_); refine goesL_ (some 27) rfl rfl Try.func8 (by kernel_rfl) rfl #[.slice A0 l0.length c0] rfl pA ?_; (with_reducible refine (newNil _ _ _ HO.out _).mono ?_); rintro e w8 ⟨rfl, hb⟩; refine ⟨_, rfl, ?_⟩; replace HB := bS (qB HB) hb; clear hb) | (go_at_call 10; (with_reducible refine (store_Get.nil _ _).mono ?_); rintro e w9 ⟨rfl, hb⟩; replace HB := bS (qB HB) hb; clear hb) | (go_at_call 14; (with_reducible refine (store_Len.nil _).mono ?_); rintro e w10 ⟨rfl, hb⟩; replace HB := bS (qB HB) hb; clear hb) | (go_at_call 13; (with_reducible refine (store_Version.nil _).mono ?_); rintro e w11 ⟨rfl, hb⟩; replace HB := bS (qB HB) hb; clear hb) | (go_at_call 9; (with_reducible refine (store_Put.nil _ _ _).mono ?_); rintro e w12 ⟨rfl, hb⟩; replace HB := bS (qB HB) hb; clear hb) | (go_at_call 7; (with_reducible refine (gradinelaw24_same.calls _).mono ?_); rintro e w7 ⟨rfl, hb⟩; replace HB := bS (qB HB) hb; clear hb))
 go_ret
 exact ⟨pE, qB HB⟩
end Sb
end Go.Proofs.Ytekmchjlnekliaa.Q
