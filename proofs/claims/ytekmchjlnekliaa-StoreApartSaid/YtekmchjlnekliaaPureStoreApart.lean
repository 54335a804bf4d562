/- StoreApart: it returns true (the walk, for whatever arguments). -/
import Derived.Test.YtekmchjlnekliaaQxfBankCopied
import Derived.Test.YtekmchjlnekliaaQxfBankCopy
import Derived.Test.YtekmchjlnekliaaQxfLaw24Many
import Derived.Test.YtekmchjlnekliaaQxfPlainLong
import Derived.Test.YtekmchjlnekliaaQxfPlainWide
import Derived.Test.YtekmchjlnekliaaQxfRef07Same
import Derived.Test.YtekmchjlnekliaaQxfRef07Words
import Derived.Test.YtekmchjlnekliaaQxfRef18All
import Derived.Test.YtekmchjlnekliaaQxfRef18Same
import Derived.Test.YtekmchjlnekliaaQxfRef19Has
import Derived.Test.YtekmchjlnekliaaQxfStoreCopies
import Derived.Test.YtekmchjlnekliaaStoreNew
import Derived.Test.YtekmchjlnekliaaStoreGet
import Derived.Test.YtekmchjlnekliaaStorePut
import Derived.Test.YtekmchjlnekliaaStoreSame
import Derived.Test.YtekmchjlnekliaaStoreLaw
import Derived.Test.YtekmchjlnekliaaStoreOpens
import Derived.Test.YtekmchjlnekliaaStoreWalk0
import Derived.Test.YtekmchjlnekliaaStoreWalk1
import Derived.Test.YtekmchjlnekliaaOpen
set_option linter.unusedVariables false
namespace Go.Proofs.Ytekmchjlnekliaa.Pure
open Go.RowKit Go.Proofs.YtekmchjlnekliaaW.PrintWords Go.Proofs.YtekmchjlnekliaaW.PrintLast Go.Proofs.YtekmchjlnekliaaW.PrintMore
theorem StoreApart_walk (W : World) (A0 : Option Addr) (c0 : Nat) (l0 : List Q.S43) (hr0 : Kd.C Q.k43 W A0 l0.length l0) (hc0 : l0.length ≤ c0) (ok0 : ∀ x ∈ l0, Q.ok43 x) (a1 : Bool) (A1 : Option Addr) (c1 : Nat) (l1 : List Int) (hr1 : Kd.C (Kd.int .i64) W A1 l1.length l1) (hc1 : l1.length ≤ c1) (ok1 : ∀ x ∈ l1, (Lit.int .i64 x).wf = true) (A2 : Option Addr) (c2 : Nat) (l2 : List Q.S43) (hr2 : Kd.C Q.k43 W A2 l2.length l2) (hc2 : l2.length ≤ c2) (ok2 : ∀ x ∈ l2, Q.ok43 x) :
    Calls Try.prog 3 #[.slice A0 l0.length c0, .agg #[.bool a1, .slice A1 l1.length c1, .slice A2 l2.length c2]] W fun e W' => e = .returned (.bool true) ∧ Below W.heap.size W W' := by
  by_cases h : 64 < l0.length
  · exact Q.Sa.StoreApart_A W A0 c0 l0 hr0 hc0 a1 A1 c1 l1 hr1 hc1 A2 c2 l2 hr2 hc2 h
  have h64 : l0.length ≤ 64 := by omega
  obtain ⟨bw, hw, hs0⟩ := Q.St.wide_f (l := l0) 100 (by omega) (by omega)
  cases bw with
  | true => exact Q.Sa.StoreApart_B W A0 c0 l0 hr0 hc0 a1 A1 c1 l1 hr1 hc1 A2 c2 l2 hr2 hc2 h64 hw
  | false =>
  obtain ⟨bm, hm, hs2⟩ := Q.St.many_f a1 l1 l2
  cases bm with
  | true => exact Q.Sa.StoreApart_C W A0 c0 l0 hr0 hc0 a1 A1 c1 l1 hr1 hc1 A2 c2 l2 hr2 hc2 h64 hw hm
  | false =>
  obtain ⟨m1, m2, s2⟩ := hs2 rfl
  have s0 := hs0 rfl
  by_cases hz : l0.length = 0
  · exact Q.Sa.StoreApart_D W A0 c0 l0 hr0 hc0 a1 A1 c1 l1 hr1 hc1 A2 c2 l2 hr2 hc2 hz h64 hw hm
  obtain ⟨E, U, hp, hl, hu, h1, h0⟩ := Q.St.put_f (V := l0) (l1 := l1) (l2 := l2) h64 s0 s2
  exact Q.Sa.StoreApart_E W A0 c0 l0 hr0 hc0 a1 A1 c1 l1 hr1 hc1 A2 c2 l2 hr2 hc2 h64 (by omega) hw hm s0 m1 m2 s2 E U hp hl hu h1 h0
end Go.Proofs.Ytekmchjlnekliaa.Pure
