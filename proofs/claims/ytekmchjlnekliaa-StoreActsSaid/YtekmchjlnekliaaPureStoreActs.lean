/- StoreActs: it returns true (the walk, for whatever arguments). -/
import Derived.Test.YtekmchjlnekliaaQxfBankCopied
import Derived.Test.YtekmchjlnekliaaQxfBankCopy
import Derived.Test.YtekmchjlnekliaaQxfLaw24Many
import Derived.Test.YtekmchjlnekliaaQxfPlainLong
import Derived.Test.YtekmchjlnekliaaQxfPlainWide
import Derived.Test.YtekmchjlnekliaaQxfRef07Same
import Derived.Test.YtekmchjlnekliaaQxfRef07Words
import Derived.Test.YtekmchjlnekliaaQxfRef18All
import Derived.Test.YtekmchjlnekliaaQxfRef18Same
import Derived.Test.YtekmchjlnekliaaQxfRef19Has
import Derived.Test.YtekmchjlnekliaaQxfStoreCopies
import Derived.Test.YtekmchjlnekliaaStoreNew
import Derived.Test.YtekmchjlnekliaaStoreGet
import Derived.Test.YtekmchjlnekliaaStorePut
import Derived.Test.YtekmchjlnekliaaStoreNil
import Derived.Test.YtekmchjlnekliaaStoreLaw
import Derived.Test.YtekmchjlnekliaaStoreSame
import Derived.Test.YtekmchjlnekliaaStoreRef0
import Derived.Test.YtekmchjlnekliaaStoreRef1
import Derived.Test.YtekmchjlnekliaaStoreLaw2
import Derived.Test.YtekmchjlnekliaaActsWalk0
import Derived.Test.YtekmchjlnekliaaActsWalk1
import Derived.Test.YtekmchjlnekliaaStoreOpens2
import Derived.Test.YtekmchjlnekliaaOpen
set_option linter.unusedVariables false
namespace Go.Proofs.Ytekmchjlnekliaa.Pure
open Go.RowKit Go.Proofs.YtekmchjlnekliaaW.PrintWords Go.Proofs.YtekmchjlnekliaaW.PrintLast Go.Proofs.YtekmchjlnekliaaW.PrintMore
theorem StoreActs_walk (W : World) (A0 : Option Addr) (c0 : Nat) (l0 : List Q.S43) (hr0 : Kd.C Q.k43 W A0 l0.length l0) (hc0 : l0.length ≤ c0) (ok0 : ∀ x ∈ l0, Q.ok43 x) (A1 : Option Addr) (c1 : Nat) (l1 : List Q.S25) (hr1 : Kd.C Q.k25 W A1 l1.length l1) (hc1 : l1.length ≤ c1) (ok1 : ∀ x ∈ l1, Q.ok25 x) :
    Calls Try.prog 4 #[.slice A0 l0.length c0, .slice A1 l1.length c1] W fun e W' => e = .returned (.bool true) ∧ Below W.heap.size W W' := by
  by_cases h : 100 < l0.length
  · exact Q.Sb.A W A0 c0 l0 hr0 hc0 A1 c1 l1 hr1 hc1 h
  have h100 : l0.length ≤ 100 := by omega
  obtain ⟨bw, hw, hs0⟩ := Q.St.wide_f (l := l0) 200 (by omega) (by omega)
  cases bw with
  | true => exact Q.Sb.B W A0 c0 l0 hr0 hc0 A1 c1 l1 hr1 hc1 h100 hw
  | false =>
  obtain ⟨bm, hm, hs1⟩ := Q.St.many_f2 (l := l1) hr1.2.1
  cases bm with
  | true => exact Q.Sb.C W A0 c0 l0 hr0 hc0 A1 c1 l1 hr1 hc1 h100 hw hm
  | false =>
  obtain ⟨m40, ma⟩ := hs1 rfl
  by_cases h1 : l0.length < 1
  · exact Q.Sb.D0 W A0 c0 l0 hr0 hc0 A1 c1 l1 hr1 hc1 h100 h1 hw hm
  by_cases h2 : 64 < l0.length
  · exact Q.Sb.D1 W A0 c0 l0 hr0 hc0 A1 c1 l1 hr1 hc1 h100 h2 hw hm
  exact Q.Sb.E W A0 c0 l0 hr0 hc0 A1 c1 l1 hr1 hc1 (by omega) (by omega) hw hm (hs0 rfl) m40 ma
end Go.Proofs.Ytekmchjlnekliaa.Pure
