-- Written by this session's program wip/gprint.py, which drives the kit's print.py and puts the session's own texts in for some functions.
import Derived.Test.YtpoldofghcmfnaaProg
import Derived.Below
import Derived.Deep.Draws
import Derived.Deep.AppendLies
import Derived.Maps.AppendAt
import Derived.OwnWalk
import Derived.Laws.BytesArg
import Derived.Laws.MakeOwn
import Derived.Laws.OwnMore
import Derived.Deep.OwnRows
import Derived.Tactics
import Derived.Lib.ConvBytes
import Derived.Laws.Slices
import Derived.WalkKit
import Derived.KernelRfl
import Derived.RowKit3
import Derived.Deep.LoopGhost
import Derived.Deep.QuietTactic
import Derived.BigQuiet
import Derived.WideLaws
import Derived.Deep.DeepCutAuto
import Derived.Deep.CutBlock
import Derived.Deep.RegionHeld3
import Derived.Laws.Rows
import Derived.Lib.AppendStr
import Derived.ArgAppend
import Derived.Laws.IdiomCopy
import Derived.OrdersHeld
import Derived.Laws.BitsLemmas
import Derived.RowKit
import Derived.WalkMore
import Derived.Test.YtpoldofghcmfnaaMath
import Derived.Test.YtpoldofghcmfnaaWWords
import Derived.Test.YtpoldofghcmfnaaWLast
import Derived.Test.YtpoldofghcmfnaaWTab
import Derived.Test.YtpoldofghcmfnaaWFour
import Derived.Test.YtpoldofghcmfnaaWQPut
import Derived.Test.YtpoldofghcmfnaaWApart
import Derived.Test.YtpoldofghcmfnaaWArr
import Derived.Test.YtpoldofghcmfnaaWZeros
import Derived.Test.YtpoldofghcmfnaaWFoot
import Derived.Test.YtpoldofghcmfnaaWKept
import Derived.Test.YtpoldofghcmfnaaWShare
import Derived.Test.YtpoldofghcmfnaaWN
import Derived.Test.YtpoldofghcmfnaaWFootNe
import Derived.Test.YtpoldofghcmfnaaWAt
import Derived.Test.YtpoldofghcmfnaaWEqStruct
import Derived.Test.YtpoldofghcmfnaaWRepsOne
import Derived.Test.YtpoldofghcmfnaaWInv
import Derived.Test.YtpoldofghcmfnaaWInvWords
import Derived.Test.YtpoldofghcmfnaaWGuard
import Derived.Test.YtpoldofghcmfnaaWNEv
import Derived.Test.YtpoldofghcmfnaaWMore
namespace Go.Proofs.Ytpoldofghcmfnaa.Q
open Go.RowKit Go.Proofs.YtpoldofghcmfnaaW.PrintWords Go.Proofs.YtpoldofghcmfnaaW.PrintLast Go.Proofs.YtpoldofghcmfnaaW.PrintMore
attribute [local go_sem] max2_int min2_int max_two min_two max_three min_three max_four min_four   -- for this text's walks alone
set_option linter.unusedVariables false
set_option linter.unusedSimpArgs false



def errW : Option Int → Value
  | none => .nilIface
  | some c => .iface 0 (.int .i64 c)
theorem errW_none : errW none = .nilIface := rfl
theorem errW_some (c : Int) : errW (some c) = .iface 0 (.int .i64 c) := rfl

theorem info3 : (Try.prog.info? 3).map (fun i => (i.zero, i.size, i.bytes)) = some (some (.int .i64 0), 1, 8) := by kernel_rfl
theorem info4 : (Try.prog.info? 4).map (fun i => (i.zero, i.size, i.bytes)) = some (some (.bool false), 1, 1) := by kernel_rfl
theorem info22 : (Try.prog.info? 22).map (fun i => (i.zero, i.size, i.bytes)) = some (some (.slice none 0 0), 1, 24) := by kernel_rfl
-- the values' own types
def rd_L1 (xs : List (List Int)) (i : Int) : (List Int) := xs.getD i.toNat ([] : List Int)
theorem at_L1 {w : World} {A : Option Addr} {n : Nat} {xs : List (List Int)} (h : Kd.C (Kd.slice 3 (Kd.int .i64)) w A n xs) (i : Int) (h0 : 0 ≤ i) (h1 : i < n) : ∃ ad A0 c0, A = some ad ∧ w.cell? (ad.add i.toNat) = some (.slice A0 (rd_L1 xs i).length c0) ∧ (rd_L1 xs i).length ≤ c0 ∧ (Kd.int .i64).C w A0 (rd_L1 xs i).length (rd_L1 xs i) := by
  obtain ⟨ad, c, e, _, hK, hc0⟩ := Kd.C_get h ([] : List Int) i h0 h1
  have hc : ∀ j u, c[j]? = some u → w.cell? (ad.add (i.toNat * 1 + j)) = some u := hc0
  obtain ⟨A0, c0, rfl, l0, g0⟩ := hK
  exact ⟨ad, A0, c0, e, by have hq := hc 0 _ rfl; rwa [Nat.mul_one, Nat.add_zero] at hq, l0, g0⟩

theorem pB {p q : Prop} (x : q) (h : q → p := by intro h_; repeat (first | (with_reducible first | exact h_ | apply below_alloc | apply pw_below_drewN | apply below_drew1) | exact h_)) : p := h x
theorem pR {p q : Prop} (x : q) (h : q → p := by intro h_; (with_reducible repeat (first | apply Kd.R_alloc | apply Kd.R_drewN | apply Kd.R_drew)); exact h_) : p := h x
theorem pV {p q : Prop} (x : q) (h : q → p := by intro h_; (with_reducible repeat (first | apply Kd.V_alloc | apply Kd.V_drewN | apply Kd.V_drew)); exact h_) : p := h x
theorem pC {p q : Prop} (x : q) (h : q → p := by intro h_; repeat (first | exact h_ | (with_reducible refine Kd.C_alloc ?_ _) | (with_reducible refine Kd.C_drewN ?_ _) | (with_reducible refine Kd.C_drew ?_))) : p := h x
theorem pA {p : Prop} (h : p := by (try simp only [List.map_toArray, List.map_cons, List.map_nil]); first | done | rfl | (simp only [List.length_drop, List.length_take]; rfl)) : p := h
theorem pD {p : Prop} (h : p := by first | (with_reducible assumption) | assumption) : p := h

end Go.Proofs.Ytpoldofghcmfnaa.Q
