-- Written by this session's program wip/lawrow.py.
import Derived.Test.YtekmchjlnekliaaRows
import Derived.Test.YtekmchjlnekliaaPureStoreActs
import Derived.Test.YtekmchjlnekliaaOpen
import Derived.WalkKit
import Derived.ProofKit
import Derived.OpenShut
import Derived.ShutString
import Derived.ChangeOld
import Derived.Below
import Derived.SizedLaws
namespace Go.Proofs.Ytekmchjlnekliaa.storeActs
open Go.ChangeShapes Go.WideShapes Go.ChangeAt Go.RowKit Go.Proofs.YtekmchjlnekliaaW.PrintWords
open Go.ChangeMaps (open_string shut_string)
set_option linter.unusedVariables false
theorem own : ownKnob Try.prog.godebug = none := by kernel_rfl
theorem laidOut : laidOutB Try.prog = true := by kernel_rfl
theorem op43 : O.Opens Try.prog (Q.k43) 43 (Q.ok43) := Q.opens43
theorem op22 : O.Opens Try.prog (Kd.slice 43 (Q.k43)) 22 (fun l => ∀ x ∈ l, (Q.ok43) x) := O.opens_slice Try.underlying22 (by kernel_rfl) op43
theorem op25 : O.Opens Try.prog (Q.k25) 25 (Q.ok25) := Q.opens25
theorem op28 : O.Opens Try.prog (Kd.slice 25 (Q.k25)) 28 (fun l => ∀ x ∈ l, (Q.ok25) x) := O.opens_slice Try.underlying28 (by kernel_rfl) op25
set_option maxRecDepth 100000 in
theorem lifted (os : Os) (started : os.Started) (H : Type) (enc : TypeId × Value → H) :
    ReturnsInHanded {} Try.checked os 4 .any (Rows.storeActsSpec.pre6 enc Try.prog Try.f4 Rows.storeActsRow.domain false) (Rows.storeActsSpec.post enc Try.prog Try.f4 false true false false) := by
  refine returnsInHanded_of_change_sized (C := Try.checked) own started (by kernel_rfl) Try.func4
    (ChangeSpec.witness6 (enc := enc) (C := Try.checked) false ⟨#[], #[.slice none 0 0, .slice none 0 0], []⟩ 8 (by kernel_rfl) (by kernel_rfl) (by kernel_rfl) (by kernel_rfl)) ?_
  intro W base args ds gs before hval0 hW hcnd hsz0 _
  have hval : ∀ (j : Nat) t v, Try.f4.params[j]? = some t → args[j]? = some v → Value.okWide Try.prog W .any base t v := hval0
  have hW' := hW
  obtain ⟨p, q, hA0, hV, rfl, hfz, hnd⟩ := hW
  have hA : DataW.TrodAll enc Try.prog W 0 (fun _ => true) true Try.f4.params.toList args.toList ds p := hA0
  rw [Try.params4] at hA hval
  obtain ⟨v0, vs0, d0, ds0, p0, q0, hargs, rfl, rfl, h0, r0⟩ := trodAll_cons hA
  obtain ⟨v1, vs1, d1, ds1, p1, q1, rfl, rfl, rfl, h1, r1⟩ := trodAll_cons r0
  obtain ⟨rfl, rfl, rfl⟩ := trodAll_nil r1
  obtain rfl : args = #[v0, v1] := by cases args; simp_all
  obtain ⟨rfl, rfl⟩ := trodVars_none hV
  have k0 := h0
  have lt0 : ∀ x ∈ p0, x.block < W.heap.size := by obtain ⟨m, hm⟩ := k0; exact DataW.trod_lt m _ _ _ hm
  obtain ⟨a0, len0, cap0, rfl⟩ := okWide_slice Try.underlying22 (hval 0 22 v0 rfl rfl)
  obtain ⟨l0, A0, c0, hc0, hle0, hr0, ok0⟩ : ∃ (l : List _) (A : Option Addr) (c : Nat), Value.slice a0 len0 cap0 = .slice A l.length c ∧ l.length ≤ c ∧ Kd.C (Q.k43) W A l.length l ∧ (fun l => ∀ x ∈ l, (Q.ok43) x) l := by
    obtain ⟨fuel, hf⟩ := h0
    obtain ⟨l, ⟨A, c, e1, e2, e3⟩, e4⟩ := op22.2 H enc W fuel _ _ hf
    exact ⟨l, A, c, by simpa [Value.cells] using e1, e2, e3, e4⟩
  injection hc0 with ea0 eb0 ec0
  subst ea0
  subst eb0
  subst ec0
  have k1 := h1
  have lt1 : ∀ x ∈ p1, x.block < W.heap.size := by obtain ⟨m, hm⟩ := k1; exact DataW.trod_lt m _ _ _ hm
  obtain ⟨a1, len1, cap1, rfl⟩ := okWide_slice Try.underlying28 (hval 1 28 v1 rfl rfl)
  obtain ⟨l1, A1, c1, hc1, hle1, hr1, ok1⟩ : ∃ (l : List _) (A : Option Addr) (c : Nat), Value.slice a1 len1 cap1 = .slice A l.length c ∧ l.length ≤ c ∧ Kd.C (Q.k25) W A l.length l ∧ (fun l => ∀ x ∈ l, (Q.ok25) x) l := by
    obtain ⟨fuel, hf⟩ := h1
    obtain ⟨l, ⟨A, c, e1, e2, e3⟩, e4⟩ := op28.2 H enc W fuel _ _ hf
    exact ⟨l, A, c, by simpa [Value.cells] using e1, e2, e3, e4⟩
  injection hc1 with ea1 eb1 ec1
  subst ea1
  subst eb1
  subst ec1
  clear hA0 hval0 hsz0
  refine (Pure.StoreActs_walk W _ _ l0 hr0 hle0 ok0 _ _ l1 hr1 hle1 ok1).mono fun e W' ⟨he, bel⟩ => ?_
  subst he
  exact ⟨_, rfl, _, _, _, [], _, [], hW', trodAll_mk1 (shut_bool Try.underlying4 _), (trodAll_cons_mk (Below.trod laidOut (by kernel_rfl) (of_decide_eq_true (by kernel_rfl)) k0 bel lt0) (trodAll_cons_mk (Below.trod laidOut (by kernel_rfl) (of_decide_eq_true (by kernel_rfl)) k1 bel lt1) trodAll_mk0)), rfl, bel.frame _, fun h => by cases h⟩
theorem over : Rows.storeActsRow.holds Try.pinned (OpenSpec.ofChange Rows.storeActsSpec) :=
  OpenClaim.holds_of_wide 4 Try.f4 rfl rfl rfl rfl rfl rfl rfl ⟨rfl, rfl, rfl, rfl, rfl⟩ rfl rfl rfl rfl rfl (by kernel_rfl) Try.func4 (by kernel_rfl)
    (of_decide_eq_true (by kernel_rfl)) (by unfold Func.isWrapper; first | (rw [if_pos (by decide +kernel)]; kernel_rfl) | (rw [if_neg (by decide +kernel)]; exact ⟨rfl, rfl⟩))
    (fun os started H enc _ => lifted os started H enc)
theorem proved : Rows.StoreActsSaid := over
#print axioms proved
end Go.Proofs.Ytekmchjlnekliaa.storeActs
namespace Go.Proofs.Ytekmchjlnekliaa
/-- The row, under a short name, for the claim. -/
theorem storeActs_holds : Rows.StoreActsSaid := storeActs.proved
end Go.Proofs.Ytekmchjlnekliaa
