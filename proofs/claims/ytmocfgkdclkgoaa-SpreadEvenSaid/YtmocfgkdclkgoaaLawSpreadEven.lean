-- Written by this session's program wip/lawrow.py.
import Derived.Test.YtmocfgkdclkgoaaRows
import Derived.Test.YtmocfgkdclkgoaaPureSpreadEven
import Derived.Test.YtmocfgkdclkgoaaOpen
import Derived.WalkKit
import Derived.ProofKit
import Derived.OpenShut
import Derived.ShutString
import Derived.ChangeOld
import Derived.Below
import Derived.SizedLaws
namespace Go.Proofs.Ytmocfgkdclkgoaa.spreadEven
open Go.ChangeShapes Go.WideShapes Go.ChangeAt Go.RowKit Go.Proofs.YtmocfgkdclkgoaaW.PrintWords
open Go.ChangeMaps (open_string shut_string)
set_option linter.unusedVariables false
theorem own : ownKnob Try.prog.godebug = none := by kernel_rfl
theorem laidOut : laidOutB Try.prog = true := by kernel_rfl
theorem op3 : O.Opens Try.prog (Kd.int .i64) 3 (fun n => (Lit.int .i64 n).wf = true) := O.opens_int .i64 Try.underlying3 (by kernel_rfl)
theorem op22 : O.Opens Try.prog (Kd.slice 3 (Kd.int .i64)) 22 (fun l => ∀ x ∈ l, (fun n => (Lit.int .i64 n).wf = true) x) := O.opens_slice Try.underlying22 (by kernel_rfl) op3
set_option maxRecDepth 100000 in
theorem lifted (os : Os) (started : os.Started) (H : Type) (enc : TypeId × Value → H) :
    ReturnsInHanded {} Try.checked os 3 .any (Rows.spreadEvenSpec.pre6 enc Try.prog Try.f3 Rows.spreadEvenRow.domain false) (Rows.spreadEvenSpec.post enc Try.prog Try.f3 false true false false) := by
  refine returnsInHanded_of_change_sized (C := Try.checked) own started (by kernel_rfl) Try.func3
    (ChangeSpec.witness6 (enc := enc) (C := Try.checked) false ⟨#[], #[.slice none 0 0, .slice none 0 0, .slice none 0 0], []⟩ 8 (by kernel_rfl) (by kernel_rfl) (by kernel_rfl) (by kernel_rfl)) ?_
  intro W base args ds gs before hval0 hW hcnd hsz0 _
  have hval : ∀ (j : Nat) t v, Try.f3.params[j]? = some t → args[j]? = some v → Value.okWide Try.prog W .any base t v := hval0
  have hW' := hW
  obtain ⟨p, q, hA0, hV, rfl, hfz, hnd⟩ := hW
  have hA : DataW.TrodAll enc Try.prog W 0 (fun _ => true) true Try.f3.params.toList args.toList ds p := hA0
  rw [Try.params3] at hA hval
  obtain ⟨v0, vs0, d0, ds0, p0, q0, hargs, rfl, rfl, h0, r0⟩ := trodAll_cons hA
  obtain ⟨v1, vs1, d1, ds1, p1, q1, rfl, rfl, rfl, h1, r1⟩ := trodAll_cons r0
  obtain ⟨v2, vs2, d2, ds2, p2, q2, rfl, rfl, rfl, h2, r2⟩ := trodAll_cons r1
  obtain ⟨rfl, rfl, rfl⟩ := trodAll_nil r2
  obtain rfl : args = #[v0, v1, v2] := by cases args; simp_all
  obtain ⟨rfl, rfl⟩ := trodVars_none hV
  have k0 := h0
  have lt0 : ∀ x ∈ p0, x.block < W.heap.size := by obtain ⟨m, hm⟩ := k0; exact DataW.trod_lt m _ _ _ hm
  obtain ⟨a0, len0, cap0, rfl⟩ := okWide_slice Try.underlying22 (hval 0 22 v0 rfl rfl)
  obtain ⟨l0, A0, c0, hc0, hle0, hr0, ok0⟩ : ∃ (l : List _) (A : Option Addr) (c : Nat), Value.slice a0 len0 cap0 = .slice A l.length c ∧ l.length ≤ c ∧ Kd.C (Kd.int .i64) W A l.length l ∧ (fun l => ∀ x ∈ l, (fun n => (Lit.int .i64 n).wf = true) x) l := by
    obtain ⟨fuel, hf⟩ := h0
    obtain ⟨l, ⟨A, c, e1, e2, e3⟩, e4⟩ := op22.2 H enc W fuel _ _ hf
    exact ⟨l, A, c, by simpa [Value.cells] using e1, e2, e3, e4⟩
  injection hc0 with ea0 eb0 ec0
  subst ea0
  subst eb0
  subst ec0
  have k1 := h1
  have lt1 : ∀ x ∈ p1, x.block < W.heap.size := by obtain ⟨m, hm⟩ := k1; exact DataW.trod_lt m _ _ _ hm
  obtain ⟨a1, len1, cap1, rfl⟩ := okWide_slice Try.underlying22 (hval 1 22 v1 rfl rfl)
  obtain ⟨l1, A1, c1, hc1, hle1, hr1, ok1⟩ : ∃ (l : List _) (A : Option Addr) (c : Nat), Value.slice a1 len1 cap1 = .slice A l.length c ∧ l.length ≤ c ∧ Kd.C (Kd.int .i64) W A l.length l ∧ (fun l => ∀ x ∈ l, (fun n => (Lit.int .i64 n).wf = true) x) l := by
    obtain ⟨fuel, hf⟩ := h1
    obtain ⟨l, ⟨A, c, e1, e2, e3⟩, e4⟩ := op22.2 H enc W fuel _ _ hf
    exact ⟨l, A, c, by simpa [Value.cells] using e1, e2, e3, e4⟩
  injection hc1 with ea1 eb1 ec1
  subst ea1
  subst eb1
  subst ec1
  have k2 := h2
  have lt2 : ∀ x ∈ p2, x.block < W.heap.size := by obtain ⟨m, hm⟩ := k2; exact DataW.trod_lt m _ _ _ hm
  obtain ⟨a2, len2, cap2, rfl⟩ := okWide_slice Try.underlying22 (hval 2 22 v2 rfl rfl)
  obtain ⟨l2, A2, c2, hc2, hle2, hr2, ok2⟩ : ∃ (l : List _) (A : Option Addr) (c : Nat), Value.slice a2 len2 cap2 = .slice A l.length c ∧ l.length ≤ c ∧ Kd.C (Kd.int .i64) W A l.length l ∧ (fun l => ∀ x ∈ l, (fun n => (Lit.int .i64 n).wf = true) x) l := by
    obtain ⟨fuel, hf⟩ := h2
    obtain ⟨l, ⟨A, c, e1, e2, e3⟩, e4⟩ := op22.2 H enc W fuel _ _ hf
    exact ⟨l, A, c, by simpa [Value.cells] using e1, e2, e3, e4⟩
  injection hc2 with ea2 eb2 ec2
  subst ea2
  subst eb2
  subst ec2
  clear hA0 hval0 hsz0
  refine (Pure.SpreadEven_walk W _ _ l0 hr0 hle0 ok0 _ _ l1 hr1 hle1 ok1 _ _ l2 hr2 hle2 ok2).mono fun e W' ⟨he, bel⟩ => ?_
  subst he
  exact ⟨_, rfl, _, _, _, [], _, [], hW', trodAll_mk1 (shut_bool Try.underlying4 _), (trodAll_cons_mk (Below.trod laidOut (by kernel_rfl) (of_decide_eq_true (by kernel_rfl)) k0 bel lt0) (trodAll_cons_mk (Below.trod laidOut (by kernel_rfl) (of_decide_eq_true (by kernel_rfl)) k1 bel lt1) (trodAll_cons_mk (Below.trod laidOut (by kernel_rfl) (of_decide_eq_true (by kernel_rfl)) k2 bel lt2) trodAll_mk0))), rfl, bel.frame _, fun h => by cases h⟩
theorem over : Rows.spreadEvenRow.holds Try.pinned (OpenSpec.ofChange Rows.spreadEvenSpec) :=
  OpenClaim.holds_of_wide 3 Try.f3 rfl rfl rfl rfl rfl rfl rfl ⟨rfl, rfl, rfl, rfl, rfl⟩ rfl rfl rfl rfl rfl (by kernel_rfl) Try.func3 (by kernel_rfl)
    (of_decide_eq_true (by kernel_rfl)) (by unfold Func.isWrapper; first | (rw [if_pos (by decide +kernel)]; kernel_rfl) | (rw [if_neg (by decide +kernel)]; exact ⟨rfl, rfl⟩))
    (fun os started H enc _ => lifted os started H enc)
theorem proved : Rows.SpreadEvenSaid := over
#print axioms proved
end Go.Proofs.Ytmocfgkdclkgoaa.spreadEven
namespace Go.Proofs.Ytmocfgkdclkgoaa
/-- The row, under a short name, for the claim. -/
theorem spreadEven_holds : Rows.SpreadEvenSaid := spreadEven.proved
end Go.Proofs.Ytmocfgkdclkgoaa
