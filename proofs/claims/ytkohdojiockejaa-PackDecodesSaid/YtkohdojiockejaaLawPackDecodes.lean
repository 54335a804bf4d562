-- Written by this session's program wip/lawrow.py.
import Derived.Test.YtkohdojiockejaaRows
import Derived.Test.YtkohdojiockejaaPurePackDecodes
import Derived.Test.YtkohdojiockejaaOpen
import Derived.WalkKit
import Derived.ProofKit
import Derived.OpenShut
import Derived.ShutString
import Derived.ChangeOld
import Derived.Below
import Derived.SizedLaws
namespace Go.Proofs.Ytkohdojiockejaa.packDecodes
open Go.ChangeShapes Go.WideShapes Go.ChangeAt Go.RowKit Go.Proofs.YtkohdojiockejaaW.PrintWords
open Go.ChangeMaps (open_string shut_string)
set_option linter.unusedVariables false
theorem own : ownKnob Try.prog.godebug = none := by kernel_rfl
theorem laidOut : laidOutB Try.prog = true := by kernel_rfl
theorem op5 : O.Opens Try.prog (Kd.int .u8) 5 (fun n => (Lit.int .u8 n).wf = true) := O.opens_int .u8 Try.underlying5 (by kernel_rfl)
theorem op25 : O.Opens Try.prog (Kd.slice 5 (Kd.int .u8)) 25 (fun l => ∀ x ∈ l, (fun n => (Lit.int .u8 n).wf = true) x) := O.opens_slice Try.underlying25 (by kernel_rfl) op5
set_option maxRecDepth 100000 in
theorem lifted (os : Os) (started : os.Started) (H : Type) (enc : TypeId × Value → H) :
    ReturnsInHanded {} Try.checked os 4 .any (Rows.packDecodesSpec.pre6 enc Try.prog Try.f4 Rows.packDecodesRow.domain false) (Rows.packDecodesSpec.post enc Try.prog Try.f4 false true false false) := by
  refine returnsInHanded_of_change_sized (C := Try.checked) own started (by kernel_rfl) Try.func4
    (ChangeSpec.witness6 (enc := enc) (C := Try.checked) false ⟨#[], #[.slice none 0 0], []⟩ 8 (by kernel_rfl) (by kernel_rfl) (by kernel_rfl) (by kernel_rfl)) ?_
  intro W base args ds gs before hval0 hW hcnd hsz0 _
  have hval : ∀ (j : Nat) t v, Try.f4.params[j]? = some t → args[j]? = some v → Value.okWide Try.prog W .any base t v := hval0
  have hW' := hW
  obtain ⟨p, q, hA0, hV, rfl, hfz, hnd⟩ := hW
  have hA : DataW.TrodAll enc Try.prog W 0 (fun _ => true) true Try.f4.params.toList args.toList ds p := hA0
  rw [Try.params4] at hA hval
  obtain ⟨v0, vs0, d0, ds0, p0, q0, hargs, rfl, rfl, h0, r0⟩ := trodAll_cons hA
  obtain ⟨rfl, rfl, rfl⟩ := trodAll_nil r0
  obtain rfl : args = #[v0] := by cases args; simp_all
  obtain ⟨rfl, rfl⟩ := trodVars_none hV
  have k0 := h0
  have lt0 : ∀ x ∈ p0, x.block < W.heap.size := by obtain ⟨m, hm⟩ := k0; exact DataW.trod_lt m _ _ _ hm
  obtain ⟨a0, len0, cap0, rfl⟩ := okWide_slice Try.underlying25 (hval 0 25 v0 rfl rfl)
  obtain ⟨l0, A0, c0, hc0, hle0, hr0, ok0⟩ : ∃ (l : List _) (A : Option Addr) (c : Nat), Value.slice a0 len0 cap0 = .slice A l.length c ∧ l.length ≤ c ∧ Kd.C (Kd.int .u8) W A l.length l ∧ (fun l => ∀ x ∈ l, (fun n => (Lit.int .u8 n).wf = true) x) l := by
    obtain ⟨fuel, hf⟩ := h0
    obtain ⟨l, ⟨A, c, e1, e2, e3⟩, e4⟩ := op25.2 H enc W fuel _ _ hf
    exact ⟨l, A, c, by simpa [Value.cells] using e1, e2, e3, e4⟩
  injection hc0 with ea0 eb0 ec0
  subst ea0
  subst eb0
  subst ec0
  clear hA0 hval0 hsz0
  refine (Pure.PackDecodes_walk W _ _ l0 hr0 hle0 ok0).mono fun e W' ⟨he, bel⟩ => ?_
  subst he
  exact ⟨_, rfl, _, _, _, [], _, [], hW', trodAll_mk1 (shut_bool Try.underlying4 _), (trodAll_cons_mk (Below.trod laidOut (by kernel_rfl) (of_decide_eq_true (by kernel_rfl)) k0 bel lt0) trodAll_mk0), rfl, bel.frame _, fun h => by cases h⟩
theorem over : Rows.packDecodesRow.holds Try.pinned (OpenSpec.ofChange Rows.packDecodesSpec) :=
  OpenClaim.holds_of_wide 4 Try.f4 rfl rfl rfl rfl rfl rfl rfl ⟨rfl, rfl, rfl, rfl, rfl⟩ rfl rfl rfl rfl rfl (by kernel_rfl) Try.func4 (by kernel_rfl)
    (of_decide_eq_true (by kernel_rfl)) (by unfold Func.isWrapper; first | (rw [if_pos (by decide +kernel)]; kernel_rfl) | (rw [if_neg (by decide +kernel)]; exact ⟨rfl, rfl⟩))
    (fun os started H enc _ => lifted os started H enc)
theorem proved : Rows.PackDecodesSaid := over
#print axioms proved
end Go.Proofs.Ytkohdojiockejaa.packDecodes
namespace Go.Proofs.Ytkohdojiockejaa
/-- The row, under a short name, for the claim. -/
theorem packDecodes_holds : Rows.PackDecodesSaid := packDecodes.proved
end Go.Proofs.Ytkohdojiockejaa
