import Derived.Test.YtmhikecbajkonaaRows
import Derived.WalkKit
import Derived.ProofKit
import Derived.OpenShut
import Derived.ShutString
import Derived.ChangeOld
import Derived.Below
import Derived.SizedLaws
import Derived.Test.YtmhikecbajkonaaKTensorActs4
namespace Go.Proofs.Ytmhikecbajkonaa.tensorActs
open Go.ChangeShapes Go.WideShapes Go.ChangeAt Go.RowKit Go.Proofs.YtmhikecbajkonaaW.PrintWords
open Go.ChangeMaps (open_string shut_string)
set_option linter.unusedVariables false
theorem own : ownKnob Try.prog.godebug = none := by kernel_rfl
theorem laidOut : laidOutB Try.prog = true := by kernel_rfl
theorem op3 : O.Opens Try.prog (Kd.int .i64) 3 (fun n => (Lit.int .i64 n).wf = true) := O.opens_int .i64 Try.underlying3 (by kernel_rfl)
theorem op22 : O.Opens Try.prog (Kd.slice 3 (Kd.int .i64)) 22 (fun l => ∀ x ∈ l, (fun n => (Lit.int .i64 n).wf = true) x) := O.opens_slice Try.underlying22 (by kernel_rfl) op3
theorem op80 : O.Opens Try.prog (Q.k80) 80 (Q.ok80) := Q.opens80
theorem op23 : O.Opens Try.prog (Kd.slice 80 (Q.k80)) 23 (fun l => ∀ x ∈ l, (Q.ok80) x) := O.opens_slice Try.underlying23 (by kernel_rfl) op80
theorem op45 : O.Opens Try.prog (Q.k45) 45 (Q.ok45) := Q.opens45
theorem op26 : O.Opens Try.prog (Kd.slice 45 (Q.k45)) 26 (fun l => ∀ x ∈ l, (Q.ok45) x) := O.opens_slice Try.underlying26 (by kernel_rfl) op45
set_option maxRecDepth 100000 in
theorem lifted (os : Os) (started : os.Started) (H : Type) (enc : TypeId × Value → H) :
    ReturnsInHanded {} Try.checked os 3 .any (Rows.tensorActsSpec.pre6 enc Try.prog Try.f3 Rows.tensorActsRow.domain false) (Rows.tensorActsSpec.post enc Try.prog Try.f3 false true false false) := by
  refine returnsInHanded_of_change_sized (C := Try.checked) own started (by kernel_rfl) Try.func3
    (ChangeSpec.witness6 (enc := enc) (C := Try.checked) false ⟨#[], #[.agg #[.slice none 0 0, .slice none 0 0], .slice none 0 0], []⟩ 8 (by kernel_rfl) (by kernel_rfl) (by kernel_rfl) (by kernel_rfl)) ?_
  intro W base args ds gs before hval0 hW hcnd hsz0 _
  have hval : ∀ (j : Nat) t v, Try.f3.params[j]? = some t → args[j]? = some v → Value.okWide Try.prog W .any base t v := hval0
  have hW' := hW
  obtain ⟨p, q, hA0, hV, rfl, hfz, hnd⟩ := hW
  have hA : DataW.TrodAll enc Try.prog W 0 (fun _ => true) true Try.f3.params.toList args.toList ds p := hA0
  rw [Try.params3] at hA hval
  obtain ⟨v0, vs0, d0, ds0, p0, q0, hargs, rfl, rfl, h0, r0⟩ := trodAll_cons hA
  obtain ⟨v1, vs1, d1, ds1, p1, q1, rfl, rfl, rfl, h1, r1⟩ := trodAll_cons r0
  obtain ⟨rfl, rfl, rfl⟩ := trodAll_nil r1
  obtain rfl : args = #[v0, v1] := by cases args; simp_all
  obtain ⟨rfl, rfl⟩ := trodVars_none hV
  have k0 := h0
  have lt0 : ∀ x ∈ p0, x.block < W.heap.size := by obtain ⟨m, hm⟩ := k0; exact DataW.trod_lt m _ _ _ hm
  obtain ⟨cs0, rfl, sz0⟩ := okWide_struct Try.underlying25 (hval 0 25 v0 rfl rfl)
  obtain ⟨fu0, hf0⟩ := h0
  obtain ⟨y0_0, n0_0, g0_0⟩ := O.field Try.underlying25 hf0 0 _ rfl
  obtain ⟨l0_0, ⟨A0_0, c0_0, e0_0, hle0_0, hr0_0⟩, ok0_0⟩ := op22.2 H enc W _ _ _ g0_0
  obtain ⟨y0_1, n0_1, g0_1⟩ := O.field Try.underlying25 hf0 1 _ rfl
  obtain ⟨l0_1, ⟨A0_1, c0_1, e0_1, hle0_1, hr0_1⟩, ok0_1⟩ := op23.2 H enc W _ _ _ g0_1
  have sl0 : cs0.toList.length = 2 := by have h_ := sz0; rw [show Try.prog.cellsOf 25 = 2 from by kernel_rfl] at h_; simpa using h_
  have sg0_0 : (cs0.toList.drop 0).take 1 = [.slice A0_0 l0_0.length c0_0] := by have h_ : (cs0.toList.drop 0).take (Try.prog.cellsOf 22) = [.slice A0_0 l0_0.length c0_0] := e0_0; rw [show Try.prog.cellsOf 22 = 1 from by kernel_rfl] at h_; exact h_
  have sg0_1 : (cs0.toList.drop 1).take 1 = [.slice A0_1 l0_1.length c0_1] := by have h_ : (cs0.toList.drop 1).take (Try.prog.cellsOf 23) = [.slice A0_1 l0_1.length c0_1] := e0_1; rw [show Try.prog.cellsOf 23 = 1 from by kernel_rfl] at h_; exact h_
  have ecs0 : cs0.toList.drop 0 = [.slice A0_0 l0_0.length c0_0, .slice A0_1 l0_1.length c0_1] := (O.seg sg0_0 (O.seg sg0_1 (O.seg_end sl0)))
  obtain rfl : cs0 = #[.slice A0_0 l0_0.length c0_0, .slice A0_1 l0_1.length c0_1] := by cases cs0; simpa using ecs0
  have k1 := h1
  have lt1 : ∀ x ∈ p1, x.block < W.heap.size := by obtain ⟨m, hm⟩ := k1; exact DataW.trod_lt m _ _ _ hm
  obtain ⟨a1, len1, cap1, rfl⟩ := okWide_slice Try.underlying26 (hval 1 26 v1 rfl rfl)
  obtain ⟨l1, A1, c1, hc1, hle1, hr1, ok1⟩ : ∃ (l : List _) (A : Option Addr) (c : Nat), Value.slice a1 len1 cap1 = .slice A l.length c ∧ l.length ≤ c ∧ Kd.C (Q.k45) W A l.length l ∧ (fun l => ∀ x ∈ l, (Q.ok45) x) l := by
    obtain ⟨fuel, hf⟩ := h1
    obtain ⟨l, ⟨A, c, e1, e2, e3⟩, e4⟩ := op26.2 H enc W fuel _ _ hf
    exact ⟨l, A, c, by simpa [Value.cells] using e1, e2, e3, e4⟩
  injection hc1 with ea1 eb1 ec1
  subst ea1
  subst eb1
  subst ec1
  clear hA0 hval0 hsz0
  refine (Pure.TensorActs_walk W _ _ l0_0 hr0_0 hle0_0 ok0_0 _ _ l0_1 hr0_1 hle0_1 ok0_1 _ _ l1 hr1 hle1 ok1).mono fun e W' ⟨he, bel⟩ => ?_
  subst he
  exact ⟨_, rfl, _, _, _, [], _, [], hW', trodAll_mk1 (shut_bool Try.underlying4 _), (trodAll_cons_mk (Below.trod laidOut (by kernel_rfl) (of_decide_eq_true (by kernel_rfl)) k0 bel lt0) (trodAll_cons_mk (Below.trod laidOut (by kernel_rfl) (of_decide_eq_true (by kernel_rfl)) k1 bel lt1) trodAll_mk0)), rfl, bel.frame _, fun h => by cases h⟩
theorem over : Rows.tensorActsRow.holds Try.pinned (OpenSpec.ofChange Rows.tensorActsSpec) :=
  OpenClaim.holds_of_wide 3 Try.f3 rfl rfl rfl rfl rfl rfl rfl ⟨rfl, rfl, rfl, rfl, rfl⟩ rfl rfl rfl rfl rfl (by kernel_rfl) Try.func3 (by kernel_rfl)
    (of_decide_eq_true (by kernel_rfl)) (by unfold Func.isWrapper; first | (rw [if_pos (by decide +kernel)]; kernel_rfl) | (rw [if_neg (by decide +kernel)]; exact ⟨rfl, rfl⟩))
    (fun os started H enc _ => lifted os started H enc)
theorem proved : Rows.TensorActsSaid := over
#print axioms proved
end Go.Proofs.Ytmhikecbajkonaa.tensorActs
namespace Go.Proofs.Ytmhikecbajkonaa
/-- The row, under a short name, for the claim. -/
theorem tensorActs_holds : Rows.TensorActsSaid := tensorActs.proved
end Go.Proofs.Ytmhikecbajkonaa
