-- Written by this session's program wip/lawrow.py.
import Derived.Test.YticcamciaohepaaRows
import Derived.Test.YticcamciaohepaaPureMovePuts
import Derived.Test.YticcamciaohepaaOpen
import Derived.WalkKit
import Derived.ProofKit
import Derived.OpenShut
import Derived.ShutString
import Derived.ChangeOld
import Derived.Below
import Derived.SizedLaws
namespace Go.Proofs.Yticcamciaohepaa.movePuts
open Go.ChangeShapes Go.WideShapes Go.ChangeAt Go.RowKit Go.Proofs.YticcamciaohepaaW.PrintWords
open Go.ChangeMaps (open_string shut_string)
set_option linter.unusedVariables false
theorem own : ownKnob Try.prog.godebug = none := by kernel_rfl
theorem laidOut : laidOutB Try.prog = true := by kernel_rfl
theorem op3 : O.Opens Try.prog (Kd.int .i64) 3 (fun n => (Lit.int .i64 n).wf = true) := O.opens_int .i64 Try.underlying3 (by kernel_rfl)
theorem op4 : O.Opens Try.prog (Kd.bool) 4 (fun _ => True) := O.opens_bool Try.underlying4 (by kernel_rfl)
theorem op22 : O.Opens Try.prog (Kd.slice 3 (Kd.int .i64)) 22 (fun l => ∀ x ∈ l, (fun n => (Lit.int .i64 n).wf = true) x) := O.opens_slice Try.underlying22 (by kernel_rfl) op3
set_option maxRecDepth 100000 in
theorem lifted (os : Os) (started : os.Started) (H : Type) (enc : TypeId × Value → H) :
    ReturnsInHanded {} Try.checked os 3 .any (Rows.movePutsSpec.pre6 enc Try.prog Try.f3 Rows.movePutsRow.domain false) (Rows.movePutsSpec.post enc Try.prog Try.f3 false true false false) := by
  refine returnsInHanded_of_change_sized (C := Try.checked) own started (by kernel_rfl) Try.func3
    (ChangeSpec.witness6 (enc := enc) (C := Try.checked) false ⟨#[], #[.agg #[.int .i64 0, .int .i64 0, .int .i64 0, .int .i64 0, .int .i64 0, .int .i64 0, .int .i64 0, .int .i64 0, .bool false, .slice none 0 0], .slice none 0 0, .int .i64 0], []⟩ 8 (by kernel_rfl) (by kernel_rfl) (by kernel_rfl) (by kernel_rfl)) ?_
  intro W base args ds gs before hval0 hW hcnd hsz0 _
  have hval : ∀ (j : Nat) t v, Try.f3.params[j]? = some t → args[j]? = some v → Value.okWide Try.prog W .any base t v := hval0
  have hW' := hW
  obtain ⟨p, q, hA0, hV, rfl, hfz, hnd⟩ := hW
  have hA : DataW.TrodAll enc Try.prog W 0 (fun _ => true) true Try.f3.params.toList args.toList ds p := hA0
  rw [Try.params3] at hA hval
  obtain ⟨v0, vs0, d0, ds0, p0, q0, hargs, rfl, rfl, h0, r0⟩ := trodAll_cons hA
  obtain ⟨v1, vs1, d1, ds1, p1, q1, rfl, rfl, rfl, h1, r1⟩ := trodAll_cons r0
  obtain ⟨v2, vs2, d2, ds2, p2, q2, rfl, rfl, rfl, h2, r2⟩ := trodAll_cons r1
  obtain ⟨rfl, rfl, rfl⟩ := trodAll_nil r2
  obtain rfl : args = #[v0, v1, v2] := by cases args; simp_all
  obtain ⟨rfl, rfl⟩ := trodVars_none hV
  have k0 := h0
  have lt0 : ∀ x ∈ p0, x.block < W.heap.size := by obtain ⟨m, hm⟩ := k0; exact DataW.trod_lt m _ _ _ hm
  obtain ⟨cs0, rfl, sz0⟩ := okWide_struct Try.underlying24 (hval 0 24 v0 rfl rfl)
  obtain ⟨fu0, hf0⟩ := h0
  obtain ⟨y0_0, n0_0, g0_0⟩ := O.field Try.underlying24 hf0 0 _ rfl
  obtain ⟨a0_0, e0_0, ok0_0⟩ := op3.2 H enc W _ _ _ g0_0
  obtain ⟨y0_1, n0_1, g0_1⟩ := O.field Try.underlying24 hf0 1 _ rfl
  obtain ⟨a0_1, e0_1, ok0_1⟩ := op3.2 H enc W _ _ _ g0_1
  obtain ⟨y0_2, n0_2, g0_2⟩ := O.field Try.underlying24 hf0 2 _ rfl
  obtain ⟨a0_2, e0_2, ok0_2⟩ := op3.2 H enc W _ _ _ g0_2
  obtain ⟨y0_3, n0_3, g0_3⟩ := O.field Try.underlying24 hf0 3 _ rfl
  obtain ⟨a0_3, e0_3, ok0_3⟩ := op3.2 H enc W _ _ _ g0_3
  obtain ⟨y0_4, n0_4, g0_4⟩ := O.field Try.underlying24 hf0 4 _ rfl
  obtain ⟨a0_4, e0_4, ok0_4⟩ := op3.2 H enc W _ _ _ g0_4
  obtain ⟨y0_5, n0_5, g0_5⟩ := O.field Try.underlying24 hf0 5 _ rfl
  obtain ⟨a0_5, e0_5, ok0_5⟩ := op3.2 H enc W _ _ _ g0_5
  obtain ⟨y0_6, n0_6, g0_6⟩ := O.field Try.underlying24 hf0 6 _ rfl
  obtain ⟨a0_6, e0_6, ok0_6⟩ := op3.2 H enc W _ _ _ g0_6
  obtain ⟨y0_7, n0_7, g0_7⟩ := O.field Try.underlying24 hf0 7 _ rfl
  obtain ⟨a0_7, e0_7, ok0_7⟩ := op3.2 H enc W _ _ _ g0_7
  obtain ⟨y0_8, n0_8, g0_8⟩ := O.field Try.underlying24 hf0 8 _ rfl
  obtain ⟨a0_8, e0_8, ok0_8⟩ := op4.2 H enc W _ _ _ g0_8
  obtain ⟨y0_9, n0_9, g0_9⟩ := O.field Try.underlying24 hf0 9 _ rfl
  obtain ⟨l0_9, ⟨A0_9, c0_9, e0_9, hle0_9, hr0_9⟩, ok0_9⟩ := op22.2 H enc W _ _ _ g0_9
  have sl0 : cs0.toList.length = 10 := by have h_ := sz0; rw [show Try.prog.cellsOf 24 = 10 from by kernel_rfl] at h_; simpa using h_
  have sg0_0 : (cs0.toList.drop 0).take 1 = [.int .i64 a0_0] := by have h_ : (cs0.toList.drop 0).take (Try.prog.cellsOf 3) = [.int .i64 a0_0] := e0_0; rw [show Try.prog.cellsOf 3 = 1 from by kernel_rfl] at h_; exact h_
  have sg0_1 : (cs0.toList.drop 1).take 1 = [.int .i64 a0_1] := by have h_ : (cs0.toList.drop 1).take (Try.prog.cellsOf 3) = [.int .i64 a0_1] := e0_1; rw [show Try.prog.cellsOf 3 = 1 from by kernel_rfl] at h_; exact h_
  have sg0_2 : (cs0.toList.drop 2).take 1 = [.int .i64 a0_2] := by have h_ : (cs0.toList.drop 2).take (Try.prog.cellsOf 3) = [.int .i64 a0_2] := e0_2; rw [show Try.prog.cellsOf 3 = 1 from by kernel_rfl] at h_; exact h_
  have sg0_3 : (cs0.toList.drop 3).take 1 = [.int .i64 a0_3] := by have h_ : (cs0.toList.drop 3).take (Try.prog.cellsOf 3) = [.int .i64 a0_3] := e0_3; rw [show Try.prog.cellsOf 3 = 1 from by kernel_rfl] at h_; exact h_
  have sg0_4 : (cs0.toList.drop 4).take 1 = [.int .i64 a0_4] := by have h_ : (cs0.toList.drop 4).take (Try.prog.cellsOf 3) = [.int .i64 a0_4] := e0_4; rw [show Try.prog.cellsOf 3 = 1 from by kernel_rfl] at h_; exact h_
  have sg0_5 : (cs0.toList.drop 5).take 1 = [.int .i64 a0_5] := by have h_ : (cs0.toList.drop 5).take (Try.prog.cellsOf 3) = [.int .i64 a0_5] := e0_5; rw [show Try.prog.cellsOf 3 = 1 from by kernel_rfl] at h_; exact h_
  have sg0_6 : (cs0.toList.drop 6).take 1 = [.int .i64 a0_6] := by have h_ : (cs0.toList.drop 6).take (Try.prog.cellsOf 3) = [.int .i64 a0_6] := e0_6; rw [show Try.prog.cellsOf 3 = 1 from by kernel_rfl] at h_; exact h_
  have sg0_7 : (cs0.toList.drop 7).take 1 = [.int .i64 a0_7] := by have h_ : (cs0.toList.drop 7).take (Try.prog.cellsOf 3) = [.int .i64 a0_7] := e0_7; rw [show Try.prog.cellsOf 3 = 1 from by kernel_rfl] at h_; exact h_
  have sg0_8 : (cs0.toList.drop 8).take 1 = [.bool a0_8] := by have h_ : (cs0.toList.drop 8).take (Try.prog.cellsOf 4) = [.bool a0_8] := e0_8; rw [show Try.prog.cellsOf 4 = 1 from by kernel_rfl] at h_; exact h_
  have sg0_9 : (cs0.toList.drop 9).take 1 = [.slice A0_9 l0_9.length c0_9] := by have h_ : (cs0.toList.drop 9).take (Try.prog.cellsOf 22) = [.slice A0_9 l0_9.length c0_9] := e0_9; rw [show Try.prog.cellsOf 22 = 1 from by kernel_rfl] at h_; exact h_
  have ecs0 : cs0.toList.drop 0 = [.int .i64 a0_0, .int .i64 a0_1, .int .i64 a0_2, .int .i64 a0_3, .int .i64 a0_4, .int .i64 a0_5, .int .i64 a0_6, .int .i64 a0_7, .bool a0_8, .slice A0_9 l0_9.length c0_9] := (O.seg sg0_0 (O.seg sg0_1 (O.seg sg0_2 (O.seg sg0_3 (O.seg sg0_4 (O.seg sg0_5 (O.seg sg0_6 (O.seg sg0_7 (O.seg sg0_8 (O.seg sg0_9 (O.seg_end sl0)))))))))))
  obtain rfl : cs0 = #[.int .i64 a0_0, .int .i64 a0_1, .int .i64 a0_2, .int .i64 a0_3, .int .i64 a0_4, .int .i64 a0_5, .int .i64 a0_6, .int .i64 a0_7, .bool a0_8, .slice A0_9 l0_9.length c0_9] := by cases cs0; simpa using ecs0
  have k1 := h1
  have lt1 : ∀ x ∈ p1, x.block < W.heap.size := by obtain ⟨m, hm⟩ := k1; exact DataW.trod_lt m _ _ _ hm
  obtain ⟨a1, len1, cap1, rfl⟩ := okWide_slice Try.underlying22 (hval 1 22 v1 rfl rfl)
  obtain ⟨l1, A1, c1, hc1, hle1, hr1, ok1⟩ : ∃ (l : List _) (A : Option Addr) (c : Nat), Value.slice a1 len1 cap1 = .slice A l.length c ∧ l.length ≤ c ∧ Kd.C (Kd.int .i64) W A l.length l ∧ (fun l => ∀ x ∈ l, (fun n => (Lit.int .i64 n).wf = true) x) l := by
    obtain ⟨fuel, hf⟩ := h1
    obtain ⟨l, ⟨A, c, e1, e2, e3⟩, e4⟩ := op22.2 H enc W fuel _ _ hf
    exact ⟨l, A, c, by simpa [Value.cells] using e1, e2, e3, e4⟩
  injection hc1 with ea1 eb1 ec1
  subst ea1
  subst eb1
  subst ec1
  obtain ⟨a2, rfl, rfl, rfl, w2⟩ := open_int Try.underlying3 (hval 2 3 v2 rfl rfl) h2
  clear hA0 hval0 hsz0
  refine (Pure.MovePuts_walk W a0_0 ok0_0 a0_1 ok0_1 a0_2 ok0_2 a0_3 ok0_3 a0_4 ok0_4 a0_5 ok0_5 a0_6 ok0_6 a0_7 ok0_7 a0_8 _ _ l0_9 hr0_9 hle0_9 ok0_9 _ _ l1 hr1 hle1 ok1 a2 w2).mono fun e W' ⟨he, bel⟩ => ?_
  subst he
  exact ⟨_, rfl, _, _, _, [], _, [], hW', trodAll_mk1 (shut_bool Try.underlying4 _), (trodAll_cons_mk (Below.trod laidOut (by kernel_rfl) (of_decide_eq_true (by kernel_rfl)) k0 bel lt0) (trodAll_cons_mk (Below.trod laidOut (by kernel_rfl) (of_decide_eq_true (by kernel_rfl)) k1 bel lt1) (trodAll_cons_mk (shut_int Try.underlying3 w2) trodAll_mk0))), rfl, bel.frame _, fun h => by cases h⟩
theorem over : Rows.movePutsRow.holds Try.pinned (OpenSpec.ofChange Rows.movePutsSpec) :=
  OpenClaim.holds_of_wide 3 Try.f3 rfl rfl rfl rfl rfl rfl rfl ⟨rfl, rfl, rfl, rfl, rfl⟩ rfl rfl rfl rfl rfl (by kernel_rfl) Try.func3 (by kernel_rfl)
    (of_decide_eq_true (by kernel_rfl)) (by unfold Func.isWrapper; first | (rw [if_pos (by decide +kernel)]; kernel_rfl) | (rw [if_neg (by decide +kernel)]; exact ⟨rfl, rfl⟩))
    (fun os started H enc _ => lifted os started H enc)
theorem proved : Rows.MovePutsSaid := over
#print axioms proved
end Go.Proofs.Yticcamciaohepaa.movePuts
namespace Go.Proofs.Yticcamciaohepaa
/-- The row, under a short name, for the claim. -/
theorem movePuts_holds : Rows.MovePutsSaid := movePuts.proved
end Go.Proofs.Yticcamciaohepaa
