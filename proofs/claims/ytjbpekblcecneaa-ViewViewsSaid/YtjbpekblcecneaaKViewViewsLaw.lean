import Derived.Test.YtjbpekblcecneaaRows
import Derived.WalkKit
import Derived.ProofKit
import Derived.OpenShut
import Derived.ShutString
import Derived.ChangeOld
import Derived.Below
import Derived.SizedLaws
import Derived.Test.YtjbpekblcecneaaKViewViews4
namespace Go.Proofs.Ytjbpekblcecneaa.viewViews
open Go.ChangeShapes Go.WideShapes Go.ChangeAt Go.RowKit Go.Proofs.YtjbpekblcecneaaW.PrintWords
open Go.ChangeMaps (open_string shut_string)
set_option linter.unusedVariables false
theorem own : ownKnob Try.prog.godebug = none := by kernel_rfl
theorem laidOut : laidOutB Try.prog = true := by kernel_rfl
theorem op3 : O.Opens Try.prog (Kd.int .i64) 3 (fun n => (Lit.int .i64 n).wf = true) := O.opens_int .i64 Try.underlying3 (by kernel_rfl)
theorem op22 : O.Opens Try.prog (Kd.slice 3 (Kd.int .i64)) 22 (fun l => ∀ x ∈ l, (fun n => (Lit.int .i64 n).wf = true) x) := O.opens_slice Try.underlying22 (by kernel_rfl) op3
theorem op4 : O.Opens Try.prog (Kd.bool) 4 (fun _ => True) := O.opens_bool Try.underlying4 (by kernel_rfl)
set_option maxRecDepth 100000 in
theorem lifted (os : Os) (started : os.Started) (H : Type) (enc : TypeId × Value → H) :
    ReturnsInHanded {} Try.checked os 5 .any (Rows.viewViewsSpec.pre6 enc Try.prog Try.f5 Rows.viewViewsRow.domain false) (Rows.viewViewsSpec.post enc Try.prog Try.f5 false true false false) := by
  refine returnsInHanded_of_change_sized (C := Try.checked) own started (by kernel_rfl) Try.func5
    (ChangeSpec.witness6 (enc := enc) (C := Try.checked) false ⟨#[], #[.agg #[.int .i64 0, .slice none 0 0, .slice none 0 0], .int .i64 0, .agg #[.int .i64 0, .int .i64 0, .int .i64 0, .int .i64 0, .int .i64 0, .int .i64 0, .int .i64 0, .int .i64 0, .bool false, .slice none 0 0]], []⟩ 8 (by kernel_rfl) (by kernel_rfl) (by kernel_rfl) (by kernel_rfl)) ?_
  intro W base args ds gs before hval0 hW hcnd hsz0 _
  have hval : ∀ (j : Nat) t v, Try.f5.params[j]? = some t → args[j]? = some v → Value.okWide Try.prog W .any base t v := hval0
  have hW' := hW
  obtain ⟨p, q, hA0, hV, rfl, hfz, hnd⟩ := hW
  have hA : DataW.TrodAll enc Try.prog W 0 (fun _ => true) true Try.f5.params.toList args.toList ds p := hA0
  rw [Try.params5] at hA hval
  obtain ⟨v0, vs0, d0, ds0, p0, q0, hargs, rfl, rfl, h0, r0⟩ := trodAll_cons hA
  obtain ⟨v1, vs1, d1, ds1, p1, q1, rfl, rfl, rfl, h1, r1⟩ := trodAll_cons r0
  obtain ⟨v2, vs2, d2, ds2, p2, q2, rfl, rfl, rfl, h2, r2⟩ := trodAll_cons r1
  obtain ⟨rfl, rfl, rfl⟩ := trodAll_nil r2
  obtain rfl : args = #[v0, v1, v2] := by cases args; simp_all
  obtain ⟨rfl, rfl⟩ := trodVars_none hV
  have k0 := h0
  have lt0 : ∀ x ∈ p0, x.block < W.heap.size := by obtain ⟨m, hm⟩ := k0; exact DataW.trod_lt m _ _ _ hm
  obtain ⟨cs0, rfl, sz0⟩ := okWide_struct Try.underlying24 (hval 0 24 v0 rfl rfl)
  obtain ⟨fu0, hf0⟩ := h0
  obtain ⟨y0_0, n0_0, g0_0⟩ := O.field Try.underlying24 hf0 0 _ rfl
  obtain ⟨a0_0, e0_0, ok0_0⟩ := op3.2 H enc W _ _ _ g0_0
  obtain ⟨y0_1, n0_1, g0_1⟩ := O.field Try.underlying24 hf0 1 _ rfl
  obtain ⟨l0_1, ⟨A0_1, c0_1, e0_1, hle0_1, hr0_1⟩, ok0_1⟩ := op22.2 H enc W _ _ _ g0_1
  obtain ⟨y0_2, n0_2, g0_2⟩ := O.field Try.underlying24 hf0 2 _ rfl
  obtain ⟨l0_2, ⟨A0_2, c0_2, e0_2, hle0_2, hr0_2⟩, ok0_2⟩ := op22.2 H enc W _ _ _ g0_2
  have sl0 : cs0.toList.length = 3 := by have h_ := sz0; rw [show Try.prog.cellsOf 24 = 3 from by kernel_rfl] at h_; simpa using h_
  have sg0_0 : (cs0.toList.drop 0).take 1 = [.int .i64 a0_0] := by have h_ : (cs0.toList.drop 0).take (Try.prog.cellsOf 3) = [.int .i64 a0_0] := e0_0; rw [show Try.prog.cellsOf 3 = 1 from by kernel_rfl] at h_; exact h_
  have sg0_1 : (cs0.toList.drop 1).take 1 = [.slice A0_1 l0_1.length c0_1] := by have h_ : (cs0.toList.drop 1).take (Try.prog.cellsOf 22) = [.slice A0_1 l0_1.length c0_1] := e0_1; rw [show Try.prog.cellsOf 22 = 1 from by kernel_rfl] at h_; exact h_
  have sg0_2 : (cs0.toList.drop 2).take 1 = [.slice A0_2 l0_2.length c0_2] := by have h_ : (cs0.toList.drop 2).take (Try.prog.cellsOf 22) = [.slice A0_2 l0_2.length c0_2] := e0_2; rw [show Try.prog.cellsOf 22 = 1 from by kernel_rfl] at h_; exact h_
  have ecs0 : cs0.toList.drop 0 = [.int .i64 a0_0, .slice A0_1 l0_1.length c0_1, .slice A0_2 l0_2.length c0_2] := (O.seg sg0_0 (O.seg sg0_1 (O.seg sg0_2 (O.seg_end sl0))))
  obtain rfl : cs0 = #[.int .i64 a0_0, .slice A0_1 l0_1.length c0_1, .slice A0_2 l0_2.length c0_2] := by cases cs0; simpa using ecs0
  obtain ⟨a1, rfl, rfl, rfl, w1⟩ := open_int Try.underlying3 (hval 1 3 v1 rfl rfl) h1
  have k2 := h2
  have lt2 : ∀ x ∈ p2, x.block < W.heap.size := by obtain ⟨m, hm⟩ := k2; exact DataW.trod_lt m _ _ _ hm
  obtain ⟨cs2, rfl, sz2⟩ := okWide_struct Try.underlying43 (hval 2 43 v2 rfl rfl)
  obtain ⟨fu2, hf2⟩ := h2
  obtain ⟨y2_0, n2_0, g2_0⟩ := O.field Try.underlying43 hf2 0 _ rfl
  obtain ⟨a2_0, e2_0, ok2_0⟩ := op3.2 H enc W _ _ _ g2_0
  obtain ⟨y2_1, n2_1, g2_1⟩ := O.field Try.underlying43 hf2 1 _ rfl
  obtain ⟨a2_1, e2_1, ok2_1⟩ := op3.2 H enc W _ _ _ g2_1
  obtain ⟨y2_2, n2_2, g2_2⟩ := O.field Try.underlying43 hf2 2 _ rfl
  obtain ⟨a2_2, e2_2, ok2_2⟩ := op3.2 H enc W _ _ _ g2_2
  obtain ⟨y2_3, n2_3, g2_3⟩ := O.field Try.underlying43 hf2 3 _ rfl
  obtain ⟨a2_3, e2_3, ok2_3⟩ := op3.2 H enc W _ _ _ g2_3
  obtain ⟨y2_4, n2_4, g2_4⟩ := O.field Try.underlying43 hf2 4 _ rfl
  obtain ⟨a2_4, e2_4, ok2_4⟩ := op3.2 H enc W _ _ _ g2_4
  obtain ⟨y2_5, n2_5, g2_5⟩ := O.field Try.underlying43 hf2 5 _ rfl
  obtain ⟨a2_5, e2_5, ok2_5⟩ := op3.2 H enc W _ _ _ g2_5
  obtain ⟨y2_6, n2_6, g2_6⟩ := O.field Try.underlying43 hf2 6 _ rfl
  obtain ⟨a2_6, e2_6, ok2_6⟩ := op3.2 H enc W _ _ _ g2_6
  obtain ⟨y2_7, n2_7, g2_7⟩ := O.field Try.underlying43 hf2 7 _ rfl
  obtain ⟨a2_7, e2_7, ok2_7⟩ := op3.2 H enc W _ _ _ g2_7
  obtain ⟨y2_8, n2_8, g2_8⟩ := O.field Try.underlying43 hf2 8 _ rfl
  obtain ⟨a2_8, e2_8, ok2_8⟩ := op4.2 H enc W _ _ _ g2_8
  obtain ⟨y2_9, n2_9, g2_9⟩ := O.field Try.underlying43 hf2 9 _ rfl
  obtain ⟨l2_9, ⟨A2_9, c2_9, e2_9, hle2_9, hr2_9⟩, ok2_9⟩ := op22.2 H enc W _ _ _ g2_9
  have sl2 : cs2.toList.length = 10 := by have h_ := sz2; rw [show Try.prog.cellsOf 43 = 10 from by kernel_rfl] at h_; simpa using h_
  have sg2_0 : (cs2.toList.drop 0).take 1 = [.int .i64 a2_0] := by have h_ : (cs2.toList.drop 0).take (Try.prog.cellsOf 3) = [.int .i64 a2_0] := e2_0; rw [show Try.prog.cellsOf 3 = 1 from by kernel_rfl] at h_; exact h_
  have sg2_1 : (cs2.toList.drop 1).take 1 = [.int .i64 a2_1] := by have h_ : (cs2.toList.drop 1).take (Try.prog.cellsOf 3) = [.int .i64 a2_1] := e2_1; rw [show Try.prog.cellsOf 3 = 1 from by kernel_rfl] at h_; exact h_
  have sg2_2 : (cs2.toList.drop 2).take 1 = [.int .i64 a2_2] := by have h_ : (cs2.toList.drop 2).take (Try.prog.cellsOf 3) = [.int .i64 a2_2] := e2_2; rw [show Try.prog.cellsOf 3 = 1 from by kernel_rfl] at h_; exact h_
  have sg2_3 : (cs2.toList.drop 3).take 1 = [.int .i64 a2_3] := by have h_ : (cs2.toList.drop 3).take (Try.prog.cellsOf 3) = [.int .i64 a2_3] := e2_3; rw [show Try.prog.cellsOf 3 = 1 from by kernel_rfl] at h_; exact h_
  have sg2_4 : (cs2.toList.drop 4).take 1 = [.int .i64 a2_4] := by have h_ : (cs2.toList.drop 4).take (Try.prog.cellsOf 3) = [.int .i64 a2_4] := e2_4; rw [show Try.prog.cellsOf 3 = 1 from by kernel_rfl] at h_; exact h_
  have sg2_5 : (cs2.toList.drop 5).take 1 = [.int .i64 a2_5] := by have h_ : (cs2.toList.drop 5).take (Try.prog.cellsOf 3) = [.int .i64 a2_5] := e2_5; rw [show Try.prog.cellsOf 3 = 1 from by kernel_rfl] at h_; exact h_
  have sg2_6 : (cs2.toList.drop 6).take 1 = [.int .i64 a2_6] := by have h_ : (cs2.toList.drop 6).take (Try.prog.cellsOf 3) = [.int .i64 a2_6] := e2_6; rw [show Try.prog.cellsOf 3 = 1 from by kernel_rfl] at h_; exact h_
  have sg2_7 : (cs2.toList.drop 7).take 1 = [.int .i64 a2_7] := by have h_ : (cs2.toList.drop 7).take (Try.prog.cellsOf 3) = [.int .i64 a2_7] := e2_7; rw [show Try.prog.cellsOf 3 = 1 from by kernel_rfl] at h_; exact h_
  have sg2_8 : (cs2.toList.drop 8).take 1 = [.bool a2_8] := by have h_ : (cs2.toList.drop 8).take (Try.prog.cellsOf 4) = [.bool a2_8] := e2_8; rw [show Try.prog.cellsOf 4 = 1 from by kernel_rfl] at h_; exact h_
  have sg2_9 : (cs2.toList.drop 9).take 1 = [.slice A2_9 l2_9.length c2_9] := by have h_ : (cs2.toList.drop 9).take (Try.prog.cellsOf 22) = [.slice A2_9 l2_9.length c2_9] := e2_9; rw [show Try.prog.cellsOf 22 = 1 from by kernel_rfl] at h_; exact h_
  have ecs2 : cs2.toList.drop 0 = [.int .i64 a2_0, .int .i64 a2_1, .int .i64 a2_2, .int .i64 a2_3, .int .i64 a2_4, .int .i64 a2_5, .int .i64 a2_6, .int .i64 a2_7, .bool a2_8, .slice A2_9 l2_9.length c2_9] := (O.seg sg2_0 (O.seg sg2_1 (O.seg sg2_2 (O.seg sg2_3 (O.seg sg2_4 (O.seg sg2_5 (O.seg sg2_6 (O.seg sg2_7 (O.seg sg2_8 (O.seg sg2_9 (O.seg_end sl2)))))))))))
  obtain rfl : cs2 = #[.int .i64 a2_0, .int .i64 a2_1, .int .i64 a2_2, .int .i64 a2_3, .int .i64 a2_4, .int .i64 a2_5, .int .i64 a2_6, .int .i64 a2_7, .bool a2_8, .slice A2_9 l2_9.length c2_9] := by cases cs2; simpa using ecs2
  clear hA0 hval0 hsz0
  refine (Pure.ViewViews_walk W a0_0 ok0_0 _ _ l0_1 hr0_1 hle0_1 ok0_1 _ _ l0_2 hr0_2 hle0_2 ok0_2 a1 w1 a2_0 ok2_0 a2_1 ok2_1 a2_2 ok2_2 a2_3 ok2_3 a2_4 ok2_4 a2_5 ok2_5 a2_6 ok2_6 a2_7 ok2_7 a2_8 _ _ l2_9 hr2_9 hle2_9 ok2_9).mono fun e W' ⟨he, bel⟩ => ?_
  subst he
  exact ⟨_, rfl, _, _, _, [], _, [], hW', trodAll_mk1 (shut_bool Try.underlying4 _), (trodAll_cons_mk (Below.trod laidOut (by kernel_rfl) (of_decide_eq_true (by kernel_rfl)) k0 bel lt0) (trodAll_cons_mk (shut_int Try.underlying3 w1) (trodAll_cons_mk (Below.trod laidOut (by kernel_rfl) (of_decide_eq_true (by kernel_rfl)) k2 bel lt2) trodAll_mk0))), rfl, bel.frame _, fun h => by cases h⟩
theorem over : Rows.viewViewsRow.holds Try.pinned (OpenSpec.ofChange Rows.viewViewsSpec) :=
  OpenClaim.holds_of_wide 5 Try.f5 rfl rfl rfl rfl rfl rfl rfl ⟨rfl, rfl, rfl, rfl, rfl⟩ rfl rfl rfl rfl rfl (by kernel_rfl) Try.func5 (by kernel_rfl)
    (of_decide_eq_true (by kernel_rfl)) (by unfold Func.isWrapper; first | (rw [if_pos (by decide +kernel)]; kernel_rfl) | (rw [if_neg (by decide +kernel)]; exact ⟨rfl, rfl⟩))
    (fun os started H enc _ => lifted os started H enc)
theorem proved : Rows.ViewViewsSaid := over
#print axioms proved
end Go.Proofs.Ytjbpekblcecneaa.viewViews
namespace Go.Proofs.Ytjbpekblcecneaa
/-- The row, under a short name, for the claim. -/
theorem viewViews_holds : Rows.ViewViewsSaid := viewViews.proved
end Go.Proofs.Ytjbpekblcecneaa
