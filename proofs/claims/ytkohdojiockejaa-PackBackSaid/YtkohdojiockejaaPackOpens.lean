/- What a row reads of commands: their kinds. -/
import Derived.Test.YtkohdojiockejaaQxfLaw45Many
import Derived.Test.YtkohdojiockejaaPackW0
import Derived.Test.YtkohdojiockejaaPackW1
import Derived.Test.YtkohdojiockejaaPackW2
import Derived.Test.YtkohdojiockejaaOpen
namespace Go.Proofs.Ytkohdojiockejaa.Q
open Go.RowKit Go.Proofs.YtkohdojiockejaaW.PrintWords Go.Proofs.YtkohdojiockejaaW.PrintLast Go.Proofs.YtkohdojiockejaaW.PrintMore
set_option linter.unusedVariables false
set_option linter.unusedSimpArgs false
instance : Inhabited S71 := ⟨z71⟩
instance : Inhabited S42 := ⟨z42⟩
instance : Inhabited S45 := ⟨z45⟩
theorem wf_i64 {x : Int} (h : (Lit.int .i64 x).wf = true) : Pk.i64 x := by
  simp only [Lit.wf, Bool.and_eq_true, decide_eq_true_eq] at h
  exact h
theorem wf_u64 {x : Int} (h : (Lit.int .u64 x).wf = true) : 0 ≤ x ∧ x < 18446744073709551616 := by
  simp only [Lit.wf, Bool.and_eq_true, decide_eq_true_eq] at h
  have h1 : (0 : Int) ≤ x := h.1
  have h2 : x ≤ 18446744073709551615 := h.2
  omega
def ok71 (x : S71) : Prop := Pk.i64 x.f0 ∧ Pk.i64 x.f1 ∧ 0 ≤ x.f2 ∧ x.f2 < 18446744073709551616
def ok42 (x : S42) : Prop := (Pk.i64 x.f0 ∧ Pk.i64 x.f1 ∧ Pk.i64 x.f2 ∧ Pk.i64 x.f3 ∧ Pk.i64 x.f4 ∧ Pk.i64 x.f5 ∧ Pk.i64 x.f6 ∧ Pk.i64 x.f7) ∧ ∀ y ∈ x.f9, Pk.i64 y
def ok45 : S45 → Prop := Pk.okC
theorem k3_ : Try.prog.cellsOf 3 = 1 := by kernel_rfl
theorem k4_ : Try.prog.cellsOf 4 = 1 := by kernel_rfl
theorem k40_ : Try.prog.cellsOf 40 = 1 := by kernel_rfl
theorem k43_ : Try.prog.cellsOf 43 = 1 := by kernel_rfl
theorem k66_ : Try.prog.cellsOf 66 = 1 := by kernel_rfl
theorem k42_ : Try.prog.cellsOf 42 = 10 := by kernel_rfl
set_option maxRecDepth 100000 in
theorem opens71 : O.Opens Try.prog k71 71 ok71 := by
  refine ⟨by kernel_rfl, fun H enc w fuel cs x h => ?_⟩
  obtain ⟨_, _, _, _, hl, _, _⟩ := DataW.trod_struct Try.underlying71 h
  obtain ⟨y0, n0, g0⟩ := O.field Try.underlying71 h 0 _ rfl
  obtain ⟨y1, n1, g1⟩ := O.field Try.underlying71 h 1 _ rfl
  obtain ⟨y2, n2, g2⟩ := O.field Try.underlying71 h 2 _ rfl
  have i3 := O.opens_int .i64 Try.underlying3 (by kernel_rfl)
  have iu := O.opens_int .u64 Try.underlying66 (by kernel_rfl)
  obtain ⟨a0, e0, o0⟩ := i3.2 H enc w _ _ _ g0
  obtain ⟨a1, e1, o1⟩ := i3.2 H enc w _ _ _ g1
  obtain ⟨a2, e2, o2⟩ := iu.2 H enc w _ _ _ g2
  have hln : cs.length = 3 := hl.trans (by kernel_rfl)
  clear hl h g0 g1 g2
  match cs, hln with
  | [u0, u1, u2], _ =>
    have q0 : ([u0, u1, u2].drop 0).take (Try.prog.cellsOf 3) = [.int .i64 a0] := e0
    rw [k3_] at q0
    have r0 : u0 = .int .i64 a0 := by simpa using q0
    subst r0
    have q1 : ([.int .i64 a0, u1, u2].drop 1).take (Try.prog.cellsOf 3) = [.int .i64 a1] := e1
    rw [k3_] at q1
    have r1 : u1 = .int .i64 a1 := by simpa using q1
    subst r1
    have q2 : ([.int .i64 a0, .int .i64 a1, u2].drop 2).take (Try.prog.cellsOf 66) = [.int .u64 a2] := e2
    rw [k66_] at q2
    have r2 : u2 = .int .u64 a2 := by simpa using q2
    subst r2
    exact ⟨⟨a0, a1, a2⟩, k71_mk w ⟨a0, a1, a2⟩ , ⟨wf_i64 o0, wf_i64 o1, wf_u64 o2⟩⟩
set_option maxRecDepth 100000 in
theorem opens42 : O.Opens Try.prog k42 42 ok42 := by
  refine ⟨by kernel_rfl, fun H enc w fuel cs x h => ?_⟩
  obtain ⟨_, _, _, _, hl, _, _⟩ := DataW.trod_struct Try.underlying42 h
  obtain ⟨y0, n0, g0⟩ := O.field Try.underlying42 h 0 _ rfl
  obtain ⟨y1, n1, g1⟩ := O.field Try.underlying42 h 1 _ rfl
  obtain ⟨y2, n2, g2⟩ := O.field Try.underlying42 h 2 _ rfl
  obtain ⟨y3, n3, g3⟩ := O.field Try.underlying42 h 3 _ rfl
  obtain ⟨y4, n4, g4⟩ := O.field Try.underlying42 h 4 _ rfl
  obtain ⟨y5, n5, g5⟩ := O.field Try.underlying42 h 5 _ rfl
  obtain ⟨y6, n6, g6⟩ := O.field Try.underlying42 h 6 _ rfl
  obtain ⟨y7, n7, g7⟩ := O.field Try.underlying42 h 7 _ rfl
  obtain ⟨y8, n8, g8⟩ := O.field Try.underlying42 h 8 _ rfl
  obtain ⟨y9, n9, g9⟩ := O.field Try.underlying42 h 9 _ rfl
  have i3 := O.opens_int .i64 Try.underlying3 (by kernel_rfl)
  have i40 := O.opens_slice Try.underlying40 (by kernel_rfl) i3
  obtain ⟨a0, e0, o0⟩ := i3.2 H enc w _ _ _ g0
  obtain ⟨a1, e1, o1⟩ := i3.2 H enc w _ _ _ g1
  obtain ⟨a2, e2, o2⟩ := i3.2 H enc w _ _ _ g2
  obtain ⟨a3, e3, o3⟩ := i3.2 H enc w _ _ _ g3
  obtain ⟨a4, e4, o4⟩ := i3.2 H enc w _ _ _ g4
  obtain ⟨a5, e5, o5⟩ := i3.2 H enc w _ _ _ g5
  obtain ⟨a6, e6, o6⟩ := i3.2 H enc w _ _ _ g6
  obtain ⟨a7, e7, o7⟩ := i3.2 H enc w _ _ _ g7
  obtain ⟨a8, e8, _⟩ := (O.opens_bool Try.underlying4 (by kernel_rfl)).2 H enc w _ _ _ g8
  obtain ⟨a9, ⟨A9, c9, e9, hle9, hr9⟩, o9⟩ := i40.2 H enc w _ _ _ g9
  have hln : cs.length = 10 := hl.trans (by kernel_rfl)
  clear hl h g0 g1 g2 g3 g4 g5 g6 g7 g8 g9
  match cs, hln with
  | [u0, u1, u2, u3, u4, u5, u6, u7, u8, u9], _ =>
    have q0 : ([u0, u1, u2, u3, u4, u5, u6, u7, u8, u9].drop 0).take (Try.prog.cellsOf 3) = [.int .i64 a0] := e0
    rw [k3_] at q0
    have r0 : u0 = .int .i64 a0 := by simpa using q0
    subst r0
    have q1 : ([.int .i64 a0, u1, u2, u3, u4, u5, u6, u7, u8, u9].drop 1).take (Try.prog.cellsOf 3) = [.int .i64 a1] := e1
    rw [k3_] at q1
    have r1 : u1 = .int .i64 a1 := by simpa using q1
    subst r1
    have q2 : ([.int .i64 a0, .int .i64 a1, u2, u3, u4, u5, u6, u7, u8, u9].drop 2).take (Try.prog.cellsOf 3) = [.int .i64 a2] := e2
    rw [k3_] at q2
    have r2 : u2 = .int .i64 a2 := by simpa using q2
    subst r2
    have q3 : ([.int .i64 a0, .int .i64 a1, .int .i64 a2, u3, u4, u5, u6, u7, u8, u9].drop 3).take (Try.prog.cellsOf 3) = [.int .i64 a3] := e3
    rw [k3_] at q3
    have r3 : u3 = .int .i64 a3 := by simpa using q3
    subst r3
    have q4 : ([.int .i64 a0, .int .i64 a1, .int .i64 a2, .int .i64 a3, u4, u5, u6, u7, u8, u9].drop 4).take (Try.prog.cellsOf 3) = [.int .i64 a4] := e4
    rw [k3_] at q4
    have r4 : u4 = .int .i64 a4 := by simpa using q4
    subst r4
    have q5 : ([.int .i64 a0, .int .i64 a1, .int .i64 a2, .int .i64 a3, .int .i64 a4, u5, u6, u7, u8, u9].drop 5).take (Try.prog.cellsOf 3) = [.int .i64 a5] := e5
    rw [k3_] at q5
    have r5 : u5 = .int .i64 a5 := by simpa using q5
    subst r5
    have q6 : ([.int .i64 a0, .int .i64 a1, .int .i64 a2, .int .i64 a3, .int .i64 a4, .int .i64 a5, u6, u7, u8, u9].drop 6).take (Try.prog.cellsOf 3) = [.int .i64 a6] := e6
    rw [k3_] at q6
    have r6 : u6 = .int .i64 a6 := by simpa using q6
    subst r6
    have q7 : ([.int .i64 a0, .int .i64 a1, .int .i64 a2, .int .i64 a3, .int .i64 a4, .int .i64 a5, .int .i64 a6, u7, u8, u9].drop 7).take (Try.prog.cellsOf 3) = [.int .i64 a7] := e7
    rw [k3_] at q7
    have r7 : u7 = .int .i64 a7 := by simpa using q7
    subst r7
    have q8 : ([.int .i64 a0, .int .i64 a1, .int .i64 a2, .int .i64 a3, .int .i64 a4, .int .i64 a5, .int .i64 a6, .int .i64 a7, u8, u9].drop 8).take (Try.prog.cellsOf 4) = [.bool a8] := e8
    rw [k4_] at q8
    have r8 : u8 = .bool a8 := by simpa using q8
    subst r8
    have q9 : ([.int .i64 a0, .int .i64 a1, .int .i64 a2, .int .i64 a3, .int .i64 a4, .int .i64 a5, .int .i64 a6, .int .i64 a7, .bool a8, u9].drop 9).take (Try.prog.cellsOf 40) = [.slice A9 a9.length c9] := e9
    rw [k40_] at q9
    have r9 : u9 = .slice A9 a9.length c9 := by simpa using q9
    subst r9
    exact ⟨⟨a0, a1, a2, a3, a4, a5, a6, a7, a8, a9⟩, k42_mk w ⟨a0, a1, a2, a3, a4, a5, a6, a7, a8, a9⟩ hle9 hr9, ⟨⟨wf_i64 o0, wf_i64 o1, wf_i64 o2, wf_i64 o3, wf_i64 o4, wf_i64 o5, wf_i64 o6, wf_i64 o7⟩, fun y hy => wf_i64 (o9 y hy)⟩⟩
set_option maxRecDepth 100000 in
theorem opens45 : O.Opens Try.prog k45 45 ok45 := by
  refine ⟨by kernel_rfl, fun H enc w fuel cs x h => ?_⟩
  obtain ⟨_, _, _, _, hl, _, _⟩ := DataW.trod_struct Try.underlying45 h
  obtain ⟨y0, n0, g0⟩ := O.field Try.underlying45 h 0 _ rfl
  obtain ⟨y1, n1, g1⟩ := O.field Try.underlying45 h 1 _ rfl
  obtain ⟨y2, n2, g2⟩ := O.field Try.underlying45 h 2 _ rfl
  obtain ⟨y3, n3, g3⟩ := O.field Try.underlying45 h 3 _ rfl
  obtain ⟨y4, n4, g4⟩ := O.field Try.underlying45 h 4 _ rfl
  obtain ⟨y5, n5, g5⟩ := O.field Try.underlying45 h 5 _ rfl
  obtain ⟨y6, n6, g6⟩ := O.field Try.underlying45 h 6 _ rfl
  obtain ⟨y7, n7, g7⟩ := O.field Try.underlying45 h 7 _ rfl
  have i3 := O.opens_int .i64 Try.underlying3 (by kernel_rfl)
  have i40 := O.opens_slice Try.underlying40 (by kernel_rfl) i3
  have i43 := O.opens_slice Try.underlying43 (by kernel_rfl) opens71
  obtain ⟨a0, e0, o0⟩ := i3.2 H enc w _ _ _ g0
  obtain ⟨a1, e1, o1⟩ := i3.2 H enc w _ _ _ g1
  obtain ⟨a2, e2, o2⟩ := i3.2 H enc w _ _ _ g2
  obtain ⟨a3, ⟨A3, c3, e3, hle3, hr3⟩, o3⟩ := i40.2 H enc w _ _ _ g3
  obtain ⟨a4, e4, o4⟩ := opens42.2 H enc w _ _ _ g4
  obtain ⟨a5, ⟨A5, c5, e5, hle5, hr5⟩, o5⟩ := i40.2 H enc w _ _ _ g5
  obtain ⟨a6, ⟨A6, c6, e6, hle6, hr6⟩, o6⟩ := i43.2 H enc w _ _ _ g6
  obtain ⟨a7, e7, _⟩ := (O.opens_bool Try.underlying4 (by kernel_rfl)).2 H enc w _ _ _ g7
  have hln : cs.length = 17 := hl.trans (by kernel_rfl)
  clear hl h g0 g1 g2 g3 g4 g5 g6 g7
  match cs, hln with
  | [u0, u1, u2, u3, u4, u5, u6, u7, u8, u9, u10, u11, u12, u13, u14, u15, u16], _ =>
    have q0 : ([u0, u1, u2, u3, u4, u5, u6, u7, u8, u9, u10, u11, u12, u13, u14, u15, u16].drop 0).take (Try.prog.cellsOf 3) = [.int .i64 a0] := e0
    rw [k3_] at q0
    have r0 : u0 = .int .i64 a0 := by simpa using q0
    subst r0
    have q1 : ([.int .i64 a0, u1, u2, u3, u4, u5, u6, u7, u8, u9, u10, u11, u12, u13, u14, u15, u16].drop 1).take (Try.prog.cellsOf 3) = [.int .i64 a1] := e1
    rw [k3_] at q1
    have r1 : u1 = .int .i64 a1 := by simpa using q1
    subst r1
    have q2 : ([.int .i64 a0, .int .i64 a1, u2, u3, u4, u5, u6, u7, u8, u9, u10, u11, u12, u13, u14, u15, u16].drop 2).take (Try.prog.cellsOf 3) = [.int .i64 a2] := e2
    rw [k3_] at q2
    have r2 : u2 = .int .i64 a2 := by simpa using q2
    subst r2
    have q3 : ([.int .i64 a0, .int .i64 a1, .int .i64 a2, u3, u4, u5, u6, u7, u8, u9, u10, u11, u12, u13, u14, u15, u16].drop 3).take (Try.prog.cellsOf 40) = [.slice A3 a3.length c3] := e3
    rw [k40_] at q3
    have r3 : u3 = .slice A3 a3.length c3 := by simpa using q3
    subst r3
    have q5 : ([.int .i64 a0, .int .i64 a1, .int .i64 a2, .slice A3 a3.length c3, u4, u5, u6, u7, u8, u9, u10, u11, u12, u13, u14, u15, u16].drop 14).take (Try.prog.cellsOf 40) = [.slice A5 a5.length c5] := e5
    rw [k40_] at q5
    have r5 : u14 = .slice A5 a5.length c5 := by simpa using q5
    subst r5
    have q6 : ([.int .i64 a0, .int .i64 a1, .int .i64 a2, .slice A3 a3.length c3, u4, u5, u6, u7, u8, u9, u10, u11, u12, u13, .slice A5 a5.length c5, u15, u16].drop 15).take (Try.prog.cellsOf 43) = [.slice A6 a6.length c6] := e6
    rw [k43_] at q6
    have r6 : u15 = .slice A6 a6.length c6 := by simpa using q6
    subst r6
    have q7 : ([.int .i64 a0, .int .i64 a1, .int .i64 a2, .slice A3 a3.length c3, u4, u5, u6, u7, u8, u9, u10, u11, u12, u13, .slice A5 a5.length c5, .slice A6 a6.length c6, u16].drop 16).take (Try.prog.cellsOf 4) = [.bool a7] := e7
    rw [k4_] at q7
    have r7 : u16 = .bool a7 := by simpa using q7
    subst r7
    have q4 : k42.K w a4 (([.int .i64 a0, .int .i64 a1, .int .i64 a2, .slice A3 a3.length c3, u4, u5, u6, u7, u8, u9, u10, u11, u12, u13, .slice A5 a5.length c5, .slice A6 a6.length c6, .bool a7].drop 4).take (Try.prog.cellsOf 42)) := e4
    rw [k42_] at q4
    obtain ⟨A9, c9, e9, hle9, hr9⟩ := k42_open q4
    have e9' : u4 = .int .i64 a4.f0 ∧ u5 = .int .i64 a4.f1 ∧ u6 = .int .i64 a4.f2 ∧ u7 = .int .i64 a4.f3 ∧ u8 = .int .i64 a4.f4 ∧ u9 = .int .i64 a4.f5 ∧ u10 = .int .i64 a4.f6 ∧ u11 = .int .i64 a4.f7 ∧ u12 = .bool a4.f8 ∧ u13 = .slice A9 a4.f9.length c9 := by simpa using e9
    obtain ⟨rfl, rfl, rfl, rfl, rfl, rfl, rfl, rfl, rfl, rfl⟩ := e9'
    exact ⟨⟨a0, a1, a2, a3, a4, a5, a6, a7⟩, k45_mk w ⟨a0, a1, a2, a3, a4, a5, a6, a7⟩ hle3 hr3 hle9 hr9 hle5 hr5 hle6 hr6, ⟨⟨wf_i64 o0, wf_i64 o1, wf_i64 o2⟩, o4.1, ⟨fun y hy => wf_i64 (o3 y hy), o4.2, fun y hy => wf_i64 (o5 y hy)⟩, o6⟩⟩
end Go.Proofs.Ytkohdojiockejaa.Q
