/- What a row reads of scalars: their kinds, to the bottom. -/
import Derived.Test.YtekmchjlnekliaaQxfBankCopied
import Derived.Test.YtekmchjlnekliaaQxfBankCopy
import Derived.Test.YtekmchjlnekliaaQxfLaw24Many
import Derived.Test.YtekmchjlnekliaaQxfPlainLong
import Derived.Test.YtekmchjlnekliaaQxfPlainWide
import Derived.Test.YtekmchjlnekliaaQxfRef07Same
import Derived.Test.YtekmchjlnekliaaQxfRef07Words
import Derived.Test.YtekmchjlnekliaaQxfRef18All
import Derived.Test.YtekmchjlnekliaaQxfRef18Same
import Derived.Test.YtekmchjlnekliaaQxfRef19Has
import Derived.Test.YtekmchjlnekliaaQxfStoreCopies
import Derived.Test.YtekmchjlnekliaaOpen
namespace Go.Proofs.Ytekmchjlnekliaa.Q
open Go.RowKit Go.Proofs.YtekmchjlnekliaaW.PrintWords Go.Proofs.YtekmchjlnekliaaW.PrintLast Go.Proofs.YtekmchjlnekliaaW.PrintMore
set_option linter.unusedVariables false
set_option linter.unusedSimpArgs false
instance : Inhabited S43 := ⟨z43⟩
def ok43 : S43 → Prop := fun _ => True
theorem opens40 : O.Opens Try.prog k40 40 (fun _ => True) := by
  refine ⟨by kernel_rfl, fun H enc w fuel cs x h => ?_⟩
  obtain ⟨_, _, _, _, hl, _, _⟩ := DataW.trod_struct Try.underlying40 h
  obtain ⟨y0, n0, g0⟩ := O.field Try.underlying40 h 0 _ rfl
  obtain ⟨y1, n1, g1⟩ := O.field Try.underlying40 h 1 _ rfl
  obtain ⟨y2, n2, g2⟩ := O.field Try.underlying40 h 2 _ rfl
  have o38 := O.opens_slice Try.underlying38 (by kernel_rfl) (O.opens_int .u64 Try.underlying41 (by kernel_rfl))
  obtain ⟨a0, e0, _⟩ := (O.opens_bool Try.underlying4 (by kernel_rfl)).2 H enc w _ _ _ g0
  obtain ⟨l1, ⟨A1, c1, e1, hle1, hr1⟩, _⟩ := o38.2 H enc w _ _ _ g1
  obtain ⟨l2, ⟨A2, c2, e2, hle2, hr2⟩, _⟩ := o38.2 H enc w _ _ _ g2
  have hl3 : cs.length = 3 := hl.trans (by kernel_rfl)
  have k4 : Try.prog.cellsOf 4 = 1 := by kernel_rfl
  have k38 : Try.prog.cellsOf 38 = 1 := by kernel_rfl
  clear hl g0 g1 g2 h
  match cs, hl3 with
  | [u0, u1, u2], _ =>
    have q0 : ([u0, u1, u2].drop 0).take (Try.prog.cellsOf 4) = [.bool a0] := e0
    have q1 : ([u0, u1, u2].drop 1).take (Try.prog.cellsOf 38) = [.slice A1 l1.length c1] := e1
    have q2 : ([u0, u1, u2].drop 2).take (Try.prog.cellsOf 38) = [.slice A2 l2.length c2] := e2
    rw [k4] at q0
    rw [k38] at q1 q2
    have r0 : u0 = .bool a0 := by simpa using q0
    have r1 : u1 = .slice A1 l1.length c1 := by simpa using q1
    have r2 : u2 = .slice A2 l2.length c2 := by simpa using q2
    subst r0; subst r1; subst r2
    exact ⟨⟨a0, l1, l2⟩, k40_mk w ⟨a0, l1, l2⟩ hle1 hr1 hle2 hr2, trivial⟩
theorem opens43 : O.Opens Try.prog k43 43 ok43 := by
  refine ⟨by kernel_rfl, fun H enc w fuel cs x h => ?_⟩
  obtain ⟨_, _, _, _, hl, _, _⟩ := DataW.trod_struct Try.underlying43 h
  obtain ⟨y0, n0, g0⟩ := O.field Try.underlying43 h 0 _ rfl
  obtain ⟨y1, n1, g1⟩ := O.field Try.underlying43 h 1 _ rfl
  obtain ⟨y2, n2, g2⟩ := O.field Try.underlying43 h 2 _ rfl
  obtain ⟨a0, e0, _⟩ := opens40.2 H enc w _ _ _ g0
  obtain ⟨a1, e1, _⟩ := (O.opens_int .u64 Try.underlying41 (by kernel_rfl)).2 H enc w _ _ _ g1
  obtain ⟨a2, e2, _⟩ := (O.opens_int .i64 Try.underlying3 (by kernel_rfl)).2 H enc w _ _ _ g2
  have hl5 : cs.length = 5 := hl.trans (by kernel_rfl)
  have k40_ : Try.prog.cellsOf 40 = 3 := by kernel_rfl
  have k41_ : Try.prog.cellsOf 41 = 1 := by kernel_rfl
  have k3_ : Try.prog.cellsOf 3 = 1 := by kernel_rfl
  clear hl g0 g1 g2 h
  match cs, hl5 with
  | [u0, u1, u2, u3, u4], _ =>
    have q0 : k40.K w a0 (([u0, u1, u2, u3, u4].drop 0).take (Try.prog.cellsOf 40)) := e0
    have q1 : ([u0, u1, u2, u3, u4].drop 3).take (Try.prog.cellsOf 41) = [.int .u64 a1] := e1
    have q2 : ([u0, u1, u2, u3, u4].drop 4).take (Try.prog.cellsOf 3) = [.int .i64 a2] := e2
    rw [k40_] at q0
    rw [k41_] at q1
    rw [k3_] at q2
    have r1 : u3 = .int .u64 a1 := by simpa using q1
    have r2 : u4 = .int .i64 a2 := by simpa using q2
    subst r1; subst r2
    obtain ⟨A1, c1, A2, c2, e, l1, g1, l2, g2⟩ := k40_open q0
    have e' : u0 = .bool a0.f0 ∧ u1 = .slice A1 a0.f1.length c1 ∧ u2 = .slice A2 a0.f2.length c2 := by simpa using e
    obtain ⟨rfl, rfl, rfl⟩ := e'
    exact ⟨⟨a0, a1, a2⟩, k43_mk w ⟨a0, a1, a2⟩ l1 g1 l2 g2, trivial⟩
def ok25 : S25 → Prop := fun _ => True
instance : Inhabited S25 := ⟨z25⟩
theorem opens25 : O.Opens Try.prog k25 25 ok25 := by
  refine ⟨by kernel_rfl, fun H enc w fuel cs x h => ?_⟩
  obtain ⟨_, _, _, _, hl, _, _⟩ := DataW.trod_struct Try.underlying25 h
  obtain ⟨y0, n0, g0⟩ := O.field Try.underlying25 h 0 _ rfl
  obtain ⟨y1, n1, g1⟩ := O.field Try.underlying25 h 1 _ rfl
  obtain ⟨y2, n2, g2⟩ := O.field Try.underlying25 h 2 _ rfl
  have o23 := O.opens_slice Try.underlying23 (by kernel_rfl) (O.opens_int .i64 Try.underlying3 (by kernel_rfl))
  have o22 := O.opens_slice Try.underlying22 (by kernel_rfl) opens43
  obtain ⟨a0, e0, _⟩ := (O.opens_bool Try.underlying4 (by kernel_rfl)).2 H enc w _ _ _ g0
  obtain ⟨l1, ⟨A1, c1, e1, hle1, hr1⟩, _⟩ := o23.2 H enc w _ _ _ g1
  obtain ⟨l2, ⟨A2, c2, e2, hle2, hr2⟩, _⟩ := o22.2 H enc w _ _ _ g2
  have hl3 : cs.length = 3 := hl.trans (by kernel_rfl)
  have k4 : Try.prog.cellsOf 4 = 1 := by kernel_rfl
  have k23 : Try.prog.cellsOf 23 = 1 := by kernel_rfl
  have k22 : Try.prog.cellsOf 22 = 1 := by kernel_rfl
  clear hl g0 g1 g2 h
  match cs, hl3 with
  | [u0, u1, u2], _ =>
    have q0 : ([u0, u1, u2].drop 0).take (Try.prog.cellsOf 4) = [.bool a0] := e0
    have q1 : ([u0, u1, u2].drop 1).take (Try.prog.cellsOf 23) = [.slice A1 l1.length c1] := e1
    have q2 : ([u0, u1, u2].drop 2).take (Try.prog.cellsOf 22) = [.slice A2 l2.length c2] := e2
    rw [k4] at q0
    rw [k23] at q1
    rw [k22] at q2
    have r0 : u0 = .bool a0 := by simpa using q0
    have r1 : u1 = .slice A1 l1.length c1 := by simpa using q1
    have r2 : u2 = .slice A2 l2.length c2 := by simpa using q2
    subst r0; subst r1; subst r2
    exact ⟨⟨a0, l1, l2⟩, k25_mk w ⟨a0, l1, l2⟩ hle1 hr1 hle2 hr2, trivial⟩
end Go.Proofs.Ytekmchjlnekliaa.Q
