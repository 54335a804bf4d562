/- Decode's recovery. -/
import Derived.Test.YtkohdojiockejaaQxfPlainBytes
import Derived.Test.YtkohdojiockejaaQxfLaw45Many
import Derived.Test.YtkohdojiockejaaQxfRef45Encode
import Derived.Test.YtkohdojiockejaaPackBits
import Derived.Test.YtkohdojiockejaaPackW0
import Derived.Test.YtkohdojiockejaaPackR0
import Derived.Test.YtkohdojiockejaaPackR1
import Derived.Defers
import Derived.Recover
import Derived.WalkLawsBesides
namespace Go.Proofs.Ytkohdojiockejaa.Q
open Go.RowKit Go.Proofs.YtkohdojiockejaaW.PrintWords Go.Proofs.YtkohdojiockejaaW.PrintLast Go.Proofs.YtkohdojiockejaaW.PrintMore
attribute [local go_sem] max2_int min2_int max_two min_two max_three min_three max_four min_four
set_option linter.unusedVariables false
set_option linter.unusedSimpArgs false
namespace Pk
/-- A region's operations one after another, where a recover is among them. -/
def wpL (P : Program) (ops : Array Oper) (Q : Exit → Act → List Frame → World → Prop) : List Oper → Act → List Frame → World → Prop
  | [], a, cs, w => Q .normal a cs w
  | o :: rest, a, cs, w =>
    if Region.wanted o (yielded ops a.tmps) then
      match (execOp a.eval o).run P w with
      | .ok .recover w' =>
        match recoverD cs with
        | some (v, cs') => wpL P ops Q rest (a.put o.dst v) cs' w'
        | none => wpL P ops Q rest (a.put o.dst .nilIface) cs w'
      | .ok (.value v) w' => wpL P ops Q rest (a.put o.dst v) cs w'
      | .ok .skip w' => wpL P ops Q rest (a.put o.dst undef) cs w'
      | _ => False
    else wpL P ops Q rest (a.put o.dst undef) cs w
section
variable {P : Program} {ops : Array Oper} {o : Oper} {a : Act} {cs : List Frame} {w w' : World} {Q : Exit → Act → List Frame → World → Prop}
theorem wpOpsS_of_wpL : ∀ (l : List Oper) (k : Nat) (a : Act) (cs : List Frame) (w : World), (∀ j, l[j]? = ops[k + j]?) → wpL P ops Q l a cs w → wpOpsS P ops Q (List.range' k l.length) a cs w := by
  intro l
  induction l with
  | nil => intro k a cs w _ h; exact h
  | cons o rest ih =>
    intro k a cs w hj h
    have ho : ops[k]? = some o := (hj 0).symm
    have hr : ∀ j, rest[j]? = ops[(k + 1) + j]? := fun j => by
      have := hj (j + 1)
      rw [List.getElem?_cons_succ] at this
      rw [this, show k + (j + 1) = (k + 1) + j by omega]
    have ih' := fun a cs w => ih (k + 1) a cs w hr
    rw [List.length_cons, List.range'_succ]
    unfold wpOpsS
    simp only [ho]
    unfold wpL at h
    split at h
    · rename_i hw
      rw [if_pos hw]
      split at h
      · rename_i w' hrun
        simp only [hrun]
        split at h
        · rename_i hc; simp only [hc]; exact ih' _ _ _ h
        · rename_i hc; simp only [hc]; exact ih' _ _ _ h
      · rename_i v w' hrun
        simp only [hrun, Oper.upon]
        exact ih' _ _ _ h
      · rename_i w' hrun
        simp only [hrun, Oper.upon]
        exact ih' _ _ _ h
      · exact h.elim
    · rename_i hw
      rw [if_neg hw]
      exact ih' _ _ _ h
theorem region_list {id : Nat} {l : List Oper} (h : wpL P l.toArray Q l a cs w) : (Code.region id l.toArray false).wpS P Q a cs w := by
  refine wpS_region ?_
  rw [List.range_eq_range', show l.toArray.size = l.length from rfl]
  exact wpOpsS_of_wpL l 0 a cs w (fun j => by rw [Nat.zero_add]; simp) h
variable {rest : List Oper}
theorem wpL_val {v : Value} (hg : o.guard = none) (hr : (execOp a.eval o).run P w = .ok (.value v) w') (h : ∀ a', a.put o.dst v = a' → wpL P ops Q rest a' cs w') : wpL P ops Q (o :: rest) a cs w := by
  have hw : Region.wanted o (yielded ops a.tmps) = true := by unfold Region.wanted; rw [hg]
  unfold wpL
  rw [if_pos hw, hr]
  exact h _ rfl
theorem wpL_skip (hg : o.guard = none) (hr : (execOp a.eval o).run P w = .ok .skip w') (h : ∀ a', a.put o.dst undef = a' → wpL P ops Q rest a' cs w') : wpL P ops Q (o :: rest) a cs w := by
  have hw : Region.wanted o (yielded ops a.tmps) = true := by unfold Region.wanted; rw [hg]
  unfold wpL
  rw [if_pos hw, hr]
  exact h _ rfl
theorem wpL_rec {v : Value} {cs' : List Frame} (hg : o.guard = none) (hr : (execOp a.eval o).run P w = .ok .recover w) (hc : recoverD cs = some (v, cs')) (h : ∀ a', a.put o.dst v = a' → wpL P ops Q rest a' cs' w) : wpL P ops Q (o :: rest) a cs w := by
  have hw : Region.wanted o (yielded ops a.tmps) = true := by unfold Region.wanted; rw [hg]
  unfold wpL
  rw [if_pos hw, hr]
  simp only [hc]
  exact h _ rfl
theorem wpL_norec (hg : o.guard = none) (hr : (execOp a.eval o).run P w = .ok .recover w) (hc : recoverD cs = none) (h : ∀ a', a.put o.dst .nilIface = a' → wpL P ops Q rest a' cs w) : wpL P ops Q (o :: rest) a cs w := by
  have hw : Region.wanted o (yielded ops a.tmps) = true := by unfold Region.wanted; rw [hg]
  unfold wpL
  rw [if_pos hw, hr]
  simp only [hc]
  exact h _ rfl
end
set_option maxHeartbeats 8000000 in
set_option maxRecDepth 100000 in
theorem catch_idle (po pe : Nat) (w : World) :
    CallsD Try.prog 19 #[.pointer (some ⟨po, 0, none⟩), .pointer (some ⟨pe, 0, none⟩)] .returning w fun e u' w' => e = .returned (.tuple #[]) ∧ u' = .returning ∧ Below w.heap.size w w' := by
  have hu54 := Try.underlying54
  refine callsD_of_wpS Try.func19 rfl fun c₀ cs hu => ?_
  simp only [Try.ntmps19, List.size_toArray, List.length_cons, List.length_nil, Nat.reduceAdd, Nat.reduceSub, Array.replicate_succ, Array.replicate_zero, List.push_toArray, List.append_toArray, List.nil_append, List.cons_append]
  apply wpS_seq
  refine region_list ?_
  refine wpL_norec rfl ?hr ?hc ?_
  case hr => (go_simp; done)
  case hc => simp only [recoverD, hu]
  intro a' ha; simp only [Act.put, List.setIfInBounds_toArray, List.set_cons_zero, List.set_cons_succ] at ha; subst ha
  refine wpL_val rfl (v := .tuple #[.agg #[.int .i64 0], .bool false]) (w' := w) ?hr ?_
  case hr => first | (go_simp; done) | (go_simp; rfl)
  intro a' ha; simp only [Act.put, List.setIfInBounds_toArray, List.set_cons_zero, List.set_cons_succ] at ha; subst ha
  refine wpL_val rfl (v := .tuple #[.agg #[.int .i64 0], .bool false]) (w' := w) ?hr ?_
  case hr => first | (go_simp; done) | (go_simp; rfl)
  intro a' ha; simp only [Act.put, List.setIfInBounds_toArray, List.set_cons_zero, List.set_cons_succ] at ha; subst ha
  refine wpL_val rfl (v := .agg #[.int .i64 0]) (w' := w) ?hr ?_
  case hr => first | (go_simp; done) | (go_simp; rfl)
  intro a' ha; simp only [Act.put, List.setIfInBounds_toArray, List.set_cons_zero, List.set_cons_succ] at ha; subst ha
  refine wpL_val rfl (v := .bool false) (w' := w) ?hr ?_
  case hr => first | (go_simp; done) | (go_simp; rfl)
  intro a' ha; simp only [Act.put, List.setIfInBounds_toArray, List.set_cons_zero, List.set_cons_succ] at ha; subst ha
  refine wpL_val rfl (v := .pointer (some ⟨w.heap.size, 0, none⟩)) (w' := w.alloc (.cells #[.int .i64 0] 54 (0, 0))) ?hr ?_
  case hr => first | (go_simp; done) | (go_simp; rfl)
  intro a' ha; simp only [Act.put, List.setIfInBounds_toArray, List.set_cons_zero, List.set_cons_succ] at ha; subst ha
  have hz := blk1 (blk_new w (.cells #[.int .i64 0] 54 (0, 0)))
  refine wpL_skip rfl (w' := ((w.alloc (.cells #[.int .i64 0] 54 (0, 0))).setCell ⟨w.heap.size, 0, none⟩ (.int .i64 0))) ?hr ?_
  case hr => first | (go_simp; done) | (go_simp; rfl)
  intro a' ha; simp only [Act.put] at ha; subst ha
  refine wpL_val rfl (v := .bool false) (w' := ((w.alloc (.cells #[.int .i64 0] 54 (0, 0))).setCell ⟨w.heap.size, 0, none⟩ (.int .i64 0))) ?hr ?_
  case hr => first | (go_simp; done) | (go_simp; rfl)
  intro a' ha; simp only [Act.put, List.setIfInBounds_toArray, List.set_cons_zero, List.set_cons_succ] at ha; subst ha
  show Code.wpS _ _ _ _ _ _
  apply wpS_seq
  refine region_list ?_
  refine wpL_val rfl (v := .bool false) (w' := ((w.alloc (.cells #[.int .i64 0] 54 (0, 0))).setCell ⟨w.heap.size, 0, none⟩ (.int .i64 0))) ?hr ?_
  case hr => first | (go_simp; done) | (go_simp; rfl)
  intro a' ha; simp only [Act.put, List.setIfInBounds_toArray, List.set_cons_zero, List.set_cons_succ] at ha; subst ha
  show Code.wpS _ _ _ _ _ _
  refine wpS_cond (t := false) rfl ?_
  simp only [Bool.false_eq_true, if_false]
  refine wpS_of_wp (wp_skip ?_)
  exact ⟨rfl, .returning, by cases c₀; simp_all, _, results_none rfl _ _ _, rfl, rfl, below_set (below_alloc (Below.refl _ _) _) (Nat.le_refl _)⟩
set_option maxHeartbeats 8000000 in
set_option maxRecDepth 100000 in
theorem catch_stop (po pe : Nat) (k : Int) (vo ve : Value) (w : World) (ho : w.heap[po]? = some (.cells #[vo] 22 (0, 0))) (he : w.heap[pe]? = some (.cells #[ve] 26 (0, 0))) :
    CallsD Try.prog 19 #[.pointer (some ⟨po, 0, none⟩), .pointer (some ⟨pe, 0, none⟩)] (.panicking [{ v := .iface 54 (.agg #[.int .i64 k]), recovered := false }]) w fun e u' w' => e = .returned (.tuple #[]) ∧ u' = .panicking [{ v := .iface 54 (.agg #[.int .i64 k]), recovered := true }] ∧ w'.heap[po]? = some (.cells #[.slice none 0 0] 22 (0, 0)) ∧ w'.heap[pe]? = some (.cells #[.int .i64 k] 26 (0, 0)) ∧ (∀ (W0 : World), Below W0.heap.size W0 w → W0.heap.size ≤ po → W0.heap.size ≤ pe → Below W0.heap.size W0 w') := by
  have hu54 := Try.underlying54
  refine callsD_of_wpS Try.func19 rfl fun c₀ cs hu => ?_
  simp only [Try.ntmps19, List.size_toArray, List.length_cons, List.length_nil, Nat.reduceAdd, Nat.reduceSub, Array.replicate_succ, Array.replicate_zero, List.push_toArray, List.append_toArray, List.nil_append, List.cons_append]
  apply wpS_seq
  refine region_list ?_
  refine wpL_rec rfl (v := .iface 54 (.agg #[.int .i64 k])) (cs' := { c₀ with mode := .panicking [{ v := .iface 54 (.agg #[.int .i64 k]), recovered := true }] } :: cs) ?hr ?hc ?_
  case hr => (go_simp; done)
  case hc => simp only [recoverD, hu]
  intro a' ha; simp only [Act.put, List.setIfInBounds_toArray, List.set_cons_zero, List.set_cons_succ] at ha; subst ha
  refine wpL_val rfl (v := .tuple #[.agg #[.int .i64 k], .bool true]) (w' := w) ?hr ?_
  case hr => first | (go_simp; done) | (go_simp; rfl)
  intro a' ha; simp only [Act.put, List.setIfInBounds_toArray, List.set_cons_zero, List.set_cons_succ] at ha; subst ha
  refine wpL_val rfl (v := .tuple #[.agg #[.int .i64 k], .bool true]) (w' := w) ?hr ?_
  case hr => first | (go_simp; done) | (go_simp; rfl)
  intro a' ha; simp only [Act.put, List.setIfInBounds_toArray, List.set_cons_zero, List.set_cons_succ] at ha; subst ha
  refine wpL_val rfl (v := .agg #[.int .i64 k]) (w' := w) ?hr ?_
  case hr => first | (go_simp; done) | (go_simp; rfl)
  intro a' ha; simp only [Act.put, List.setIfInBounds_toArray, List.set_cons_zero, List.set_cons_succ] at ha; subst ha
  refine wpL_val rfl (v := .bool true) (w' := w) ?hr ?_
  case hr => first | (go_simp; done) | (go_simp; rfl)
  intro a' ha; simp only [Act.put, List.setIfInBounds_toArray, List.set_cons_zero, List.set_cons_succ] at ha; subst ha
  refine wpL_val rfl (v := .pointer (some ⟨w.heap.size, 0, none⟩)) (w' := w.alloc (.cells #[.int .i64 0] 54 (0, 0))) ?hr ?_
  case hr => first | (go_simp; done) | (go_simp; rfl)
  intro a' ha; simp only [Act.put, List.setIfInBounds_toArray, List.set_cons_zero, List.set_cons_succ] at ha; subst ha
  have hz := blk1 (blk_new w (.cells #[.int .i64 0] 54 (0, 0)))
  refine wpL_skip rfl (w' := ((w.alloc (.cells #[.int .i64 0] 54 (0, 0))).setCell ⟨w.heap.size, 0, none⟩ (.int .i64 k))) ?hr ?_
  case hr => first | (go_simp; done) | (go_simp; rfl)
  intro a' ha; simp only [Act.put] at ha; subst ha
  refine wpL_val rfl (v := .bool true) (w' := ((w.alloc (.cells #[.int .i64 0] 54 (0, 0))).setCell ⟨w.heap.size, 0, none⟩ (.int .i64 k))) ?hr ?_
  case hr => first | (go_simp; done) | (go_simp; rfl)
  intro a' ha; simp only [Act.put, List.setIfInBounds_toArray, List.set_cons_zero, List.set_cons_succ] at ha; subst ha
  show Code.wpS _ _ _ _ _ _
  apply wpS_seq
  refine region_list ?_
  refine wpL_val rfl (v := .bool true) (w' := ((w.alloc (.cells #[.int .i64 0] 54 (0, 0))).setCell ⟨w.heap.size, 0, none⟩ (.int .i64 k))) ?hr ?_
  case hr => first | (go_simp; done) | (go_simp; rfl)
  intro a' ha; simp only [Act.put, List.setIfInBounds_toArray, List.set_cons_zero, List.set_cons_succ] at ha; subst ha
  show Code.wpS _ _ _ _ _ _
  refine wpS_cond (t := true) rfl ?_
  simp only [if_true]
  refine wpS_of_wp ?_
  have BX := blk_put (blk_new w (.cells #[.int .i64 0] 54 (0, 0))) 0 (.int .i64 k) rfl
  have HB : Below w.heap.size w ((w.alloc (.cells #[.int .i64 0] 54 (0, 0))).setCell ⟨w.heap.size, 0, none⟩ (.int .i64 k)) := below_set (below_alloc (Below.refl _ _) _) (Nat.le_refl _)
  have BO := (HB.block po (blk_lt ho)).trans ho
  have BE := (HB.block pe (blk_lt he)).trans he
  have hne : w.heap.size ≠ po := Nat.ne_of_gt (blk_lt ho)
  generalize ((w.alloc (.cells #[.int .i64 0] 54 (0, 0))).setCell ⟨w.heap.size, 0, none⟩ (.int .i64 k)) = w1 at BX HB BO BE ⊢
  clear hz
  have bx := blk1 BX
  have bo := blk1 BO
  have be := blk1 BE
  have hpe : po ≠ pe := fun e => by rw [e, he] at ho; cases ho
  have hep : pe ≠ po := Ne.symm hpe
  go_region
  refine ⟨rfl, _, rfl, _, results_none rfl _ _ _, rfl, rfl, ?_, ?_, ?_⟩
  · skip
    exact pK (blk_far (p := ⟨pe, 0, none⟩) (blk_put BO 0 _ rfl) hpe _)
  · exact pK (blk_put (blk_far (p := ⟨po, 0, none⟩) BE hep _) 0 _ rfl)
  · intro W0 hb h1 h2
    exact pB (below_set (below_set (below_step hb HB) h1) h2)
end Pk
end Go.Proofs.Ytkohdojiockejaa.Q
