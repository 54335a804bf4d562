/- What must hold anyway of packing. -/
import Derived.Test.YtkohdojiockejaaQxfPlainBytes
import Derived.Test.YtkohdojiockejaaQxfLaw45Many
import Derived.Test.YtkohdojiockejaaQxfRef45Encode
import Derived.Test.YtkohdojiockejaaPackBits
import Derived.Test.YtkohdojiockejaaPackW0
import Derived.Test.YtkohdojiockejaaPackW1
import Derived.Test.YtkohdojiockejaaPackW2
import Derived.Test.YtkohdojiockejaaPackW3
import Derived.Test.YtkohdojiockejaaPackR0
import Derived.Test.YtkohdojiockejaaPackR1
import Derived.Test.YtkohdojiockejaaPackR2
import Derived.Test.YtkohdojiockejaaPackR3
namespace Go.Proofs.Ytkohdojiockejaa.Q
open Go.RowKit Go.Proofs.YtkohdojiockejaaW.PrintWords Go.Proofs.YtkohdojiockejaaW.PrintLast Go.Proofs.YtkohdojiockejaaW.PrintMore
attribute [local go_sem] max2_int min2_int max_two min_two max_three min_three max_four min_four
set_option linter.unusedVariables false
set_option linter.unusedSimpArgs false
namespace Pk
set_option maxHeartbeats 8000000 in
set_option maxRecDepth 100000 in
theorem same.calls (w : World) : Calls Try.prog 7 #[] w fun e w' => e = .returned (.bool true) ∧ Below w.heap.size w w' := by
 have r0 : rdN [] = none := by decide
 have r1 : rdN [0] = some (0, []) := by decide
 have o1 : ∀ x ∈ ([0] : List Int), 0 ≤ x ∧ x < 256 := fun x hx => by simp at hx; omega
 have D0 : ∀ w : World, Calls Try.prog 11 #[.slice none 0 0] w fun e w' => e = .returned (.tuple #[.slice none 0 0, .int .i64 2]) ∧ Below w.heap.size w w' := fun w => Decode.bad none 0 [] w (Kd.C_nil _ _) (Nat.le_refl _) (fun x hx => by cases hx) (by simp) r0
 have D1 : ∀ (A : Option Addr) (c : Nat) (b : Nat) (w : World), Kd.R (Kd.int .u8) 5 w b (fun _ => True) (.slice A 1 c) [0] → Calls Try.prog 11 #[.slice A 1 c] w fun e w' => e = .returned (.tuple #[.slice none 0 0, .int .i64 0]) ∧ Below w.heap.size w w' := fun A c b w h => Decode.empty A c [0] [] w (Kd.R_reads' h).2.2 (Kd.R_reads' h).2.1 o1 (by simp) r1
 have HE : encC [] = 0 ∧ encB [] = [0] := by decide
 have HB := aM (Below.refl w.heap.size w)
 go_enter Try.func7, Try.ntmps7
 go_wp2_with (first
  | (go_at_call 8; refine (Encode.calls none 0 [] w (Kd.C_nil _ _) (fun x hx => by cases hx) (fun x hx => by cases hx) (by simp)).mono ?_; rw [HE.1, HE.2]; rintro e w1 ⟨v, rfl, h1, h2⟩; have HV := aM h1; replace HB := aM h2; clear h1 h2; obtain ⟨Av, cv, ev⟩ := Kd.R_slice HV.out; subst ev)
  | ((with_reducible refine gate_dst (N := 16) rfl ?_); refine Kd.R_lit (Kd.int .u8) _ 5 ?hg (N := 16) ?hd (xs := ([0] : List Int)) (inner := [.int .u8 0]) (ok := fun _ => True) (okp := fun _ => True) ?hr ?hp (fun _ hk => hk) trivial (Below.refl _ _) (Nat.le_refl _) (by simp) ?_; (case hd => rfl); (case hg => rfl); (case hr => first | (go_simp; done) | (go_simp; rfl)); (case hp => exact (Reps.one (show Kd.M (Kd.int .u8) _ _ _ 0 [.int .u8 0] from rfl) (Reps.none _ _))); intro v3 w3 ho4 hb hg_ hnew_; clear hg_ hnew_; have HX := aM (Kd.R_lower ho4 (below_size (qB HB))); replace HV := bR HV hb; replace HB := bS (qB HB) hb; clear hb ho4; obtain ⟨Ax, cx, ex⟩ := Kd.R_slice HX.out; subst ex)
  | (go_at_call 11; (with_reducible refine (D0 _).mono ?_); rintro e w2 ⟨rfl, hb⟩; replace HV := bR HV hb; replace HB := bS (qB HB) hb; clear hb)
  | (go_at_call 11; (with_reducible refine (D1 Ax cx _ _ HX.out).mono ?_); rintro e w2 ⟨rfl, hb⟩; replace HV := bR HV hb; replace HB := bS (qB HB) hb; clear hb; obtain ⟨ad, rfl, hs, _, hx⟩ := By_of_R HV.out 0 0 rfl; obtain ⟨g, rfl⟩ := Kd.R_head HV.out; (try rw [Nat.add_zero] at hx)))
 go_ret
 exact ⟨rfl, HB.out⟩
end Pk
end Go.Proofs.Ytkohdojiockejaa.Q
