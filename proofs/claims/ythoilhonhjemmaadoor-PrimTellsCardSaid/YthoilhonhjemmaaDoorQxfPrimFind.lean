-- By wip/gprint.py (this session's), out of the kit's print.py.
import Derived.Test.YthoilhonhjemmaaDoorQx0
import Derived.Test.YthoilhonhjemmaaDoorQxfPrimWord
namespace Go.Proofs.YthoilhonhjemmaaDoor.Q
open Go.RowKit Go.Proofs.YthoilhonhjemmaaDoorW.PrintWords Go.Proofs.YthoilhonhjemmaaDoorW.PrintLast Go.Proofs.YthoilhonhjemmaaDoorW.PrintMore
attribute [local go_sem] max2_int min2_int max_two min_two max_three min_three max_four min_four   -- for this text's walks alone
set_option linter.unusedVariables false
set_option linter.unusedSimpArgs false

/-! ### prim_Find: function 5 (ours) -/
/-- The primitive of a word among those from i on. -/
def fnd : Nat → Nat → ByteArray → Int
  | 0, _, _ => 0
  | q + 1, i, s => if wd i = s then (i : Int) else fnd q (i + 1) s
set_option maxHeartbeats 8000000 in
set_option maxRecDepth 100000 in
theorem find.calls (s : ByteArray) (w : World) (hg : Glob w) : Calls Tryd.prog 5 #[.string s] w fun e w' => e = .returned (.int .i64 (fnd 40 1 s)) ∧ Below w.heap.size w w' := by
 have HG := aM hg
 clear hg
 obtain ⟨r, hr⟩ : ∃ r, fnd 40 1 s = r := ⟨_, rfl⟩
 have A0 := aM hr
 rw [hr]
 clear hr
 go_enter Tryd.func5, Tryd.ntmps5
 go_wp2
 go_loopg [3] 40 (fun kq v3 w' => ∃ (i : Nat), v3 = .int .i64 (i : Int) ∧ Aside0 (i + kq = 41) ∧ Aside0 (fnd kq i s = r) ∧ Aside0 (w' = w))
 case atStart => exact ⟨1, rfl, ⟨by omega⟩, A0, ⟨rfl⟩⟩
 case round =>
  obtain ⟨i, rfl, HK, HA, HW⟩ := hrel
  obtain rfl := HW.out
  clear HW A0
  cases gk with
  | zero =>
   have d1 : decide ((i : Int) ≤ 40) = false := decide_eq_false (by have := HK.out; omega)
   have d2 : decide (i ≤ 40) = false := decide_eq_false (by have := HK.out; omega)
   have HA1 := HA.out
   rw [fnd] at HA1
   subst HA1
   clear HA
   go_wp2
   go_ret
   exact ⟨pE, Below.refl _ _⟩
  | succ kq =>
   have d1 : decide ((i : Int) ≤ 40) = true := decide_eq_true (by have := HK.out; omega)
   have d2 : decide (i ≤ 40) = true := decide_eq_true (by have := HK.out; omega)
   have q0 : (0 ≤ (i : Int)) = True := eq_true (by omega)
   have q1 : ((i : Int) < 41) = True := eq_true (by have := HK.out; omega)
   have hx := HG.out i (by have := HK.out; omega)
   have HA1 := HA.out
   rw [fnd] at HA1
   clear HA
   by_cases e : wd i = s
   · rw [if_pos e] at HA1
     subst HA1
     rw [e] at hx
     have b1 : (s.toList == s.toList) = true := beq_self_eq_true _
     clear e
     go_wp2
     go_ret
     exact ⟨pE, Below.refl _ _⟩
   · rw [if_neg e] at HA1
     have H1 := aM HA1
     obtain ⟨b1, b2⟩ := bytes_ne e
     clear HA1
     go_wp2
     go_roundg kq
     case measure => omega
     case rel => exact ⟨i + 1, by first | rfl | (rw [w64o (by have := HK.out; omega) (by have := HK.out; omega)]; rfl), ⟨by have := HK.out; omega⟩, H1, ⟨rfl⟩⟩
def prim_Find.f (a0 : ByteArray) : Option Int := some (fnd 40 1 a0)
theorem prim_Find.calls (a0 : ByteArray) (r : Int) (w : World) (hg_ : Glob w) (h : prim_Find.f a0 = some r) : Calls Tryd.prog 5 #[.string a0] w fun e w' => e = .returned (.int .i64 r) ∧ Below w.heap.size w w' := by
 obtain rfl := Option.some.inj h
 exact find.calls a0 w hg_

end Go.Proofs.YthoilhonhjemmaaDoor.Q
