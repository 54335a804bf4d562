-- By wip/gprint.py (this session's), out of the kit's print.py.
import Derived.Test.YthoilhonhjemmaaDoorQx0
import Derived.Test.YthoilhonhjemmaaDoorQxfPrimArity
import Derived.Test.YthoilhonhjemmaaDoorQxfPrimClass
import Derived.Test.YthoilhonhjemmaaDoorQxfPrimFind
import Derived.Test.YthoilhonhjemmaaDoorQxfPrimNeeds
import Derived.Test.YthoilhonhjemmaaDoorQxfPrimWord
namespace Go.Proofs.YthoilhonhjemmaaDoor.Q
open Go.RowKit Go.Proofs.YthoilhonhjemmaaDoorW.PrintWords Go.Proofs.YthoilhonhjemmaaDoorW.PrintLast Go.Proofs.YthoilhonhjemmaaDoorW.PrintMore
attribute [local go_sem] max2_int min2_int max_two min_two max_three min_three max_four min_four   -- for this text's walks alone
set_option linter.unusedVariables false
set_option linter.unusedSimpArgs false

/-! ### gradinelaw30_same: function 9 (ours) -/
theorem find.calls' (s : ByteArray) (r : Int) (w : World) (hg : Glob w) (h : fnd 40 1 s = r) : Calls Tryd.prog 5 #[.string s] w fun e w' => e = .returned (.int .i64 r) ∧ Below w.heap.size w w' := h ▸ find.calls s w hg
theorem word.calls' (op : Int) (s : ByteArray) (w : World) (hg : Glob w) (h : gword op = s) : Calls Tryd.prog 7 #[.int .i64 op] w fun e w' => e = .returned (.string s) ∧ Below w.heap.size w w' := h ▸ word.calls op w hg
theorem needs.calls' (w : World) : Calls Tryd.prog 19 #[.int .i64 20, .agg #[.int .i64 0, .int .i64 0, .int .i64 0, .int .i64 0, .int .i64 0, .int .i64 0, .int .i64 0, .int .i64 0, .bool false, .slice none 0 0], .int .i64 1] w fun e w' => e = .returned (.bool true) ∧ Below w.heap.size w w' :=
  prim_Needs.calls 9 20 0 0 0 0 0 0 0 0 false none 0 [] 1 true w (Kd.C_nil _ _) (Nat.le_refl _) (by decide +kernel)
set_option maxHeartbeats 8000000 in
set_option maxRecDepth 100000 in
theorem same.calls (w : World) (hg : Glob w) : Calls Tryd.prog 9 #[] w fun e w' => e = .returned (.bool true) ∧ Below w.heap.size w w' := by
 have HG := aM hg
 clear hg
 have HB := aM (Below.refl w.heap.size w)
 have F1 := aM (show fnd 40 1 ⟨#[109, 97, 116, 109, 117, 108]⟩ = 32 by decide +kernel)
 have F2 := aM (show gword 32 = ⟨#[109, 97, 116, 109, 117, 108]⟩ by decide +kernel)
 have F3 := aM (show prim_Arity.f 9 24 = some 3 by decide +kernel)
 have F4 := aM (show prim_Class.f 33 = some 4 by decide +kernel)
 go_enter Tryd.func9, Tryd.ntmps9
 go_wp2_with (first | ((with_reducible refine gate_callee (f := 5) rfl ?_); refine goesL_ (some 1) rfl rfl Tryd.func5 (by kernel_rfl) rfl #[.string ⟨#[109, 97, 116, 109, 117, 108]⟩] rfl pA ?_; (with_reducible refine (find.calls' ⟨#[109, 97, 116, 109, 117, 108]⟩ 32 _ HG.out F1.out).mono ?_); rintro e w5 ⟨rfl, hb⟩; refine ⟨_, rfl, ?_⟩; replace HG := aM (Glob.below HG.out hb); replace HB := bS (qB HB) hb; clear hb) | (go_at_call 7; (with_reducible refine (word.calls' 32 ⟨#[109, 97, 116, 109, 117, 108]⟩ _ HG.out F2.out).mono ?_); rintro e w6 ⟨rfl, hb⟩; replace HG := aM (Glob.below HG.out hb); replace HB := bS (qB HB) hb; clear hb) | (go_at_call 12; (with_reducible refine (prim_Arity.calls 9 24 3 _ F3.out).mono ?_); rintro e w7 ⟨rfl, hd⟩; have hb := prim_drawn hd; clear hd; replace HG := aM (Glob.below HG.out hb); replace HB := bS (qB HB) hb; clear hb) | (go_at_call 19; (with_reducible refine (needs.calls' _).mono ?_); rintro e w8 ⟨rfl, hb⟩; replace HG := aM (Glob.below HG.out hb); replace HB := bS (qB HB) hb; clear hb) | (go_at_call 14; (with_reducible refine (prim_Class.calls 33 4 _ F4.out).mono ?_); rintro e w9 ⟨rfl, hd⟩; have hb := prim_drawn hd; clear hd; replace HG := aM (Glob.below HG.out hb); replace HB := bS (qB HB) hb; clear hb))
 go_ret
 exact ⟨pE, HB.out⟩
def gradinelaw30_same.f : Option Bool := some true
theorem gradinelaw30_same.calls (r : Bool) (w : World) (hg_ : Glob w) (h : gradinelaw30_same.f = some r) : Calls Tryd.prog 9 #[] w fun e w' => e = .returned (.bool r) ∧ Below w.heap.size w w' := by
 obtain rfl := Option.some.inj h
 exact same.calls w hg_

end Go.Proofs.YthoilhonhjemmaaDoor.Q
