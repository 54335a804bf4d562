-- By wip/gprint.py (this session's), out of the kit's print.py.
import Derived.Test.YthoilhonhjemmaaDoorQx0
import Derived.Test.YthoilhonhjemmaaDoorQxfPrimIs
import Derived.Laws.Closers25b
import Derived.WideShapes
namespace Go.Proofs.YthoilhonhjemmaaDoor.Q
open Go.RowKit Go.Proofs.YthoilhonhjemmaaDoorW.PrintWords Go.Proofs.YthoilhonhjemmaaDoorW.PrintLast Go.Proofs.YthoilhonhjemmaaDoorW.PrintMore
attribute [local go_sem] max2_int min2_int max_two min_two max_three min_three max_four min_four   -- for this text's walks alone
set_option linter.unusedVariables false
set_option linter.unusedSimpArgs false

/-! ### prim_Word: function 7 (ours) -/
def WD : List ByteArray := [⟨#[]⟩, ⟨#[110, 101, 103]⟩, ⟨#[114, 101, 99, 105, 112]⟩, ⟨#[115, 113, 117, 97, 114, 101]⟩, ⟨#[97, 98, 115]⟩, ⟨#[115, 105, 103, 110]⟩, ⟨#[114, 101, 108, 117]⟩, ⟨#[101, 120, 112]⟩, ⟨#[108, 111, 103]⟩, ⟨#[115, 113, 114, 116]⟩, ⟨#[115, 105, 103, 109, 111, 105, 100]⟩, ⟨#[116, 97, 110, 104]⟩, ⟨#[112, 111, 119, 101, 114]⟩, ⟨#[115, 99, 97, 108, 101]⟩, ⟨#[115, 104, 105, 102, 116]⟩, ⟨#[99, 108, 97, 109, 112]⟩, ⟨#[108, 101, 97, 107, 121]⟩, ⟨#[97, 100, 100]⟩, ⟨#[115, 117, 98]⟩, ⟨#[109, 117, 108]⟩, ⟨#[100, 105, 118]⟩, ⟨#[108, 97, 114, 103, 101, 114]⟩, ⟨#[108, 101, 115, 115, 101, 114]⟩, ⟨#[108, 101, 115, 115]⟩, ⟨#[119, 104, 101, 114, 101]⟩, ⟨#[109, 117, 108, 97, 100, 100]⟩, ⟨#[109, 105, 120]⟩, ⟨#[115, 117, 109]⟩, ⟨#[109, 101, 97, 110]⟩, ⟨#[109, 97, 120, 111, 102]⟩, ⟨#[109, 105, 110, 111, 102]⟩, ⟨#[97, 114, 103, 109, 97, 120]⟩, ⟨#[109, 97, 116, 109, 117, 108]⟩, ⟨#[114, 101, 115, 104, 97, 112, 101]⟩, ⟨#[112, 101, 114, 109, 117, 116, 101]⟩, ⟨#[115, 108, 105, 99, 101]⟩, ⟨#[101, 120, 112, 97, 110, 100]⟩, ⟨#[102, 108, 105, 112]⟩, ⟨#[116, 97, 107, 101]⟩, ⟨#[112, 117, 116]⟩, ⟨#[106, 111, 105, 110]⟩]
def wd (i : Nat) : ByteArray := WD.getD i ByteArray.empty
/-- The table as it was laid. -/
def Glob (w : World) : Prop := ∀ i : Nat, i < 41 → w.cell? ⟨0, i, none⟩ = some (.string (wd i))
theorem Glob.below {w w' : World} (h : Glob w) (hb : Below w.heap.size w w') : Glob w' := fun i hi => (hb.cell (World.block_lt_of_cell? w _ (h i hi))).trans (h i hi)
theorem prim_drawn {w w' : World} (h : Drawn0 w w') : Below w.heap.size w w' := by
  obtain ⟨nd, rfl⟩ := h
  exact pw_below_drewN (Below.refl _ _) _
theorem bytes_eq {a b : ByteArray} (h : a.toList = b.toList) : a = b := by
  rw [ByteArray.toList_eq, ByteArray.toList_eq] at h
  exact Go.WideShapes.bytes_inj h
theorem bytes_ne {a b : ByteArray} (h : ¬ a = b) : (a.toList == b.toList) = false ∧ (a.toList != b.toList) = true := ⟨beq_eq_false_iff_ne.mpr (fun e => h (bytes_eq e)), bne_iff_ne.mpr (fun e => h (bytes_eq e))⟩
def gword (op : Int) : ByteArray := if 1 ≤ op ∧ op ≤ 40 then wd op.toNat else ⟨#[]⟩
def prim_Word.f (a0 : Int) : Option ByteArray := some (gword a0)
set_option maxHeartbeats 8000000 in
set_option maxRecDepth 100000 in
theorem word.calls (op : Int) (w : World) (hg : Glob w) : Calls Tryd.prog 7 #[.int .i64 op] w fun e w' => e = .returned (.string (gword op)) ∧ Below w.heap.size w w' := by
 have HG := aM hg
 clear hg
 have HB := aM (Below.refl w.heap.size w)
 by_cases h : 1 ≤ op ∧ op ≤ 40
 · have A1_ := aM (show prim_Is.f op = some true by rw [prim_Is.f, if_pos (show op ≥ 1 from h.1), decide_eq_true h.2])
   have e : gword op = wd op.toNat := if_pos h
   have E := aM e
   have q0 : (0 ≤ op) = True := eq_true (by omega)
   have q1 : (op < 41) = True := eq_true (by omega)
   have HO := aM h
   clear h e
   go_enter Tryd.func7, Tryd.ntmps7
   go_wp2_with (first | ((with_reducible refine gate_callee (f := 8) rfl ?_); refine goesL_ (some 4) rfl rfl Tryd.func8 (by kernel_rfl) rfl #[.int .i64 op] rfl pA ?_; (with_reducible refine (prim_Is.calls op true _ A1_.out).mono ?_); rintro e w5 ⟨rfl, hd⟩; refine ⟨_, rfl, ?_⟩; have hb := prim_drawn hd; clear hd; replace HG := aM (Glob.below HG.out hb); replace HB := bS (qB HB) hb; clear hb; have hx := HG.out op.toNat (by have := HO.out; omega)))
   go_ret
   exact ⟨by rw [E.out]; rfl, HB.out⟩
 · have e : gword op = ⟨#[]⟩ := if_neg h
   have E := aM e
   have A1_ := aM (show prim_Is.f op = some false by
     rw [prim_Is.f]
     split
     · rw [decide_eq_false (by omega)]
     · rfl)
   clear h e
   go_enter Tryd.func7, Tryd.ntmps7
   go_wp2_with (first | ((with_reducible refine gate_callee (f := 8) rfl ?_); refine goesL_ (some 4) rfl rfl Tryd.func8 (by kernel_rfl) rfl #[.int .i64 op] rfl pA ?_; (with_reducible refine (prim_Is.calls op false _ A1_.out).mono ?_); rintro e w5 ⟨rfl, hd⟩; refine ⟨_, rfl, ?_⟩; have hb := prim_drawn hd; clear hd; replace HG := aM (Glob.below HG.out hb); replace HB := bS (qB HB) hb; clear hb))
   go_ret
   exact ⟨by rw [E.out]; rfl, HB.out⟩
theorem prim_Word.calls (a0 : Int) (r : ByteArray) (w : World) (hg_ : Glob w) (h : prim_Word.f a0 = some r) : Calls Tryd.prog 7 #[.int .i64 a0] w fun e w' => e = .returned (.string r) ∧ Below w.heap.size w w' := by
 obtain rfl := Option.some.inj h
 exact word.calls a0 w hg_

end Go.Proofs.YthoilhonhjemmaaDoor.Q
