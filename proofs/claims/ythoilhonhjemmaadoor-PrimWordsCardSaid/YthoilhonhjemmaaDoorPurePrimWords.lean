/- The law PrimWords: Find is the inverse of Word and rejects any other string; what the listed table holds is a condition that the card ties to the program's text. -/
import Derived.Test.YthoilhonhjemmaaDoorQx0
import Derived.Test.YthoilhonhjemmaaDoorQxfPrimArity
import Derived.Test.YthoilhonhjemmaaDoorQxfPrimClass
import Derived.Test.YthoilhonhjemmaaDoorQxfPrimIs
import Derived.Test.YthoilhonhjemmaaDoorQxfPrimNeeds
import Derived.Test.YthoilhonhjemmaaDoorQxfRef30Find
import Derived.Test.YthoilhonhjemmaaDoorQxfRef30Word
import Derived.Test.YthoilhonhjemmaaDoorRows
import Derived.OpenShut
import Derived.LaidMore
import Derived.FnData
import Derived.ChangeArms
import Derived.WideShapes
import Derived.Laws.Closers25b
namespace Go.Proofs.YthoilhonhjemmaaDoor.Q
open Go.RowKit Go.Proofs.YthoilhonhjemmaaDoorW.PrintWords Go.Proofs.YthoilhonhjemmaaDoorW.PrintLast Go.Proofs.YthoilhonhjemmaaDoorW.PrintMore
attribute [local go_sem] max2_int min2_int max_two min_two max_three min_three max_four min_four
set_option linter.unusedVariables false
set_option linter.unusedSimpArgs false

def WD : List ByteArray := [⟨#[]⟩, ⟨#[110, 101, 103]⟩, ⟨#[114, 101, 99, 105, 112]⟩, ⟨#[115, 113, 117, 97, 114, 101]⟩, ⟨#[97, 98, 115]⟩, ⟨#[115, 105, 103, 110]⟩, ⟨#[114, 101, 108, 117]⟩, ⟨#[101, 120, 112]⟩, ⟨#[108, 111, 103]⟩, ⟨#[115, 113, 114, 116]⟩, ⟨#[115, 105, 103, 109, 111, 105, 100]⟩, ⟨#[116, 97, 110, 104]⟩, ⟨#[112, 111, 119, 101, 114]⟩, ⟨#[115, 99, 97, 108, 101]⟩, ⟨#[115, 104, 105, 102, 116]⟩, ⟨#[99, 108, 97, 109, 112]⟩, ⟨#[108, 101, 97, 107, 121]⟩, ⟨#[97, 100, 100]⟩, ⟨#[115, 117, 98]⟩, ⟨#[109, 117, 108]⟩, ⟨#[100, 105, 118]⟩, ⟨#[108, 97, 114, 103, 101, 114]⟩, ⟨#[108, 101, 115, 115, 101, 114]⟩, ⟨#[108, 101, 115, 115]⟩, ⟨#[119, 104, 101, 114, 101]⟩, ⟨#[109, 117, 108, 97, 100, 100]⟩, ⟨#[109, 105, 120]⟩, ⟨#[115, 117, 109]⟩, ⟨#[109, 101, 97, 110]⟩, ⟨#[109, 97, 120, 111, 102]⟩, ⟨#[109, 105, 110, 111, 102]⟩, ⟨#[97, 114, 103, 109, 97, 120]⟩, ⟨#[109, 97, 116, 109, 117, 108]⟩, ⟨#[114, 101, 115, 104, 97, 112, 101]⟩, ⟨#[112, 101, 114, 109, 117, 116, 101]⟩, ⟨#[115, 108, 105, 99, 101]⟩, ⟨#[101, 120, 112, 97, 110, 100]⟩, ⟨#[102, 108, 105, 112]⟩, ⟨#[116, 97, 107, 101]⟩, ⟨#[112, 117, 116]⟩, ⟨#[106, 111, 105, 110]⟩]
def wd (i : Nat) : ByteArray := WD.getD i ByteArray.empty
/-- The table as it was laid. -/
def Glob (w : World) : Prop := ∀ i : Nat, i < 41 → w.cell? ⟨0, i, none⟩ = some (.string (wd i))
theorem Glob.below {w w' : World} (h : Glob w) (hb : Below w.heap.size w w') : Glob w' := fun i hi => (hb.cell (World.block_lt_of_cell? w _ (h i hi))).trans (h i hi)
theorem prim_drawn {w w' : World} (h : Drawn0 w w') : Below w.heap.size w w' := by
  obtain ⟨nd, rfl⟩ := h
  exact pw_below_drewN (Below.refl _ _) _
theorem bytes_eq {a b : ByteArray} (h : a.toList = b.toList) : a = b := by
  rw [ByteArray.toList_eq, ByteArray.toList_eq] at h
  exact Go.WideShapes.bytes_inj h
theorem bytes_ne {a b : ByteArray} (h : ¬ a = b) : (a.toList == b.toList) = false ∧ (a.toList != b.toList) = true := ⟨beq_eq_false_iff_ne.mpr (fun e => h (bytes_eq e)), bne_iff_ne.mpr (fun e => h (bytes_eq e))⟩
def gword (op : Int) : ByteArray := if 1 ≤ op ∧ op ≤ 40 then wd op.toNat else ⟨#[]⟩
/-- The primitive of a word among those from i on. -/
def fnd : Nat → Nat → ByteArray → Int
  | 0, _, _ => 0
  | q + 1, i, s => if wd i = s then (i : Int) else fnd q (i + 1) s
set_option maxHeartbeats 8000000 in
set_option maxRecDepth 100000 in
theorem word.calls (op : Int) (w : World) (hg : Glob w) : Calls Tryd.prog 7 #[.int .i64 op] w fun e w' => e = .returned (.string (gword op)) ∧ Below w.heap.size w w' := by
 have HG := aM hg
 clear hg
 have HB := aM (Below.refl w.heap.size w)
 by_cases h : 1 ≤ op ∧ op ≤ 40
 · have A1_ := aM (show prim_Is.f op = some true by rw [prim_Is.f, if_pos (show op ≥ 1 from h.1), decide_eq_true h.2])
   have e : gword op = wd op.toNat := if_pos h
   have E := aM e
   have q0 : (0 ≤ op) = True := eq_true (by omega)
   have q1 : (op < 41) = True := eq_true (by omega)
   have HO := aM h
   clear h e
   go_enter Tryd.func7, Tryd.ntmps7
   go_wp2_with (first | ((with_reducible refine gate_callee (f := 8) rfl ?_); refine goesL_ (some 4) rfl rfl Tryd.func8 (by kernel_rfl) rfl #[.int .i64 op] rfl pA ?_; (with_reducible refine (prim_Is.calls op true _ A1_.out).mono ?_); rintro e w5 ⟨rfl, hd⟩; refine ⟨_, rfl, ?_⟩; have hb := prim_drawn hd; clear hd; replace HG := aM (Glob.below HG.out hb); replace HB := bS (qB HB) hb; clear hb; have hx := HG.out op.toNat (by have := HO.out; omega)))
   go_ret
   exact ⟨by rw [E.out]; rfl, HB.out⟩
 · have e : gword op = ⟨#[]⟩ := if_neg h
   have E := aM e
   have A1_ := aM (show prim_Is.f op = some false by
     rw [prim_Is.f]
     split
     · rw [decide_eq_false (by omega)]
     · rfl)
   clear h e
   go_enter Tryd.func7, Tryd.ntmps7
   go_wp2_with (first | ((with_reducible refine gate_callee (f := 8) rfl ?_); refine goesL_ (some 4) rfl rfl Tryd.func8 (by kernel_rfl) rfl #[.int .i64 op] rfl pA ?_; (with_reducible refine (prim_Is.calls op false _ A1_.out).mono ?_); rintro e w5 ⟨rfl, hd⟩; refine ⟨_, rfl, ?_⟩; have hb := prim_drawn hd; clear hd; replace HG := aM (Glob.below HG.out hb); replace HB := bS (qB HB) hb; clear hb))
   go_ret
   exact ⟨by rw [E.out]; rfl, HB.out⟩
set_option maxHeartbeats 8000000 in
set_option maxRecDepth 100000 in
theorem find.calls (s : ByteArray) (w : World) (hg : Glob w) : Calls Tryd.prog 5 #[.string s] w fun e w' => e = .returned (.int .i64 (fnd 40 1 s)) ∧ Below w.heap.size w w' := by
 have HG := aM hg
 clear hg
 obtain ⟨r, hr⟩ : ∃ r, fnd 40 1 s = r := ⟨_, rfl⟩
 have A0 := aM hr
 rw [hr]
 clear hr
 go_enter Tryd.func5, Tryd.ntmps5
 go_wp2
 go_loopg [3] 40 (fun kq v3 w' => ∃ (i : Nat), v3 = .int .i64 (i : Int) ∧ Aside0 (i + kq = 41) ∧ Aside0 (fnd kq i s = r) ∧ Aside0 (w' = w))
 case atStart => exact ⟨1, rfl, ⟨by omega⟩, A0, ⟨rfl⟩⟩
 case round =>
  obtain ⟨i, rfl, HK, HA, HW⟩ := hrel
  obtain rfl := HW.out
  clear HW A0
  cases gk with
  | zero =>
   have d1 : decide ((i : Int) ≤ 40) = false := decide_eq_false (by have := HK.out; omega)
   have d2 : decide (i ≤ 40) = false := decide_eq_false (by have := HK.out; omega)
   have HA1 := HA.out
   rw [fnd] at HA1
   subst HA1
   clear HA
   go_wp2
   go_ret
   exact ⟨pE, Below.refl _ _⟩
  | succ kq =>
   have d1 : decide ((i : Int) ≤ 40) = true := decide_eq_true (by have := HK.out; omega)
   have d2 : decide (i ≤ 40) = true := decide_eq_true (by have := HK.out; omega)
   have q0 : (0 ≤ (i : Int)) = True := eq_true (by omega)
   have q1 : ((i : Int) < 41) = True := eq_true (by have := HK.out; omega)
   have hx := HG.out i (by have := HK.out; omega)
   have HA1 := HA.out
   rw [fnd] at HA1
   clear HA
   by_cases e : wd i = s
   · rw [if_pos e] at HA1
     subst HA1
     rw [e] at hx
     have b1 : (s.toList == s.toList) = true := beq_self_eq_true _
     clear e
     go_wp2
     go_ret
     exact ⟨pE, Below.refl _ _⟩
   · rw [if_neg e] at HA1
     have H1 := aM HA1
     obtain ⟨b1, b2⟩ := bytes_ne e
     clear HA1
     go_wp2
     go_roundg kq
     case measure => omega
     case rel => exact ⟨i + 1, by first | rfl | (rw [w64o (by have := HK.out; omega) (by have := HK.out; omega)]; rfl), ⟨by have := HK.out; omega⟩, H1, ⟨rfl⟩⟩
theorem find.calls' (s : ByteArray) (r : Int) (w : World) (hg : Glob w) (h : fnd 40 1 s = r) : Calls Tryd.prog 5 #[.string s] w fun e w' => e = .returned (.int .i64 r) ∧ Below w.heap.size w w' := h ▸ find.calls s w hg
theorem word.calls' (op : Int) (s : ByteArray) (w : World) (hg : Glob w) (h : gword op = s) : Calls Tryd.prog 7 #[.int .i64 op] w fun e w' => e = .returned (.string s) ∧ Below w.heap.size w w' := h ▸ word.calls op w hg
theorem needs.calls' (w : World) : Calls Tryd.prog 19 #[.int .i64 20, .agg #[.int .i64 0, .int .i64 0, .int .i64 0, .int .i64 0, .int .i64 0, .int .i64 0, .int .i64 0, .int .i64 0, .bool false, .slice none 0 0], .int .i64 1] w fun e w' => e = .returned (.bool true) ∧ Below w.heap.size w w' :=
  prim_Needs.calls 9 20 0 0 0 0 0 0 0 0 false none 0 [] 1 true w (Kd.C_nil _ _) (Nat.le_refl _) (by decide +kernel)
set_option maxHeartbeats 8000000 in
set_option maxRecDepth 100000 in
theorem same.calls (w : World) (hg : Glob w) : Calls Tryd.prog 9 #[] w fun e w' => e = .returned (.bool true) ∧ Below w.heap.size w w' := by
 have HG := aM hg
 clear hg
 have HB := aM (Below.refl w.heap.size w)
 have F1 := aM (show fnd 40 1 ⟨#[109, 97, 116, 109, 117, 108]⟩ = 32 by decide +kernel)
 have F2 := aM (show gword 32 = ⟨#[109, 97, 116, 109, 117, 108]⟩ by decide +kernel)
 have F3 := aM (show prim_Arity.f 9 24 = some 3 by decide +kernel)
 have F4 := aM (show prim_Class.f 33 = some 4 by decide +kernel)
 go_enter Tryd.func9, Tryd.ntmps9
 go_wp2_with (first | ((with_reducible refine gate_callee (f := 5) rfl ?_); refine goesL_ (some 1) rfl rfl Tryd.func5 (by kernel_rfl) rfl #[.string ⟨#[109, 97, 116, 109, 117, 108]⟩] rfl pA ?_; (with_reducible refine (find.calls' ⟨#[109, 97, 116, 109, 117, 108]⟩ 32 _ HG.out F1.out).mono ?_); rintro e w5 ⟨rfl, hb⟩; refine ⟨_, rfl, ?_⟩; replace HG := aM (Glob.below HG.out hb); replace HB := bS (qB HB) hb; clear hb) | (go_at_call 7; (with_reducible refine (word.calls' 32 ⟨#[109, 97, 116, 109, 117, 108]⟩ _ HG.out F2.out).mono ?_); rintro e w6 ⟨rfl, hb⟩; replace HG := aM (Glob.below HG.out hb); replace HB := bS (qB HB) hb; clear hb) | (go_at_call 12; (with_reducible refine (prim_Arity.calls 9 24 3 _ F3.out).mono ?_); rintro e w7 ⟨rfl, hd⟩; have hb := prim_drawn hd; clear hd; replace HG := aM (Glob.below HG.out hb); replace HB := bS (qB HB) hb; clear hb) | (go_at_call 19; (with_reducible refine (needs.calls' _).mono ?_); rintro e w8 ⟨rfl, hb⟩; replace HG := aM (Glob.below HG.out hb); replace HB := bS (qB HB) hb; clear hb) | (go_at_call 14; (with_reducible refine (prim_Class.calls 33 4 _ F4.out).mono ?_); rintro e w9 ⟨rfl, hd⟩; have hb := prim_drawn hd; clear hd; replace HG := aM (Glob.below HG.out hb); replace HB := bS (qB HB) hb; clear hb))
 go_ret
 exact ⟨pE, HB.out⟩
/-- The law's walk. -/
theorem prim_Is_of (op : Int) : prim_Is.f op = some (decide (1 ≤ op ∧ op ≤ 40)) := by
  rw [prim_Is.f]
  by_cases h : op ≥ 1
  · rw [if_pos h]; congr 1; exact decide_eq_decide.2 ⟨fun e => ⟨h, e⟩, fun e => e.2⟩
  · rw [if_neg h]; rw [decide_eq_false (fun e => h e.1)]
set_option maxHeartbeats 8000000 in
set_option maxRecDepth 100000 in
theorem words.calls (k : Nat) (op : Int) (s : ByteArray) (n : Int) (w : World) (hg : Glob w) (hf : gradineref30_Find.f k s = some n) (hn : fnd 40 1 s = n) (hpos : 0 < n → gword n = s) (hop : 1 ≤ op ∧ op ≤ 40 → fnd 40 1 (gword op) = op) :
  Calls Tryd.prog 3 #[.int .i64 op, .string s] w fun e w' => e = .returned (.bool true) ∧ Below w.heap.size w w' := by
 have HG := aM hg
 have HF := aM hf
 have HN := aM hn
 have HB := aM (Below.refl w.heap.size w)
 clear hg hf hn
 have HIO := aM (prim_Is_of op)
 by_cases c1 : 0 < n
 · have HW := aM (hpos c1)
   have d1 : decide (0 < n) = true := decide_eq_true c1
   clear hpos c1
   have b1 : (s.toList == s.toList) = true := beq_self_eq_true _
   by_cases c2 : 1 ≤ op ∧ op ≤ 40
   · have HP := aM (hop c2)
     have HI := aM (show prim_Is.f op = some true by rw [HIO.out, decide_eq_true c2])
     clear hop c2 HIO
     go_enter Tryd.func3, Tryd.ntmps3
     go_wp2_with (first | ((with_reducible refine gate_callee (f := 5) rfl ?_); refine goesL_ (some 7) rfl rfl Tryd.func5 (by kernel_rfl) rfl #[.string s] rfl pA ?_; (with_reducible refine (find.calls' s n _ HG.out HN.out).mono ?_); rintro e w5 ⟨rfl, hb⟩; refine ⟨_, rfl, ?_⟩; replace HG := aM (Glob.below HG.out hb); replace HB := bS (qB HB) hb; clear hb) | ((with_reducible refine gate_callee (f := 6) rfl ?_); refine goesL_ (some 10) rfl rfl Tryd.func6 (by kernel_rfl) rfl #[.string s] rfl pA ?_; (with_reducible refine (gradineref30_Find.calls k s n _ HF.out).mono ?_); rintro e w6 ⟨rfl, hb⟩; refine ⟨_, rfl, ?_⟩; replace HG := aM (Glob.below HG.out hb); replace HB := bS (qB HB) hb; clear hb) | (go_at_call 7; (with_reducible refine (word.calls' n s _ HG.out HW.out).mono ?_); rintro e w7 ⟨rfl, hb⟩; replace HG := aM (Glob.below HG.out hb); replace HB := bS (qB HB) hb; clear hb) | ((with_reducible refine gate_callee (f := 8) rfl ?_); refine goesL_ (some 23) rfl rfl Tryd.func8 (by kernel_rfl) rfl #[.int .i64 op] rfl pA ?_; (with_reducible refine (prim_Is.calls op true _ HI.out).mono ?_); rintro e w8 ⟨rfl, hd⟩; refine ⟨_, rfl, ?_⟩; have hb := prim_drawn hd; clear hd; replace HG := aM (Glob.below HG.out hb); replace HB := bS (qB HB) hb; clear hb) | (go_at_call 7; (with_reducible refine (word.calls' op (gword op) _ HG.out rfl).mono ?_); rintro e w9 ⟨rfl, hb⟩; replace HG := aM (Glob.below HG.out hb); replace HB := bS (qB HB) hb; clear hb) | (go_at_call 5; (with_reducible refine (find.calls' (gword op) op _ HG.out HP.out).mono ?_); rintro e w10 ⟨rfl, hb⟩; replace HG := aM (Glob.below HG.out hb); replace HB := bS (qB HB) hb; clear hb) | (go_at_call 9; (with_reducible refine (same.calls _ HG.out).mono ?_); rintro e w11 ⟨rfl, hb⟩; replace HG := aM (Glob.below HG.out hb); replace HB := bS (qB HB) hb; clear hb))
     go_ret
     exact ⟨pE, HB.out⟩
   · have HI := aM (show prim_Is.f op = some false by rw [HIO.out, decide_eq_false c2])
     clear hop c2 HIO
     go_enter Tryd.func3, Tryd.ntmps3
     go_wp2_with (first | ((with_reducible refine gate_callee (f := 5) rfl ?_); refine goesL_ (some 7) rfl rfl Tryd.func5 (by kernel_rfl) rfl #[.string s] rfl pA ?_; (with_reducible refine (find.calls' s n _ HG.out HN.out).mono ?_); rintro e w5 ⟨rfl, hb⟩; refine ⟨_, rfl, ?_⟩; replace HG := aM (Glob.below HG.out hb); replace HB := bS (qB HB) hb; clear hb) | ((with_reducible refine gate_callee (f := 6) rfl ?_); refine goesL_ (some 10) rfl rfl Tryd.func6 (by kernel_rfl) rfl #[.string s] rfl pA ?_; (with_reducible refine (gradineref30_Find.calls k s n _ HF.out).mono ?_); rintro e w6 ⟨rfl, hb⟩; refine ⟨_, rfl, ?_⟩; replace HG := aM (Glob.below HG.out hb); replace HB := bS (qB HB) hb; clear hb) | (go_at_call 7; (with_reducible refine (word.calls' n s _ HG.out HW.out).mono ?_); rintro e w7 ⟨rfl, hb⟩; replace HG := aM (Glob.below HG.out hb); replace HB := bS (qB HB) hb; clear hb) | ((with_reducible refine gate_callee (f := 8) rfl ?_); refine goesL_ (some 23) rfl rfl Tryd.func8 (by kernel_rfl) rfl #[.int .i64 op] rfl pA ?_; (with_reducible refine (prim_Is.calls op false _ HI.out).mono ?_); rintro e w8 ⟨rfl, hd⟩; refine ⟨_, rfl, ?_⟩; have hb := prim_drawn hd; clear hd; replace HG := aM (Glob.below HG.out hb); replace HB := bS (qB HB) hb; clear hb) | (go_at_call 9; (with_reducible refine (same.calls _ HG.out).mono ?_); rintro e w11 ⟨rfl, hb⟩; replace HG := aM (Glob.below HG.out hb); replace HB := bS (qB HB) hb; clear hb))
     go_ret
     exact ⟨pE, HB.out⟩
 · have d1 : decide (0 < n) = false := decide_eq_false c1
   clear hpos c1
   by_cases c2 : 1 ≤ op ∧ op ≤ 40
   · have HP := aM (hop c2)
     have HI := aM (show prim_Is.f op = some true by rw [HIO.out, decide_eq_true c2])
     clear hop c2 HIO
     go_enter Tryd.func3, Tryd.ntmps3
     go_wp2_with (first | ((with_reducible refine gate_callee (f := 5) rfl ?_); refine goesL_ (some 7) rfl rfl Tryd.func5 (by kernel_rfl) rfl #[.string s] rfl pA ?_; (with_reducible refine (find.calls' s n _ HG.out HN.out).mono ?_); rintro e w5 ⟨rfl, hb⟩; refine ⟨_, rfl, ?_⟩; replace HG := aM (Glob.below HG.out hb); replace HB := bS (qB HB) hb; clear hb) | ((with_reducible refine gate_callee (f := 6) rfl ?_); refine goesL_ (some 10) rfl rfl Tryd.func6 (by kernel_rfl) rfl #[.string s] rfl pA ?_; (with_reducible refine (gradineref30_Find.calls k s n _ HF.out).mono ?_); rintro e w6 ⟨rfl, hb⟩; refine ⟨_, rfl, ?_⟩; replace HG := aM (Glob.below HG.out hb); replace HB := bS (qB HB) hb; clear hb) | ((with_reducible refine gate_callee (f := 8) rfl ?_); refine goesL_ (some 23) rfl rfl Tryd.func8 (by kernel_rfl) rfl #[.int .i64 op] rfl pA ?_; (with_reducible refine (prim_Is.calls op true _ HI.out).mono ?_); rintro e w8 ⟨rfl, hd⟩; refine ⟨_, rfl, ?_⟩; have hb := prim_drawn hd; clear hd; replace HG := aM (Glob.below HG.out hb); replace HB := bS (qB HB) hb; clear hb) | (go_at_call 7; (with_reducible refine (word.calls' op (gword op) _ HG.out rfl).mono ?_); rintro e w9 ⟨rfl, hb⟩; replace HG := aM (Glob.below HG.out hb); replace HB := bS (qB HB) hb; clear hb) | (go_at_call 5; (with_reducible refine (find.calls' (gword op) op _ HG.out HP.out).mono ?_); rintro e w10 ⟨rfl, hb⟩; replace HG := aM (Glob.below HG.out hb); replace HB := bS (qB HB) hb; clear hb) | (go_at_call 9; (with_reducible refine (same.calls _ HG.out).mono ?_); rintro e w11 ⟨rfl, hb⟩; replace HG := aM (Glob.below HG.out hb); replace HB := bS (qB HB) hb; clear hb))
     go_ret
     exact ⟨pE, HB.out⟩
   · have HI := aM (show prim_Is.f op = some false by rw [HIO.out, decide_eq_false c2])
     clear hop c2 HIO
     go_enter Tryd.func3, Tryd.ntmps3
     go_wp2_with (first | ((with_reducible refine gate_callee (f := 5) rfl ?_); refine goesL_ (some 7) rfl rfl Tryd.func5 (by kernel_rfl) rfl #[.string s] rfl pA ?_; (with_reducible refine (find.calls' s n _ HG.out HN.out).mono ?_); rintro e w5 ⟨rfl, hb⟩; refine ⟨_, rfl, ?_⟩; replace HG := aM (Glob.below HG.out hb); replace HB := bS (qB HB) hb; clear hb) | ((with_reducible refine gate_callee (f := 6) rfl ?_); refine goesL_ (some 10) rfl rfl Tryd.func6 (by kernel_rfl) rfl #[.string s] rfl pA ?_; (with_reducible refine (gradineref30_Find.calls k s n _ HF.out).mono ?_); rintro e w6 ⟨rfl, hb⟩; refine ⟨_, rfl, ?_⟩; replace HG := aM (Glob.below HG.out hb); replace HB := bS (qB HB) hb; clear hb) | ((with_reducible refine gate_callee (f := 8) rfl ?_); refine goesL_ (some 23) rfl rfl Tryd.func8 (by kernel_rfl) rfl #[.int .i64 op] rfl pA ?_; (with_reducible refine (prim_Is.calls op false _ HI.out).mono ?_); rintro e w8 ⟨rfl, hd⟩; refine ⟨_, rfl, ?_⟩; have hb := prim_drawn hd; clear hd; replace HG := aM (Glob.below HG.out hb); replace HB := bS (qB HB) hb; clear hb) | (go_at_call 9; (with_reducible refine (same.calls _ HG.out).mono ?_); rintro e w11 ⟨rfl, hb⟩; replace HG := aM (Glob.below HG.out hb); replace HB := bS (qB HB) hb; clear hb))
     go_ret
     exact ⟨pE, HB.out⟩
end Go.Proofs.YthoilhonhjemmaaDoor.Q
namespace Go.Proofs.YthoilhonhjemmaaDoor.Pure
open Go.RowKit Go.Proofs.YthoilhonhjemmaaDoor.Q Go.Proofs.YthoilhonhjemmaaDoorW.PrintWords Go.Proofs.YthoilhonhjemmaaDoorW.PrintLast
set_option linter.unusedVariables false

theorem word_40 : ∀ i : Fin 40, gradineref30_Word.f 1 ((i.val : Int) + 1) = some (gword ((i.val : Int) + 1)) := by decide +kernel
theorem ref_word_1 (k : Nat) (op : Int) : gradineref30_Word.f (k + 1) op = some (gword op) := by
  have e : gradineref30_Word.f (k + 1) op = gradineref30_Word.f 1 op := rfl
  rw [e]
  by_cases h : 1 ≤ op ∧ op ≤ 40
  · obtain ⟨m, hm⟩ := Int.eq_ofNat_of_zero_le (show 0 ≤ op - 1 by omega)
    have := word_40 ⟨m, by omega⟩
    rw [show (((⟨m, by omega⟩ : Fin 40).val : Nat) : Int) + 1 = op by show (m : Int) + 1 = op; omega] at this
    exact this
  · have e2 : gword op = ⟨#[]⟩ := if_neg h
    rw [e2]
    unfold gradineref30_Word.f
    simp only [Option.bind_some]
    by_cases h1 : op < 1
    · rw [if_pos h1]; rfl
    · rw [if_neg h1, decide_eq_true (show op > 40 by omega)]; rfl
theorem ref_word (op : Int) : Ev (fun k => gradineref30_Word.f k op) (gword op) := Ev.step (fun k => ref_word_1 k op) (Ev.now _)
theorem ref_find_l (s : ByteArray) : ∀ q i : Nat, i + q = 41 → 1 ≤ i → Ev (fun k => gradineref30_Find.l0 k s (i : Int)) (fnd q i s)
  | 0, i, h, _ => by
    refine Ev.step (fun k => ?_) (Ev.now _)
    rw [gradineref30_Find.l0, if_neg (by omega), fnd]
  | q + 1, i, h, h1 => by
    have ih := ref_find_l s q (i + 1) (by omega) (by omega)
    by_cases h0 : i = 0
    · omega
    · have eg : gword (i : Int) = wd i := by unfold gword; rw [if_pos ⟨by omega, by omega⟩, Int.toNat_natCast]
      refine Ev.step (fun k => by rw [gradineref30_Find.l0, if_pos (by omega)]) (Ev.bind (ref_word (i : Int)) ?_)
      rw [eg, fnd]
      by_cases e : wd i = s
      · rw [if_pos e]; exact Ev.congr (fun k => by rw [if_pos (by rw [e])]) (Ev.now _)
      · rw [if_neg e]
        refine Ev.congr (fun k => ?_) ih
        rw [if_neg (fun hh => e (bytes_eq hh)), w64o (by omega) (by omega)]
        rfl
theorem ref_find (s : ByteArray) : Ev (fun k => gradineref30_Find.f k s) (fnd 40 1 s) :=
  Ev.congr (fun k => by rw [gradineref30_Find.f]; rfl) (ref_find_l s 40 1 (by omega) (by omega))
theorem fnd_some (s : ByteArray) : ∀ q i : Nat, fnd q i s = 0 ∨ ∃ j : Nat, i ≤ j ∧ j < i + q ∧ fnd q i s = (j : Int) ∧ wd j = s
  | 0, i => .inl rfl
  | q + 1, i => by
    rw [fnd]
    by_cases e : wd i = s
    · rw [if_pos e]; exact .inr ⟨i, by omega, by omega, rfl, e⟩
    · rw [if_neg e]
      rcases fnd_some s q (i + 1) with h | ⟨j, h1, h2, h3, h4⟩
      · exact .inl h
      · exact .inr ⟨j, by omega, by omega, h3, h4⟩
theorem fnd_word (s : ByteArray) (h : 0 < fnd 40 1 s) : gword (fnd 40 1 s) = s := by
  rcases fnd_some s 40 1 with h0 | ⟨j, h1, h2, h3, h4⟩
  · omega
  · rw [h3]
    unfold gword
    rw [if_pos ⟨by omega, by omega⟩, Int.toNat_natCast, h4]
theorem fnd_40 : ∀ i : Fin 40, fnd 40 1 (gword ((i.val : Int) + 1)) = (i.val : Int) + 1 := by decide +kernel
theorem fnd_op (op : Int) (h : 1 ≤ op ∧ op ≤ 40) : fnd 40 1 (gword op) = op := by
  obtain ⟨m, hm⟩ := Int.eq_ofNat_of_zero_le (show 0 ≤ op - 1 by omega)
  have := fnd_40 ⟨m, by omega⟩
  rw [show (((⟨m, by omega⟩ : Fin 40).val : Nat) : Int) + 1 = op by show (m : Int) + 1 = op; omega] at this
  exact this
theorem gWords : Tryd.prog.globalNamed "gradine/prim.words" = some 0 := by kernel_rfl
theorem tWords : (Tryd.prog.globals[0]?).map (·.type) = some 33 := by kernel_rfl
theorem datum {H : Type} : (Rows.laid_gradine_prim_words : DataW H) = .agg (WD.map fun s => .lit (.string s.data.toList)) := rfl
/-- What the condition gives: the table's cells. -/
theorem glob_of {W : World} (h : laidMetH Tryd.prog [("gradine/prim.words", Rows.laid_gradine_prim_words)] W) : Glob W := by
  rw [MakeChecks.laidMetH_plain _ _ _ (by kernel_rfl)] at h
  obtain ⟨ps, ⟨g0, t0, cs0, f0, p0, q0, hg0, ht0, hv0, hd0, _, _⟩, _, _⟩ := h
  obtain rfl := Option.some.inj (gWords.symm.trans hg0)
  obtain rfl := Option.some.inj (tWords.symm.trans ht0)
  obtain ⟨xs, m1, rfl, hx1, hlen, hn, hel⟩ := DataW.trod_array Tryd.underlying33 hd0
  have c9 : Tryd.prog.cellsOf 9 = 1 := by kernel_rfl
  rw [datum] at hx1
  simp only [Prod.mk.injEq, DataW.agg.injEq] at hx1
  intro i hi
  have h1 := hel i hi
  have hix : i < xs.length := by omega
  rw [List.getElem?_eq_getElem hix, c9, Nat.mul_one] at h1
  obtain ⟨s, hs, hx, _⟩ := DataW.trod_string Tryd.underlying9 h1
  have hc : cs0.toList[i]? = some (.string s) := by
    have := congrArg (fun l : List Value => l[0]?) hs
    simpa using this
  have hw : i < WD.length := by rw [show WD.length = 41 from rfl]; exact hi
  have e := congrArg (fun l => l[i]?) hx1.1
  simp only [List.getElem?_map, List.getElem?_eq_getElem hix, List.getElem?_eq_getElem hw, Option.map_some, Option.some.injEq, hx, DataW.lit.injEq, Lit.string.injEq] at e
  have es : WD[i] = s := Go.WideShapes.bytes_inj e
  rw [World.var?_cell hg0 hv0 i]
  have ew : wd i = s := by unfold wd; rw [List.getD_eq_getElem?_getD, List.getElem?_eq_getElem hw, Option.getD_some, es]
  rw [ew]
  simpa using hc
theorem PrimWords_walk (w : World) (hg : Glob w) (op : Int) (_ : (Lit.int .i64 op).wf = true) (s : ByteArray) (_ : s.size ≤ maxLen) :
    Calls Tryd.prog 3 #[.int .i64 op, .string s] w fun e w' => e = .returned (.bool true) ∧ Below w.heap.size w w' := by
  obtain ⟨k, h⟩ := (ref_find s).rounds
  exact words.calls k op s _ w hg h rfl (fnd_word s) (fnd_op op)
end Go.Proofs.YthoilhonhjemmaaDoor.Pure
