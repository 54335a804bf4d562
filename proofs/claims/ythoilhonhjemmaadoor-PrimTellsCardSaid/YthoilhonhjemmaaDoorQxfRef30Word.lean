-- By wip/gprint.py (this session's), out of the kit's print.py.
import Derived.Test.YthoilhonhjemmaaDoorQx0
namespace Go.Proofs.YthoilhonhjemmaaDoor.Q
open Go.RowKit Go.Proofs.YthoilhonhjemmaaDoorW.PrintWords Go.Proofs.YthoilhonhjemmaaDoorW.PrintLast Go.Proofs.YthoilhonhjemmaaDoorW.PrintMore
attribute [local go_sem] max2_int min2_int max_two min_two max_three min_three max_four min_four   -- for this text's walks alone
set_option linter.unusedVariables false
set_option linter.unusedSimpArgs false

/-! ### gradineref30_Word: function 11 -/
def gradineref30_Word.j0 : Nat → Int → List ByteArray → List ByteArray → List ByteArray → Bool → Option (ByteArray)
 | 0, _, _, _, _, _ => none
 | k + 1, x0, x3, x4, x5, x14 => if x14 = true then (some (⟨#[]⟩ : ByteArray)) else (if x0 ≤ 16 then (if 0 ≤ (wrap64 (x0 - 1)) then (if (wrap64 (x0 - 1)) < (x3.length : Int) then (some (rdOf ByteArray.empty x3 (wrap64 (x0 - 1)))) else (none)) else (none)) else (if x0 ≤ 32 then (if 0 ≤ (wrap64 (x0 - 17)) then (if (wrap64 (x0 - 17)) < (x4.length : Int) then (some (rdOf ByteArray.empty x4 (wrap64 (x0 - 17)))) else (none)) else (none)) else (if 0 ≤ (wrap64 (x0 - 33)) then (if (wrap64 (x0 - 33)) < (x5.length : Int) then (some (rdOf ByteArray.empty x5 (wrap64 (x0 - 33)))) else (none)) else (none))))
def gradineref30_Word.f (k : Nat) (a0 : Int) : Option (ByteArray) := (some (([(⟨#[110, 101, 103]⟩ : ByteArray), (⟨#[114, 101, 99, 105, 112]⟩ : ByteArray), (⟨#[115, 113, 117, 97, 114, 101]⟩ : ByteArray), (⟨#[97, 98, 115]⟩ : ByteArray), (⟨#[115, 105, 103, 110]⟩ : ByteArray), (⟨#[114, 101, 108, 117]⟩ : ByteArray), (⟨#[101, 120, 112]⟩ : ByteArray), (⟨#[108, 111, 103]⟩ : ByteArray), (⟨#[115, 113, 114, 116]⟩ : ByteArray), (⟨#[115, 105, 103, 109, 111, 105, 100]⟩ : ByteArray), (⟨#[116, 97, 110, 104]⟩ : ByteArray), (⟨#[112, 111, 119, 101, 114]⟩ : ByteArray), (⟨#[115, 99, 97, 108, 101]⟩ : ByteArray), (⟨#[115, 104, 105, 102, 116]⟩ : ByteArray), (⟨#[99, 108, 97, 109, 112]⟩ : ByteArray), (⟨#[108, 101, 97, 107, 121]⟩ : ByteArray)] : List ByteArray) : List ByteArray)).bind fun zc => ((some (([(⟨#[97, 100, 100]⟩ : ByteArray), (⟨#[115, 117, 98]⟩ : ByteArray), (⟨#[109, 117, 108]⟩ : ByteArray), (⟨#[100, 105, 118]⟩ : ByteArray), (⟨#[108, 97, 114, 103, 101, 114]⟩ : ByteArray), (⟨#[108, 101, 115, 115, 101, 114]⟩ : ByteArray), (⟨#[108, 101, 115, 115]⟩ : ByteArray), (⟨#[119, 104, 101, 114, 101]⟩ : ByteArray), (⟨#[109, 117, 108, 97, 100, 100]⟩ : ByteArray), (⟨#[109, 105, 120]⟩ : ByteArray), (⟨#[115, 117, 109]⟩ : ByteArray), (⟨#[109, 101, 97, 110]⟩ : ByteArray), (⟨#[109, 97, 120, 111, 102]⟩ : ByteArray), (⟨#[109, 105, 110, 111, 102]⟩ : ByteArray), (⟨#[97, 114, 103, 109, 97, 120]⟩ : ByteArray), (⟨#[109, 97, 116, 109, 117, 108]⟩ : ByteArray)] : List ByteArray) : List ByteArray)).bind fun zb => ((some (([(⟨#[114, 101, 115, 104, 97, 112, 101]⟩ : ByteArray), (⟨#[112, 101, 114, 109, 117, 116, 101]⟩ : ByteArray), (⟨#[115, 108, 105, 99, 101]⟩ : ByteArray), (⟨#[101, 120, 112, 97, 110, 100]⟩ : ByteArray), (⟨#[102, 108, 105, 112]⟩ : ByteArray), (⟨#[116, 97, 107, 101]⟩ : ByteArray), (⟨#[112, 117, 116]⟩ : ByteArray), (⟨#[106, 111, 105, 110]⟩ : ByteArray)] : List ByteArray) : List ByteArray)).bind fun za => (if a0 < 1 then (gradineref30_Word.j0 k a0 zc zb za true) else (gradineref30_Word.j0 k a0 zc zb za (decide (a0 > 40))))))
set_option maxHeartbeats 8000000 in
set_option maxRecDepth 100000 in
theorem gradineref30_Word.calls (k : Nat) (a0 : Int) (r : ByteArray) (w : World) (h : gradineref30_Word.f k a0 = some r) :
  Calls Tryd.prog 11 #[.int .i64 a0] w fun e w' => e = .returned (.string r) ∧ Below w.heap.size w w' := by
 have HB := aM (Below.refl w.heap.size w)
 have H : ((some (([(⟨#[110, 101, 103]⟩ : ByteArray), (⟨#[114, 101, 99, 105, 112]⟩ : ByteArray), (⟨#[115, 113, 117, 97, 114, 101]⟩ : ByteArray), (⟨#[97, 98, 115]⟩ : ByteArray), (⟨#[115, 105, 103, 110]⟩ : ByteArray), (⟨#[114, 101, 108, 117]⟩ : ByteArray), (⟨#[101, 120, 112]⟩ : ByteArray), (⟨#[108, 111, 103]⟩ : ByteArray), (⟨#[115, 113, 114, 116]⟩ : ByteArray), (⟨#[115, 105, 103, 109, 111, 105, 100]⟩ : ByteArray), (⟨#[116, 97, 110, 104]⟩ : ByteArray), (⟨#[112, 111, 119, 101, 114]⟩ : ByteArray), (⟨#[115, 99, 97, 108, 101]⟩ : ByteArray), (⟨#[115, 104, 105, 102, 116]⟩ : ByteArray), (⟨#[99, 108, 97, 109, 112]⟩ : ByteArray), (⟨#[108, 101, 97, 107, 121]⟩ : ByteArray)] : List ByteArray) : List ByteArray)).bind fun zc => ((some (([(⟨#[97, 100, 100]⟩ : ByteArray), (⟨#[115, 117, 98]⟩ : ByteArray), (⟨#[109, 117, 108]⟩ : ByteArray), (⟨#[100, 105, 118]⟩ : ByteArray), (⟨#[108, 97, 114, 103, 101, 114]⟩ : ByteArray), (⟨#[108, 101, 115, 115, 101, 114]⟩ : ByteArray), (⟨#[108, 101, 115, 115]⟩ : ByteArray), (⟨#[119, 104, 101, 114, 101]⟩ : ByteArray), (⟨#[109, 117, 108, 97, 100, 100]⟩ : ByteArray), (⟨#[109, 105, 120]⟩ : ByteArray), (⟨#[115, 117, 109]⟩ : ByteArray), (⟨#[109, 101, 97, 110]⟩ : ByteArray), (⟨#[109, 97, 120, 111, 102]⟩ : ByteArray), (⟨#[109, 105, 110, 111, 102]⟩ : ByteArray), (⟨#[97, 114, 103, 109, 97, 120]⟩ : ByteArray), (⟨#[109, 97, 116, 109, 117, 108]⟩ : ByteArray)] : List ByteArray) : List ByteArray)).bind fun zb => ((some (([(⟨#[114, 101, 115, 104, 97, 112, 101]⟩ : ByteArray), (⟨#[112, 101, 114, 109, 117, 116, 101]⟩ : ByteArray), (⟨#[115, 108, 105, 99, 101]⟩ : ByteArray), (⟨#[101, 120, 112, 97, 110, 100]⟩ : ByteArray), (⟨#[102, 108, 105, 112]⟩ : ByteArray), (⟨#[116, 97, 107, 101]⟩ : ByteArray), (⟨#[112, 117, 116]⟩ : ByteArray), (⟨#[106, 111, 105, 110]⟩ : ByteArray)] : List ByteArray) : List ByteArray)).bind fun za => (if a0 < 1 then (gradineref30_Word.j0 k a0 zc zb za true) else (gradineref30_Word.j0 k a0 zc zb za (decide (a0 > 40))))))) = some r := h
 clear h
 obtain ⟨zc, zf⟩ : ∃ y_ : List ByteArray, y_ = (([(⟨#[110, 101, 103]⟩ : ByteArray), (⟨#[114, 101, 99, 105, 112]⟩ : ByteArray), (⟨#[115, 113, 117, 97, 114, 101]⟩ : ByteArray), (⟨#[97, 98, 115]⟩ : ByteArray), (⟨#[115, 105, 103, 110]⟩ : ByteArray), (⟨#[114, 101, 108, 117]⟩ : ByteArray), (⟨#[101, 120, 112]⟩ : ByteArray), (⟨#[108, 111, 103]⟩ : ByteArray), (⟨#[115, 113, 114, 116]⟩ : ByteArray), (⟨#[115, 105, 103, 109, 111, 105, 100]⟩ : ByteArray), (⟨#[116, 97, 110, 104]⟩ : ByteArray), (⟨#[112, 111, 119, 101, 114]⟩ : ByteArray), (⟨#[115, 99, 97, 108, 101]⟩ : ByteArray), (⟨#[115, 104, 105, 102, 116]⟩ : ByteArray), (⟨#[99, 108, 97, 109, 112]⟩ : ByteArray), (⟨#[108, 101, 97, 107, 121]⟩ : ByteArray)] : List ByteArray)) := ⟨_, rfl⟩
 replace H : ((some (([(⟨#[97, 100, 100]⟩ : ByteArray), (⟨#[115, 117, 98]⟩ : ByteArray), (⟨#[109, 117, 108]⟩ : ByteArray), (⟨#[100, 105, 118]⟩ : ByteArray), (⟨#[108, 97, 114, 103, 101, 114]⟩ : ByteArray), (⟨#[108, 101, 115, 115, 101, 114]⟩ : ByteArray), (⟨#[108, 101, 115, 115]⟩ : ByteArray), (⟨#[119, 104, 101, 114, 101]⟩ : ByteArray), (⟨#[109, 117, 108, 97, 100, 100]⟩ : ByteArray), (⟨#[109, 105, 120]⟩ : ByteArray), (⟨#[115, 117, 109]⟩ : ByteArray), (⟨#[109, 101, 97, 110]⟩ : ByteArray), (⟨#[109, 97, 120, 111, 102]⟩ : ByteArray), (⟨#[109, 105, 110, 111, 102]⟩ : ByteArray), (⟨#[97, 114, 103, 109, 97, 120]⟩ : ByteArray), (⟨#[109, 97, 116, 109, 117, 108]⟩ : ByteArray)] : List ByteArray) : List ByteArray)).bind fun zb => ((some (([(⟨#[114, 101, 115, 104, 97, 112, 101]⟩ : ByteArray), (⟨#[112, 101, 114, 109, 117, 116, 101]⟩ : ByteArray), (⟨#[115, 108, 105, 99, 101]⟩ : ByteArray), (⟨#[101, 120, 112, 97, 110, 100]⟩ : ByteArray), (⟨#[102, 108, 105, 112]⟩ : ByteArray), (⟨#[116, 97, 107, 101]⟩ : ByteArray), (⟨#[112, 117, 116]⟩ : ByteArray), (⟨#[106, 111, 105, 110]⟩ : ByteArray)] : List ByteArray) : List ByteArray)).bind fun za => (if a0 < 1 then (gradineref30_Word.j0 k a0 zc zb za true) else (gradineref30_Word.j0 k a0 zc zb za (decide (a0 > 40)))))) = some r := pH zf H
 have zj := aM zf
 clear zf
 obtain ⟨zb, zg⟩ : ∃ y_ : List ByteArray, y_ = (([(⟨#[97, 100, 100]⟩ : ByteArray), (⟨#[115, 117, 98]⟩ : ByteArray), (⟨#[109, 117, 108]⟩ : ByteArray), (⟨#[100, 105, 118]⟩ : ByteArray), (⟨#[108, 97, 114, 103, 101, 114]⟩ : ByteArray), (⟨#[108, 101, 115, 115, 101, 114]⟩ : ByteArray), (⟨#[108, 101, 115, 115]⟩ : ByteArray), (⟨#[119, 104, 101, 114, 101]⟩ : ByteArray), (⟨#[109, 117, 108, 97, 100, 100]⟩ : ByteArray), (⟨#[109, 105, 120]⟩ : ByteArray), (⟨#[115, 117, 109]⟩ : ByteArray), (⟨#[109, 101, 97, 110]⟩ : ByteArray), (⟨#[109, 97, 120, 111, 102]⟩ : ByteArray), (⟨#[109, 105, 110, 111, 102]⟩ : ByteArray), (⟨#[97, 114, 103, 109, 97, 120]⟩ : ByteArray), (⟨#[109, 97, 116, 109, 117, 108]⟩ : ByteArray)] : List ByteArray)) := ⟨_, rfl⟩
 replace H : ((some (([(⟨#[114, 101, 115, 104, 97, 112, 101]⟩ : ByteArray), (⟨#[112, 101, 114, 109, 117, 116, 101]⟩ : ByteArray), (⟨#[115, 108, 105, 99, 101]⟩ : ByteArray), (⟨#[101, 120, 112, 97, 110, 100]⟩ : ByteArray), (⟨#[102, 108, 105, 112]⟩ : ByteArray), (⟨#[116, 97, 107, 101]⟩ : ByteArray), (⟨#[112, 117, 116]⟩ : ByteArray), (⟨#[106, 111, 105, 110]⟩ : ByteArray)] : List ByteArray) : List ByteArray)).bind fun za => (if a0 < 1 then (gradineref30_Word.j0 k a0 zc zb za true) else (gradineref30_Word.j0 k a0 zc zb za (decide (a0 > 40))))) = some r := pH zg H
 have zk := aM zg
 clear zg
 obtain ⟨za, zh⟩ : ∃ y_ : List ByteArray, y_ = (([(⟨#[114, 101, 115, 104, 97, 112, 101]⟩ : ByteArray), (⟨#[112, 101, 114, 109, 117, 116, 101]⟩ : ByteArray), (⟨#[115, 108, 105, 99, 101]⟩ : ByteArray), (⟨#[101, 120, 112, 97, 110, 100]⟩ : ByteArray), (⟨#[102, 108, 105, 112]⟩ : ByteArray), (⟨#[116, 97, 107, 101]⟩ : ByteArray), (⟨#[112, 117, 116]⟩ : ByteArray), (⟨#[106, 111, 105, 110]⟩ : ByteArray)] : List ByteArray)) := ⟨_, rfl⟩
 replace H : (if a0 < 1 then (gradineref30_Word.j0 k a0 zc zb za true) else (gradineref30_Word.j0 k a0 zc zb za (decide (a0 > 40)))) = some r := pH zh H
 have zl := aM zh
 clear zh
 have HC2 := aM H
 clear H
 go_enter Tryd.func11, Tryd.ntmps11
 go_upto_region 4 with (first | ((with_reducible refine gate_dst (N := 6) rfl ?_); refine Kd.R_lit Kd.string _ 9 ?hg (N := 6) ?hd (xs := ([(⟨#[110, 101, 103]⟩ : ByteArray), (⟨#[114, 101, 99, 105, 112]⟩ : ByteArray), (⟨#[115, 113, 117, 97, 114, 101]⟩ : ByteArray), (⟨#[97, 98, 115]⟩ : ByteArray), (⟨#[115, 105, 103, 110]⟩ : ByteArray), (⟨#[114, 101, 108, 117]⟩ : ByteArray), (⟨#[101, 120, 112]⟩ : ByteArray), (⟨#[108, 111, 103]⟩ : ByteArray), (⟨#[115, 113, 114, 116]⟩ : ByteArray), (⟨#[115, 105, 103, 109, 111, 105, 100]⟩ : ByteArray), (⟨#[116, 97, 110, 104]⟩ : ByteArray), (⟨#[112, 111, 119, 101, 114]⟩ : ByteArray), (⟨#[115, 99, 97, 108, 101]⟩ : ByteArray), (⟨#[115, 104, 105, 102, 116]⟩ : ByteArray), (⟨#[99, 108, 97, 109, 112]⟩ : ByteArray), (⟨#[108, 101, 97, 107, 121]⟩ : ByteArray)] : List ByteArray)) (inner := [.string (⟨#[110, 101, 103]⟩ : ByteArray), .string (⟨#[114, 101, 99, 105, 112]⟩ : ByteArray), .string (⟨#[115, 113, 117, 97, 114, 101]⟩ : ByteArray), .string (⟨#[97, 98, 115]⟩ : ByteArray), .string (⟨#[115, 105, 103, 110]⟩ : ByteArray), .string (⟨#[114, 101, 108, 117]⟩ : ByteArray), .string (⟨#[101, 120, 112]⟩ : ByteArray), .string (⟨#[108, 111, 103]⟩ : ByteArray), .string (⟨#[115, 113, 114, 116]⟩ : ByteArray), .string (⟨#[115, 105, 103, 109, 111, 105, 100]⟩ : ByteArray), .string (⟨#[116, 97, 110, 104]⟩ : ByteArray), .string (⟨#[112, 111, 119, 101, 114]⟩ : ByteArray), .string (⟨#[115, 99, 97, 108, 101]⟩ : ByteArray), .string (⟨#[115, 104, 105, 102, 116]⟩ : ByteArray), .string (⟨#[99, 108, 97, 109, 112]⟩ : ByteArray), .string (⟨#[108, 101, 97, 107, 121]⟩ : ByteArray)]) (ok := fun _ => True) (okp := fun _ => True) ?hr ?hp (fun _ hk => hk) trivial (Below.refl _ _) (Nat.le_refl _) (by simp) ?_; (case hd => rfl); (case hg => rfl); (case hr => first | (go_simp; done) | (go_simp; rfl)); (case hp => exact (Reps.one (show Kd.M Kd.string _ _ _ (⟨#[110, 101, 103]⟩ : ByteArray) [.string (⟨#[110, 101, 103]⟩ : ByteArray)] from rfl) (Reps.one (show Kd.M Kd.string _ _ _ (⟨#[114, 101, 99, 105, 112]⟩ : ByteArray) [.string (⟨#[114, 101, 99, 105, 112]⟩ : ByteArray)] from rfl) (Reps.one (show Kd.M Kd.string _ _ _ (⟨#[115, 113, 117, 97, 114, 101]⟩ : ByteArray) [.string (⟨#[115, 113, 117, 97, 114, 101]⟩ : ByteArray)] from rfl) (Reps.one (show Kd.M Kd.string _ _ _ (⟨#[97, 98, 115]⟩ : ByteArray) [.string (⟨#[97, 98, 115]⟩ : ByteArray)] from rfl) (Reps.one (show Kd.M Kd.string _ _ _ (⟨#[115, 105, 103, 110]⟩ : ByteArray) [.string (⟨#[115, 105, 103, 110]⟩ : ByteArray)] from rfl) (Reps.one (show Kd.M Kd.string _ _ _ (⟨#[114, 101, 108, 117]⟩ : ByteArray) [.string (⟨#[114, 101, 108, 117]⟩ : ByteArray)] from rfl) (Reps.one (show Kd.M Kd.string _ _ _ (⟨#[101, 120, 112]⟩ : ByteArray) [.string (⟨#[101, 120, 112]⟩ : ByteArray)] from rfl) (Reps.one (show Kd.M Kd.string _ _ _ (⟨#[108, 111, 103]⟩ : ByteArray) [.string (⟨#[108, 111, 103]⟩ : ByteArray)] from rfl) (Reps.one (show Kd.M Kd.string _ _ _ (⟨#[115, 113, 114, 116]⟩ : ByteArray) [.string (⟨#[115, 113, 114, 116]⟩ : ByteArray)] from rfl) (Reps.one (show Kd.M Kd.string _ _ _ (⟨#[115, 105, 103, 109, 111, 105, 100]⟩ : ByteArray) [.string (⟨#[115, 105, 103, 109, 111, 105, 100]⟩ : ByteArray)] from rfl) (Reps.one (show Kd.M Kd.string _ _ _ (⟨#[116, 97, 110, 104]⟩ : ByteArray) [.string (⟨#[116, 97, 110, 104]⟩ : ByteArray)] from rfl) (Reps.one (show Kd.M Kd.string _ _ _ (⟨#[112, 111, 119, 101, 114]⟩ : ByteArray) [.string (⟨#[112, 111, 119, 101, 114]⟩ : ByteArray)] from rfl) (Reps.one (show Kd.M Kd.string _ _ _ (⟨#[115, 99, 97, 108, 101]⟩ : ByteArray) [.string (⟨#[115, 99, 97, 108, 101]⟩ : ByteArray)] from rfl) (Reps.one (show Kd.M Kd.string _ _ _ (⟨#[115, 104, 105, 102, 116]⟩ : ByteArray) [.string (⟨#[115, 104, 105, 102, 116]⟩ : ByteArray)] from rfl) (Reps.one (show Kd.M Kd.string _ _ _ (⟨#[99, 108, 97, 109, 112]⟩ : ByteArray) [.string (⟨#[99, 108, 97, 109, 112]⟩ : ByteArray)] from rfl) (Reps.one (show Kd.M Kd.string _ _ _ (⟨#[108, 101, 97, 107, 121]⟩ : ByteArray) [.string (⟨#[108, 101, 97, 107, 121]⟩ : ByteArray)] from rfl) (Reps.none _ _)))))))))))))))))); intro zn w3 ho4 hb hg_ hnew_; clear hg_ hnew_; (first | rw [← zj.out] at ho4 | (simp only [Int.reduceToNat] at ho4; rw [← zj.out] at ho4)); have zd := aM (Kd.R_lower ho4 (below_size (qB HB))); replace HB := bS (qB HB) hb; clear hb ho4) | ((with_reducible refine gate_dst (N := 7) rfl ?_); refine Kd.R_lit Kd.string _ 9 ?hg (N := 7) ?hd (xs := ([(⟨#[97, 100, 100]⟩ : ByteArray), (⟨#[115, 117, 98]⟩ : ByteArray), (⟨#[109, 117, 108]⟩ : ByteArray), (⟨#[100, 105, 118]⟩ : ByteArray), (⟨#[108, 97, 114, 103, 101, 114]⟩ : ByteArray), (⟨#[108, 101, 115, 115, 101, 114]⟩ : ByteArray), (⟨#[108, 101, 115, 115]⟩ : ByteArray), (⟨#[119, 104, 101, 114, 101]⟩ : ByteArray), (⟨#[109, 117, 108, 97, 100, 100]⟩ : ByteArray), (⟨#[109, 105, 120]⟩ : ByteArray), (⟨#[115, 117, 109]⟩ : ByteArray), (⟨#[109, 101, 97, 110]⟩ : ByteArray), (⟨#[109, 97, 120, 111, 102]⟩ : ByteArray), (⟨#[109, 105, 110, 111, 102]⟩ : ByteArray), (⟨#[97, 114, 103, 109, 97, 120]⟩ : ByteArray), (⟨#[109, 97, 116, 109, 117, 108]⟩ : ByteArray)] : List ByteArray)) (inner := [.string (⟨#[97, 100, 100]⟩ : ByteArray), .string (⟨#[115, 117, 98]⟩ : ByteArray), .string (⟨#[109, 117, 108]⟩ : ByteArray), .string (⟨#[100, 105, 118]⟩ : ByteArray), .string (⟨#[108, 97, 114, 103, 101, 114]⟩ : ByteArray), .string (⟨#[108, 101, 115, 115, 101, 114]⟩ : ByteArray), .string (⟨#[108, 101, 115, 115]⟩ : ByteArray), .string (⟨#[119, 104, 101, 114, 101]⟩ : ByteArray), .string (⟨#[109, 117, 108, 97, 100, 100]⟩ : ByteArray), .string (⟨#[109, 105, 120]⟩ : ByteArray), .string (⟨#[115, 117, 109]⟩ : ByteArray), .string (⟨#[109, 101, 97, 110]⟩ : ByteArray), .string (⟨#[109, 97, 120, 111, 102]⟩ : ByteArray), .string (⟨#[109, 105, 110, 111, 102]⟩ : ByteArray), .string (⟨#[97, 114, 103, 109, 97, 120]⟩ : ByteArray), .string (⟨#[109, 97, 116, 109, 117, 108]⟩ : ByteArray)]) (ok := fun _ => True) (okp := fun _ => True) ?hr ?hp (fun _ hk => hk) trivial (Below.refl _ _) (Nat.le_refl _) (by simp) ?_; (case hd => rfl); (case hg => rfl); (case hr => first | (go_simp; done) | (go_simp; rfl)); (case hp => exact (Reps.one (show Kd.M Kd.string _ _ _ (⟨#[97, 100, 100]⟩ : ByteArray) [.string (⟨#[97, 100, 100]⟩ : ByteArray)] from rfl) (Reps.one (show Kd.M Kd.string _ _ _ (⟨#[115, 117, 98]⟩ : ByteArray) [.string (⟨#[115, 117, 98]⟩ : ByteArray)] from rfl) (Reps.one (show Kd.M Kd.string _ _ _ (⟨#[109, 117, 108]⟩ : ByteArray) [.string (⟨#[109, 117, 108]⟩ : ByteArray)] from rfl) (Reps.one (show Kd.M Kd.string _ _ _ (⟨#[100, 105, 118]⟩ : ByteArray) [.string (⟨#[100, 105, 118]⟩ : ByteArray)] from rfl) (Reps.one (show Kd.M Kd.string _ _ _ (⟨#[108, 97, 114, 103, 101, 114]⟩ : ByteArray) [.string (⟨#[108, 97, 114, 103, 101, 114]⟩ : ByteArray)] from rfl) (Reps.one (show Kd.M Kd.string _ _ _ (⟨#[108, 101, 115, 115, 101, 114]⟩ : ByteArray) [.string (⟨#[108, 101, 115, 115, 101, 114]⟩ : ByteArray)] from rfl) (Reps.one (show Kd.M Kd.string _ _ _ (⟨#[108, 101, 115, 115]⟩ : ByteArray) [.string (⟨#[108, 101, 115, 115]⟩ : ByteArray)] from rfl) (Reps.one (show Kd.M Kd.string _ _ _ (⟨#[119, 104, 101, 114, 101]⟩ : ByteArray) [.string (⟨#[119, 104, 101, 114, 101]⟩ : ByteArray)] from rfl) (Reps.one (show Kd.M Kd.string _ _ _ (⟨#[109, 117, 108, 97, 100, 100]⟩ : ByteArray) [.string (⟨#[109, 117, 108, 97, 100, 100]⟩ : ByteArray)] from rfl) (Reps.one (show Kd.M Kd.string _ _ _ (⟨#[109, 105, 120]⟩ : ByteArray) [.string (⟨#[109, 105, 120]⟩ : ByteArray)] from rfl) (Reps.one (show Kd.M Kd.string _ _ _ (⟨#[115, 117, 109]⟩ : ByteArray) [.string (⟨#[115, 117, 109]⟩ : ByteArray)] from rfl) (Reps.one (show Kd.M Kd.string _ _ _ (⟨#[109, 101, 97, 110]⟩ : ByteArray) [.string (⟨#[109, 101, 97, 110]⟩ : ByteArray)] from rfl) (Reps.one (show Kd.M Kd.string _ _ _ (⟨#[109, 97, 120, 111, 102]⟩ : ByteArray) [.string (⟨#[109, 97, 120, 111, 102]⟩ : ByteArray)] from rfl) (Reps.one (show Kd.M Kd.string _ _ _ (⟨#[109, 105, 110, 111, 102]⟩ : ByteArray) [.string (⟨#[109, 105, 110, 111, 102]⟩ : ByteArray)] from rfl) (Reps.one (show Kd.M Kd.string _ _ _ (⟨#[97, 114, 103, 109, 97, 120]⟩ : ByteArray) [.string (⟨#[97, 114, 103, 109, 97, 120]⟩ : ByteArray)] from rfl) (Reps.one (show Kd.M Kd.string _ _ _ (⟨#[109, 97, 116, 109, 117, 108]⟩ : ByteArray) [.string (⟨#[109, 97, 116, 109, 117, 108]⟩ : ByteArray)] from rfl) (Reps.none _ _)))))))))))))))))); intro zo w5 ho6 hb hg_ hnew_; clear hg_ hnew_; (first | rw [← zk.out] at ho6 | (simp only [Int.reduceToNat] at ho6; rw [← zk.out] at ho6)); have ze := aM (Kd.R_lower (Kd.R_new' ho6 (Kd.R_lt (pR zd.out))) (below_size (qB HB))); replace zd := eR zd ho6 hb; replace HB := bS (qB HB) hb; clear hb ho6) | ((with_reducible refine gate_dst (N := 8) rfl ?_); refine Kd.R_lit Kd.string _ 9 ?hg (N := 8) ?hd (xs := ([(⟨#[114, 101, 115, 104, 97, 112, 101]⟩ : ByteArray), (⟨#[112, 101, 114, 109, 117, 116, 101]⟩ : ByteArray), (⟨#[115, 108, 105, 99, 101]⟩ : ByteArray), (⟨#[101, 120, 112, 97, 110, 100]⟩ : ByteArray), (⟨#[102, 108, 105, 112]⟩ : ByteArray), (⟨#[116, 97, 107, 101]⟩ : ByteArray), (⟨#[112, 117, 116]⟩ : ByteArray), (⟨#[106, 111, 105, 110]⟩ : ByteArray)] : List ByteArray)) (inner := [.string (⟨#[114, 101, 115, 104, 97, 112, 101]⟩ : ByteArray), .string (⟨#[112, 101, 114, 109, 117, 116, 101]⟩ : ByteArray), .string (⟨#[115, 108, 105, 99, 101]⟩ : ByteArray), .string (⟨#[101, 120, 112, 97, 110, 100]⟩ : ByteArray), .string (⟨#[102, 108, 105, 112]⟩ : ByteArray), .string (⟨#[116, 97, 107, 101]⟩ : ByteArray), .string (⟨#[112, 117, 116]⟩ : ByteArray), .string (⟨#[106, 111, 105, 110]⟩ : ByteArray)]) (ok := fun _ => True) (okp := fun _ => True) ?hr ?hp (fun _ hk => hk) trivial (Below.refl _ _) (Nat.le_refl _) (by simp) ?_; (case hd => rfl); (case hg => rfl); (case hr => first | (go_simp; done) | (go_simp; rfl)); (case hp => exact (Reps.one (show Kd.M Kd.string _ _ _ (⟨#[114, 101, 115, 104, 97, 112, 101]⟩ : ByteArray) [.string (⟨#[114, 101, 115, 104, 97, 112, 101]⟩ : ByteArray)] from rfl) (Reps.one (show Kd.M Kd.string _ _ _ (⟨#[112, 101, 114, 109, 117, 116, 101]⟩ : ByteArray) [.string (⟨#[112, 101, 114, 109, 117, 116, 101]⟩ : ByteArray)] from rfl) (Reps.one (show Kd.M Kd.string _ _ _ (⟨#[115, 108, 105, 99, 101]⟩ : ByteArray) [.string (⟨#[115, 108, 105, 99, 101]⟩ : ByteArray)] from rfl) (Reps.one (show Kd.M Kd.string _ _ _ (⟨#[101, 120, 112, 97, 110, 100]⟩ : ByteArray) [.string (⟨#[101, 120, 112, 97, 110, 100]⟩ : ByteArray)] from rfl) (Reps.one (show Kd.M Kd.string _ _ _ (⟨#[102, 108, 105, 112]⟩ : ByteArray) [.string (⟨#[102, 108, 105, 112]⟩ : ByteArray)] from rfl) (Reps.one (show Kd.M Kd.string _ _ _ (⟨#[116, 97, 107, 101]⟩ : ByteArray) [.string (⟨#[116, 97, 107, 101]⟩ : ByteArray)] from rfl) (Reps.one (show Kd.M Kd.string _ _ _ (⟨#[112, 117, 116]⟩ : ByteArray) [.string (⟨#[112, 117, 116]⟩ : ByteArray)] from rfl) (Reps.one (show Kd.M Kd.string _ _ _ (⟨#[106, 111, 105, 110]⟩ : ByteArray) [.string (⟨#[106, 111, 105, 110]⟩ : ByteArray)] from rfl) (Reps.none _ _)))))))))); intro zp w7 ho8 hb hg_ hnew_; clear hg_ hnew_; (first | rw [← zl.out] at ho8 | (simp only [Int.reduceToNat] at ho8; rw [← zl.out] at ho8)); have zm := aM (Kd.R_lower (Kd.R_new' (Kd.R_new' ho8 (Kd.R_lt (pR zd.out))) (Kd.R_lt (pR ze.out))) (below_size (qB HB))); replace zd := eR zd ho8 hb; replace ze := eR ze ho8 hb; replace HB := bS (qB HB) hb; clear hb ho8))
 (try simp only [Act.put, sP])
 go_cut [14] (fun v14 wc => ∃ (kq : Nat) (x14_1 : Bool), v14 = .bool x14_1 ∧ Aside0 (gradineref30_Word.j0 kq a0 zc zb za x14_1 = some r) ∧ Aside0 (kq ≤ k) ∧ Aside0 (Kd.R Kd.string 9 wc w.heap.size (fun k_ => some k_ ≠ (zo : Value).ownBlock ∧ some k_ ≠ (zp : Value).ownBlock) zn zc) ∧ Aside0 (Kd.R Kd.string 9 wc w.heap.size (fun k_ => some k_ ≠ (zn : Value).ownBlock ∧ some k_ ≠ (zp : Value).ownBlock) zo zb) ∧ Aside0 (Kd.R Kd.string 9 wc w.heap.size (fun k_ => some k_ ≠ (zn : Value).ownBlock ∧ some k_ ≠ (zo : Value).ownBlock) zp za) ∧ Aside0 (Below w.heap.size w wc))
 case first =>
  have H := HC2.out
  clear HC2
  by_cases c9 : a0 < 1
  ·rw [if_pos c9] at H
   have zi : decide (a0 < 1) = true := decide_eq_true c9
   clear c9
   (first | rw [zi] | (simp only [i64_w, i32_w]; rw [zi]) | skip)
   have H' := aM H
   clear H
   go_wp2
   go_meet
   case rel => exact ⟨_, (true), (pF), H', ⟨by first | omega | exact Nat.le_refl _⟩, ⟨by (with_reducible repeat (first | apply rA | apply rN | apply rD)); exact Kd.R_mono zd.out (fun _ hk => ⟨hk.1.2, hk.2⟩)⟩, ⟨by (with_reducible repeat (first | apply rA | apply rN | apply rD)); exact Kd.R_mono ze.out (fun _ hk => ⟨hk.1.2, hk.2⟩)⟩, ⟨by (with_reducible repeat (first | apply rA | apply rN | apply rD)); exact Kd.R_mono zm.out (fun _ hk => ⟨hk.1.2, hk.2⟩)⟩, ⟨qB HB⟩⟩
  rw [if_neg c9] at H
  have zi : decide (a0 < 1) = false := decide_eq_false c9
  clear c9
  (first | rw [zi] | (simp only [i64_w, i32_w]; rw [zi]) | skip)
  have H' := aM H
  clear H
  go_wp2
  go_meet
  case rel => exact ⟨_, (decide (a0 > 40)), (pF), H', ⟨by first | omega | exact Nat.le_refl _⟩, ⟨by (with_reducible repeat (first | apply rA | apply rN | apply rD)); exact Kd.R_mono zd.out (fun _ hk => ⟨hk.1.2, hk.2⟩)⟩, ⟨by (with_reducible repeat (first | apply rA | apply rN | apply rD)); exact Kd.R_mono ze.out (fun _ hk => ⟨hk.1.2, hk.2⟩)⟩, ⟨by (with_reducible repeat (first | apply rA | apply rN | apply rD)); exact Kd.R_mono zm.out (fun _ hk => ⟨hk.1.2, hk.2⟩)⟩, ⟨qB HB⟩⟩
 case rest =>
  clear HC2
  obtain ⟨kq, x14_1, rfl, HA, HJ1, zq, zr, zs, HB⟩ := hcut
  cases kq with
  | zero => exact absurd HA.out (by simp [gradineref30_Word.j0])
  | succ kj1 =>
   have H := HA.out
   clear HA
   simp only [gradineref30_Word.j0] at H
   by_cases c10 : x14_1 = true
   ·subst c10
    rw [if_pos rfl] at H
    obtain rfl := Option.some.inj H
    go_wp2
    go_ret
    exact ⟨pE, qB HB⟩
   replace c10 := Bool.eq_false_iff.mpr c10
   subst c10
   rw [if_neg (show ¬ (false = true) by decide)] at H
   by_cases c11 : a0 ≤ 16
   ·rw [if_pos c11] at H
    have c11b0 : decide (a0 ≤ 16) = true := decide_eq_true c11
    clear c11
    obtain ⟨ji12, hji12⟩ : ∃ j_ : Int, (wrap64 (a0 - 1)) = j_ := ⟨_, rfl⟩
    replace H : (if 0 ≤ (ji12) then (if (ji12) < (zc.length : Int) then (some (rdOf ByteArray.empty zc (ji12))) else (none)) else (none)) = some r := by first | (rw [hji12] at H; exact H) | (simp only [hji12] at H ⊢; exact H)
    have hji12w : (IntKind.i64.wrap (a0 - 1)) = ji12 := (i64_w _).trans hji12
    by_cases c13 : 0 ≤ (ji12)
    rotate_left
    ·rw [if_neg c13] at H
     exact absurd H (by simp)
    rw [if_pos c13] at H
    have c13b0 : decide (0 ≤ (ji12)) = true := decide_eq_true c13
    clear c13
    by_cases c14 : (ji12) < (zc.length : Int)
    rotate_left
    ·rw [if_neg c14] at H
     exact absurd H (by simp)
    rw [if_pos c14] at H
    have c14b0 : decide ((ji12) < (zc.length : Int)) = true := decide_eq_true c14
    clear c14
    obtain rfl := Option.some.inj H
    obtain ⟨Ao15, co15, eo15⟩ := Kd.R_slice zq.out
    subst eo15
    have p114 : 0 ≤ ((ji12) : Int) := of_decide_eq_true pD
    have q114 : (ji12) < (zc.length : Int) := of_decide_eq_true pD
    obtain ⟨ad114, e114, hx114_0⟩ := Kd.at_string (Kd.R_reads' zq.out).2.2 (ji12) p114 q114
    cases e114
    replace p114 := eq_true p114
    replace q114 := eq_true q114
    go_wp2
    go_ret
    exact ⟨by first | rfl | (simp [errW_none, errW_some] <;> rfl) | (simp only [← hji12]; first | rfl | (simp [errW_none, errW_some] <;> rfl)) | (simp [*, errW_none, errW_some] <;> rfl), qB HB⟩
   rw [if_neg c11] at H
   have c11b0 : decide (a0 ≤ 16) = false := decide_eq_false c11
   clear c11
   by_cases c16 : a0 ≤ 32
   ·rw [if_pos c16] at H
    have c16b0 : decide (a0 ≤ 32) = true := decide_eq_true c16
    clear c16
    obtain ⟨ji17, hji17⟩ : ∃ j_ : Int, (wrap64 (a0 - 17)) = j_ := ⟨_, rfl⟩
    replace H : (if 0 ≤ (ji17) then (if (ji17) < (zb.length : Int) then (some (rdOf ByteArray.empty zb (ji17))) else (none)) else (none)) = some r := by first | (rw [hji17] at H; exact H) | (simp only [hji17] at H ⊢; exact H)
    have hji17w : (IntKind.i64.wrap (a0 - 17)) = ji17 := (i64_w _).trans hji17
    by_cases c18 : 0 ≤ (ji17)
    rotate_left
    ·rw [if_neg c18] at H
     exact absurd H (by simp)
    rw [if_pos c18] at H
    have c18b0 : decide (0 ≤ (ji17)) = true := decide_eq_true c18
    clear c18
    by_cases c19 : (ji17) < (zb.length : Int)
    rotate_left
    ·rw [if_neg c19] at H
     exact absurd H (by simp)
    rw [if_pos c19] at H
    have c19b0 : decide ((ji17) < (zb.length : Int)) = true := decide_eq_true c19
    clear c19
    obtain rfl := Option.some.inj H
    obtain ⟨Ao20, co20, eo20⟩ := Kd.R_slice zr.out
    subst eo20
    have p115 : 0 ≤ ((ji17) : Int) := of_decide_eq_true pD
    have q115 : (ji17) < (zb.length : Int) := of_decide_eq_true pD
    obtain ⟨ad115, e115, hx115_0⟩ := Kd.at_string (Kd.R_reads' zr.out).2.2 (ji17) p115 q115
    cases e115
    replace p115 := eq_true p115
    replace q115 := eq_true q115
    go_wp2
    go_ret
    exact ⟨by first | rfl | (simp [errW_none, errW_some] <;> rfl) | (simp only [← hji17]; first | rfl | (simp [errW_none, errW_some] <;> rfl)) | (simp [*, errW_none, errW_some] <;> rfl), qB HB⟩
   rw [if_neg c16] at H
   have c16b0 : decide (a0 ≤ 32) = false := decide_eq_false c16
   clear c16
   obtain ⟨ji21, hji21⟩ : ∃ j_ : Int, (wrap64 (a0 - 33)) = j_ := ⟨_, rfl⟩
   replace H : (if 0 ≤ (ji21) then (if (ji21) < (za.length : Int) then (some (rdOf ByteArray.empty za (ji21))) else (none)) else (none)) = some r := by first | (rw [hji21] at H; exact H) | (simp only [hji21] at H ⊢; exact H)
   have hji21w : (IntKind.i64.wrap (a0 - 33)) = ji21 := (i64_w _).trans hji21
   by_cases c22 : 0 ≤ (ji21)
   rotate_left
   ·rw [if_neg c22] at H
    exact absurd H (by simp)

   rw [if_pos c22] at H
   have c22b0 : decide (0 ≤ (ji21)) = true := decide_eq_true c22
   clear c22
   by_cases c23 : (ji21) < (za.length : Int)
   rotate_left
   ·rw [if_neg c23] at H
    exact absurd H (by simp)
   rw [if_pos c23] at H
   have c23b0 : decide ((ji21) < (za.length : Int)) = true := decide_eq_true c23
   clear c23
   obtain rfl := Option.some.inj H
   obtain ⟨Ao24, co24, eo24⟩ := Kd.R_slice zs.out
   subst eo24
   have p116 : 0 ≤ ((ji21) : Int) := of_decide_eq_true pD
   have q116 : (ji21) < (za.length : Int) := of_decide_eq_true pD
   obtain ⟨ad116, e116, hx116_0⟩ := Kd.at_string (Kd.R_reads' zs.out).2.2 (ji21) p116 q116
   cases e116
   replace p116 := eq_true p116
   replace q116 := eq_true q116
   go_wp2
   go_ret
   exact ⟨by first | rfl | (simp [errW_none, errW_some] <;> rfl) | (simp only [← hji21]; first | rfl | (simp [errW_none, errW_some] <;> rfl)) | (simp [*, errW_none, errW_some] <;> rfl), qB HB⟩
end Go.Proofs.YthoilhonhjemmaaDoor.Q
