-- By wip/gprint.py (this session's), out of the kit's print.py.
import Derived.Test.YtjbpekblcecneaaQx0
import Derived.Test.YtjbpekblcecneaaQxfCellsOf
namespace Go.Proofs.Ytjbpekblcecneaa.Q
open Go.RowKit Go.Proofs.YtjbpekblcecneaaW.PrintWords Go.Proofs.YtjbpekblcecneaaW.PrintLast Go.Proofs.YtjbpekblcecneaaW.PrintMore
attribute [local go_sem] max2_int min2_int max_two min_two max_three min_three max_four min_four   -- for this text's walks alone
set_option linter.unusedVariables false
set_option linter.unusedSimpArgs false

/-! ### cells_Span: function 27 (ours) -/
def cells_Span.f (k : Nat) (a0_0 : Int) (l0_1 : List Int) (l0_2 : List Int) : Option (Int × Int × Bool) := (cells_of.f k a0_0 l0_1 l0_2).bind fun s => some (Gr.spn s 0 0 0 false)
set_option maxHeartbeats 8000000 in
set_option maxRecDepth 100000 in
theorem cells_Span.calls (k : Nat) (a0_0 : Int) (A0_1 : Option Addr) (c0_1 : Nat) (l0_1 : List Int) (A0_2 : Option Addr) (c0_2 : Nat) (l0_2 : List Int) (r1 : Int) (r2 : Int) (r3 : Bool) (w : World) (hr0_1 : Kd.C (Kd.int .i64) w A0_1 l0_1.length l0_1) (hc0_1 : l0_1.length ≤ c0_1) (hr0_2 : Kd.C (Kd.int .i64) w A0_2 l0_2.length l0_2) (hc0_2 : l0_2.length ≤ c0_2) (h : cells_Span.f k a0_0 l0_1 l0_2 = some (r1, r2, r3)) :
  Calls Try.prog 27 #[.agg #[.int .i64 a0_0, .slice A0_1 l0_1.length c0_1, .slice A0_2 l0_2.length c0_2]] w fun e w' => e = .returned (.tuple #[.int .i64 r1, .int .i64 r2, .bool r3]) ∧ Below w.heap.size w w' := by
 have hu24 := Try.underlying24
 have HR0_1 := aM hr0_1
 have HC0_1 := aM hc0_1
 clear hr0_1 hc0_1
 have HR0_2 := aM hr0_2
 have HC0_2 := aM hc0_2
 clear hr0_2 hc0_2
 have HB := aM (Below.refl w.heap.size w)
 obtain ⟨s, A20, H⟩ := Option.bind_eq_some_iff.mp h
 clear h
 have A2 := aM A20
 have H' := aM (Option.some.inj H)
 have HS := aM (cells_of.size A20)
 clear A20 H
 go_enter Try.func27, Try.ntmps27
 go_wp2_with (first | ((with_reducible refine gate_dst (N := 1) rfl ?_); refine box_event ?hg (N := 1) ?hd (cs := #[.int .i64 a0_0, .slice A0_1 l0_1.length c0_1, .slice A0_2 l0_2.length c0_2]) (t := 24) ?hr ?_; (case hd => rfl); (case hg => rfl); (case hr => first | (go_simp; done) | (go_simp; rfl)); intro gb771 hg w5 hbox hb; have BK771 := aM (hbox); have GE771 := gE (w := w) hg (qB HB); replace HB := bS (qB HB) hb; clear hb hbox hg; obtain ⟨hcz6_0, hcz6_1, hcz6_2, hfz6_0, hfz6_1, hfz6_2⟩ := blk3 BK771.out) | ((with_reducible refine gate_callee (f := 53) rfl ?_); refine goesL_ (some 11) rfl rfl Try.func53 (by kernel_rfl) rfl #[.agg #[.int .i64 a0_0, .slice A0_1 l0_1.length c0_1, .slice A0_2 l0_2.length c0_2]] rfl pA ?_; (with_reducible refine (cells_of.calls k a0_0 _ _ l0_1 _ _ l0_2 s _ ?s1 ?s2 ?s3 ?s4 A2.out).mono ?_); (case s1 => exact sC HR0_1 HB); (case s2 => exact HC0_1.out); (case s3 => exact sC HR0_2 HB); (case s4 => exact HC0_2.out); rintro e w17 ⟨rfl, hb⟩; refine ⟨_, rfl, ?_⟩; replace BK771 := bK BK771 hb; replace HB := bS (qB1 HB GE771) hb; (try clear hb)))
 clear hcz6_0 hcz6_1 hcz6_2 hfz6_0 hfz6_1 hfz6_2
 go_loopg [5, 6, 7, 12] 64 (fun kq v5 v6 v7 v12 w' => ∃ (i : Nat) (lo hi : Int) (sm : Bool), v5 = .int .i64 lo ∧ v6 = .int .i64 hi ∧ v7 = .bool sm ∧ v12 = .int .i64 (i : Int) ∧ Aside0 (i + kq = 64) ∧ Aside0 (Gr.spn (s.drop i) (i : Int) lo hi sm = (r1, r2, r3)) ∧ Aside0 (w' = w17))
 case atStart => exact ⟨0, 0, 0, false, rfl, rfl, rfl, rfl, ⟨rfl⟩, ⟨by rw [List.drop_zero]; exact H'.out⟩, ⟨rfl⟩⟩
 case round =>
  obtain ⟨i, lo, hi, sm, rfl, rfl, rfl, rfl, HK, HA, HW⟩ := hrel
  obtain rfl := HW.out
  clear HW H'
  cases gk with
  | zero =>
   have hi : i = 64 := by have := HK.out; omega
   subst hi
   have HA1 := HA.out
   rw [List.drop_eq_nil_of_le (by rw [HS.out]; omega), Gr.spn] at HA1
   simp only [Prod.mk.injEq] at HA1
   obtain ⟨rfl, rfl, rfl⟩ := HA1
   clear HA
   go_wp2
   go_ret3
   exact ⟨pE, HB.out⟩
  | succ kq =>
   have hi : i < 64 := by have := HK.out; omega
   have hv := fun w => vals_index s i hi HS.out w
   have c1n : decide (i < 64) = true := decide_eq_true hi
   have c1i : decide ((i : Int) < 64) = true := decide_eq_true (by omega)
   have HA1 := HA.out
   have hx : rd s (i : Int) = s[i]'(by rw [HS.out]; exact hi) := by simp [rd, List.getD_eq_getElem?_getD, List.getElem?_eq_getElem (show i < s.length by rw [HS.out]; exact hi)]
   rw [List.drop_eq_getElem_cons (by rw [HS.out]; exact hi), Gr.spn, ← hx] at HA1
   clear HA hx
   by_cases c2 : rd s (i : Int) = 0
   · rw [if_pos c2] at HA1
     have H1 := aM HA1
     have c2b : (rd s (i : Int) == 0) = true := beq_iff_eq.mpr c2
     have c2d : decide (rd s (i : Int) = 0) = true := decide_eq_true c2
     clear HA1 hi
     go_wp2
     go_roundg kq
     case measure => omega
     case rel => exact ⟨i + 1, lo, _, sm, rfl, rfl, rfl, by first | rfl | (rw [w64o (by have := HK.out; omega) (by have := HK.out; omega)]; rfl), ⟨by have := HK.out; omega⟩, H1, ⟨rfl⟩⟩
   · rw [if_neg c2] at HA1
     have H1 := aM HA1
     have c2b : (rd s (i : Int) == 0) = false := beq_eq_false_iff_ne.mpr c2
     have c2d : decide (rd s (i : Int) = 0) = false := decide_eq_false c2
     clear HA1 hi
     cases sm with
     | true =>
       go_wp2
       go_roundg kq
       case measure => omega
       case rel => exact ⟨i + 1, lo, _, true, rfl, rfl, rfl, by first | rfl | (rw [w64o (by have := HK.out; omega) (by have := HK.out; omega)]; rfl), ⟨by have := HK.out; omega⟩, H1, ⟨rfl⟩⟩
     | false =>
       go_wp2
       go_roundg kq
       case measure => omega
       case rel => exact ⟨i + 1, _, _, true, rfl, rfl, rfl, by first | rfl | (rw [w64o (by have := HK.out; omega) (by have := HK.out; omega)]; rfl), ⟨by have := HK.out; omega⟩, H1, ⟨rfl⟩⟩

end Go.Proofs.Ytjbpekblcecneaa.Q
