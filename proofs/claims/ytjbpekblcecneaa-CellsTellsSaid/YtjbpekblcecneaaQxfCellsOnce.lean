-- By wip/gprint.py (this session's), out of the kit's print.py.
import Derived.Test.YtjbpekblcecneaaQx0
import Derived.Test.YtjbpekblcecneaaQxfCellsOf
import Derived.Test.YtjbpekblcecneaaQxfViewRight
namespace Go.Proofs.Ytjbpekblcecneaa.Q
open Go.RowKit Go.Proofs.YtjbpekblcecneaaW.PrintWords Go.Proofs.YtjbpekblcecneaaW.PrintLast Go.Proofs.YtjbpekblcecneaaW.PrintMore
attribute [local go_sem] max2_int min2_int max_two min_two max_three min_three max_four min_four   -- for this text's walks alone
set_option linter.unusedVariables false
set_option linter.unusedSimpArgs false

/-! ### cells_Once: function 30 (ours) -/
def cells_Once.f (k : Nat) (a0_0 : Int) (l0_1 : List Int) (l0_2 : List Int) : Option Bool := (cells_of.f k a0_0 l0_1 l0_2).bind fun s => if (s.any fun x => decide (x > 1)) = true then some false else view_Right.f k a0_0 l0_1 l0_2 64
set_option maxHeartbeats 8000000 in
set_option maxRecDepth 100000 in
theorem cells_Once.calls (k : Nat) (a0_0 : Int) (A0_1 : Option Addr) (c0_1 : Nat) (l0_1 : List Int) (A0_2 : Option Addr) (c0_2 : Nat) (l0_2 : List Int) (r : Bool) (w : World) (hr0_1 : Kd.C (Kd.int .i64) w A0_1 l0_1.length l0_1) (hc0_1 : l0_1.length ≤ c0_1) (hr0_2 : Kd.C (Kd.int .i64) w A0_2 l0_2.length l0_2) (hc0_2 : l0_2.length ≤ c0_2) (h : cells_Once.f k a0_0 l0_1 l0_2 = some r) :
  Calls Try.prog 30 #[.agg #[.int .i64 a0_0, .slice A0_1 l0_1.length c0_1, .slice A0_2 l0_2.length c0_2]] w fun e w' => e = .returned (.bool r) ∧ Below w.heap.size w w' := by
 have hu24 := Try.underlying24
 have HR0_1 := aM hr0_1
 have HC0_1 := aM hc0_1
 clear hr0_1 hc0_1
 have HR0_2 := aM hr0_2
 have HC0_2 := aM hc0_2
 clear hr0_2 hc0_2
 have HB := aM (Below.refl w.heap.size w)
 obtain ⟨s, A20, H⟩ := Option.bind_eq_some_iff.mp h
 clear h
 have A2 := aM A20
 have H' := aM H
 have HS := aM (cells_of.size A20)
 clear A20 H
 go_enter Try.func30, Try.ntmps30
 go_wp2_with (first | ((with_reducible refine gate_dst (N := 1) rfl ?_); refine box_event ?hg (N := 1) ?hd (cs := #[.int .i64 a0_0, .slice A0_1 l0_1.length c0_1, .slice A0_2 l0_2.length c0_2]) (t := 24) ?hr ?_; (case hd => rfl); (case hg => rfl); (case hr => first | (go_simp; done) | (go_simp; rfl)); intro gb771 hg w5 hbox hb; have BK771 := aM (hbox); have GE771 := gE (w := w) hg (qB HB); replace HB := bS (qB HB) hb; clear hb hbox hg; obtain ⟨hcz6_0, hcz6_1, hcz6_2, hfz6_0, hfz6_1, hfz6_2⟩ := blk3 BK771.out) | ((with_reducible refine gate_callee (f := 53) rfl ?_); refine goesL_ (some 6) rfl rfl Try.func53 (by kernel_rfl) rfl #[.agg #[.int .i64 a0_0, .slice A0_1 l0_1.length c0_1, .slice A0_2 l0_2.length c0_2]] rfl pA ?_; (with_reducible refine (cells_of.calls k a0_0 _ _ l0_1 _ _ l0_2 s _ ?s1 ?s2 ?s3 ?s4 A2.out).mono ?_); (case s1 => exact sC HR0_1 HB); (case s2 => exact HC0_1.out); (case s3 => exact sC HR0_2 HB); (case s4 => exact HC0_2.out); rintro e w17 ⟨rfl, hb⟩; refine ⟨_, rfl, ?_⟩; replace BK771 := bK BK771 hb; replace HB := bS (qB1 HB GE771) hb; (try clear hb)))
 clear hcz6_0 hcz6_1 hcz6_2 hfz6_0 hfz6_1 hfz6_2
 go_loopg [7] 64 (fun kq v7 w' => ∃ (i : Nat), v7 = .int .i64 (i : Int) ∧ Aside0 (i + kq = 64) ∧ Aside0 ((s.take i).any (fun x => decide (x > 1)) = false) ∧ Aside0 (w' = w17))
 case atStart => exact ⟨0, rfl, ⟨rfl⟩, ⟨by simp⟩, ⟨rfl⟩⟩
 case round =>
  obtain ⟨i, rfl, HK, HA, HW⟩ := hrel
  obtain rfl := HW.out
  clear HW
  cases gk with
  | zero =>
   have hi : i = 64 := by have := HK.out; omega
   subst hi
   have HA1 := HA.out
   rw [List.take_of_length_le (by rw [HS.out]; omega)] at HA1
   have H := H'.out
   rw [if_neg (by rw [HA1]; simp)] at H
   have A3 := aM H
   clear H HA1 H'
   obtain ⟨hcz6_0, hcz6_1, hcz6_2, hfz6_0, hfz6_1, hfz6_2⟩ := blk3 BK771.out
   go_wp2_with (first | ((with_reducible refine gate_callee (f := 12) rfl ?_); refine goesL_ (some 14) rfl rfl Try.func12 (by kernel_rfl) rfl #[.agg #[.int .i64 a0_0, .slice A0_1 l0_1.length c0_1, .slice A0_2 l0_2.length c0_2], .int .i64 64] rfl pA ?_; (with_reducible refine (view_Right.calls k a0_0 _ _ l0_1 _ _ l0_2 64 r _ ?s1 ?s2 ?s3 ?s4 A3.out).mono ?_); (case s1 => exact sC HR0_1 HB); (case s2 => exact HC0_1.out); (case s3 => exact sC HR0_2 HB); (case s4 => exact HC0_2.out); rintro e w17 ⟨rfl, hb⟩; refine ⟨_, rfl, ?_⟩; replace BK771 := bK BK771 hb; replace HB := bS (qB1 HB GE771) hb; (try clear hb)))
   go_ret
   exact ⟨pE, HB.out⟩
  | succ kq =>
   have hi : i < 64 := by have := HK.out; omega
   have hv := fun w => vals_index s i hi HS.out w
   have c1n : decide (i < 64) = true := decide_eq_true hi
   have c1i : decide ((i : Int) < 64) = true := decide_eq_true (by omega)
   by_cases c2 : rd s (i : Int) > 1
   · have c2b : decide (1 < rd s (i : Int)) = true := decide_eq_true c2
     have e2 : (s.any fun x => decide (x > 1)) = true := by
       rw [List.any_eq_true]
       refine ⟨s[i]'(by rw [HS.out]; exact hi), List.getElem_mem _, ?_⟩
       rw [show s[i]'(by rw [HS.out]; exact hi) = rd s (i : Int) by simp [rd, List.getD_eq_getElem?_getD, List.getElem?_eq_getElem (show i < s.length by rw [HS.out]; exact hi)]]
       exact c2b
     have H := H'.out
     rw [if_pos e2] at H
     obtain rfl := Option.some.inj H
     clear H H' e2 HA
     go_wp2
     go_ret
     exact ⟨pE, HB.out⟩
   · have c2b : decide (1 < rd s (i : Int)) = false := decide_eq_false c2
     have e2 : ((s.take (i + 1)).any fun x => decide (x > 1)) = false := by
       rw [List.take_succ_eq_append_getElem (by rw [HS.out]; exact hi), List.any_append, HA.out]
       rw [show s[i]'(by rw [HS.out]; exact hi) = rd s (i : Int) by simp [rd, List.getD_eq_getElem?_getD, List.getElem?_eq_getElem (show i < s.length by rw [HS.out]; exact hi)]]
       simp only [Bool.false_or, List.any_cons, List.any_nil, Bool.or_false]
       exact c2b
     have H1 := aM e2
     clear e2 HA
     go_wp2
     go_roundg kq
     case measure => omega
     case rel => exact ⟨i + 1, by first | rfl | (rw [w64o (by have := HK.out; omega) (by have := HK.out; omega)]; rfl), ⟨by have := HK.out; omega⟩, H1, ⟨rfl⟩⟩

end Go.Proofs.Ytjbpekblcecneaa.Q
