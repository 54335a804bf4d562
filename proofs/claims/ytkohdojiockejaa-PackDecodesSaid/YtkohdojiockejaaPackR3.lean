/- Decode, where the first number is bad or nothing. -/
import Derived.Test.YtkohdojiockejaaQxfPlainBytes
import Derived.Test.YtkohdojiockejaaQxfLaw45Many
import Derived.Test.YtkohdojiockejaaQxfRef45Encode
import Derived.Test.YtkohdojiockejaaPackBits
import Derived.Test.YtkohdojiockejaaPackW0
import Derived.Test.YtkohdojiockejaaPackR0
import Derived.Test.YtkohdojiockejaaPackR1
import Derived.Test.YtkohdojiockejaaPackR2
namespace Go.Proofs.Ytkohdojiockejaa.Q
open Go.RowKit Go.Proofs.YtkohdojiockejaaW.PrintWords Go.Proofs.YtkohdojiockejaaW.PrintLast Go.Proofs.YtkohdojiockejaaW.PrintMore
attribute [local go_sem] max2_int min2_int max_two min_two max_three min_three max_four min_four
set_option linter.unusedVariables false
set_option linter.unusedSimpArgs false
namespace Pk
theorem By_of_R {w : World} {b : Nat} {ok : Nat → Prop} {A : Option Addr} {n c : Nat} {bs : List Int} (h : Kd.R (Kd.int .u8) 5 w b ok (.slice A n c) bs) : By w A bs := by
  intro j x hj
  obtain ⟨rfl, hnc, hC⟩ := Kd.R_reads' h
  have hjl : j < bs.length := (List.getElem?_eq_some_iff.mp hj).1
  obtain ⟨ad, rfl, hx⟩ := Kd.at_int hC (j : Int) (by omega) (by omega)
  obtain ⟨g, rfl⟩ := Kd.R_head h
  obtain ⟨cs, hcs⟩ := Kd.R_typed h g (by simp [Value.ownBlock])
  refine ⟨_, rfl, rfl, ⟨cs, hcs⟩, ?_⟩
  rw [add_at] at hx
  have e : rd bs (j : Int) = x := by simp [rd, hj]
  rw [e] at hx
  simpa using hx
set_option maxHeartbeats 8000000 in
set_option maxRecDepth 100000 in
theorem Decode.bad (A : Option Addr) (c : Nat) (bs : List Int) (w : World) (hC : Kd.C (Kd.int .u8) w A bs.length bs) (hc : bs.length ≤ c) (ok : ∀ x ∈ bs, 0 ≤ x ∧ x < 256) (hl : bs.length ≤ 1000000000) (hr : rdN bs = none) :
 Calls Try.prog 11 #[.slice A bs.length c] w fun e w' => e = .returned (.tuple #[.slice none 0 0, .int .i64 2]) ∧ Below w.heap.size w w' := by
 have hmf : ∀ (fn : Fn) (first cap : Array Value) (w : World), (Instr.makeFunc fn first cap).run Try.prog w = .ok (.func fn first cap) w := fun _ _ _ _ => rfl
 have hu58 := Try.underlying58
 have hu54 := Try.underlying54
 have HC := aM hC
 have HL := aM hl
 have HO := aM ok
 have HR := aM hr
 have HK := aM hc
 clear hC hl ok hr hc
 have HB := aM (Below.refl w.heap.size w)
 go_enter_defers Try.func11, Try.ntmps11
 go_wp2_with (first
  | ((with_reducible refine gate_dst (N := 2) rfl ?_); refine box_event ?hg (N := 2) ?hd (cs := #[.slice .none 0 0]) (t := 22) ?hr ?_; (case hd => rfl); (case hg => rfl); (case hr => first | (go_simp; done) | (go_simp; rfl)); intro po hg w1 hbox hb; have PO := aM hbox; have GO := gE (w := w) hg (qB HB); replace HB := bS (qB HB) hb; clear hb hbox hg)
  | ((with_reducible refine gate_dst (N := 3) rfl ?_); refine box_event ?hg (N := 3) ?hd (cs := #[.int .i64 0]) (t := 26) ?hr ?_; (case hd => rfl); (case hg => rfl); (case hr => first | (go_simp; done) | (go_simp; rfl)); intro pe hg w2 hbox hb; have PE := aM hbox; have GE := gE (w := w) hg (qB HB); replace PO := bK PO hb; replace HB := bS (qB HB) hb; clear hb hbox hg)
  | ((with_reducible refine gate_dst (N := 6) rfl ?_); refine Kd.R_lit (Kd.int .u8) _ 5 ?hg (N := 6) ?hd (xs := ([] : List Int)) (inner := []) (ok := fun _ => True) (okp := fun _ => True) ?hr ?hp (fun _ hk => hk) trivial (Below.refl _ _) (Nat.le_refl _) (by simp) ?_; (case hd => rfl); (case hg => rfl); (case hr => first | (go_simp; done) | (go_simp; rfl)); (case hp => exact Reps.none _ _); intro v3 w3 ho4 hb hg_ hnew_; clear hg_ hnew_; have HX := aM (Kd.R_lower ho4 (below_size (qB HB))); replace PO := bK PO hb; replace PE := bK PE hb; replace HB := bS (qB HB) hb; clear hb ho4)
  | ((with_reducible refine gate_builtin (b := .append) (xs := #[.tmp 6, .tmp 7]) rfl ?_); at_builtin; refine Kd.R_append_rows (Kd.int .u8) (w0 := w) w.heap.size rfl (.tmp 6) (.tmp 7) 25 5 (.int .u8 0) 1 rfl Try.underlying25 info5 rfl (by decide) (by omega) v3 [] bs _ _ _ (fun _ => True) (fun _ => False) rfl rfl ?aO ?aR (fun _ _ h => h) (fun _ h => h.elim) ?aF ?aB ?aS ?aL ?_; (case aR => exact sC HC HB); (case aB => exact (qB HB)); (case aF => exact (fun k_ hk => trivial)); (case aO => exact pR HX.out); (case aS => exact (below_size (qB HB))); (case aL => have := HL.out; simp only [List.length_nil]; omega); intro v4 w4 ho hb hg hat; replace PO := aM (blk_grown (g := po) (pK PO.out) hg (Kd.R_ne HX.out PO.out (by decide))); replace PE := aM (blk_grown (g := pe) (pK PE.out) hg (Kd.R_ne HX.out PE.out (by decide))); replace HB := aM hb; rw [List.nil_append] at ho; obtain ⟨A4, c4, e4⟩ := Kd.R_slice ho; subst e4; have HY := aM ho; clear ho hb hg hat)
  | ((with_reducible refine gate_dst (N := 10) rfl ?_); refine box_event ?hg (N := 10) ?hd (cs := #[.slice A4 bs.length c4]) (t := 58) ?hr ?_; (case hd => rfl); (case hg => rfl); (case hr => first | (go_simp; done) | (go_simp; rfl)); intro gs hg w5 hbox hb; have GS := gE (w := w) hg (qB HB); replace PO := bK PO hb; replace PE := bK PE hb; replace HY := bR HY hb; replace HB := bS (qB HB) hb; have SR : Aside0 (Sr w w5 gs bs) := ⟨⟨A4, c4, hbox, (Kd.R_reads' HY.out).2.1, By_of_R HY.out⟩, GS.out, qB HB, HO.out⟩; clear hb hbox hg)
  | (go_at_call 20; refine (many.calls gs 200 bs w _ SR.out).mono ?_; rw [HR.out]; rintro e w6 ⟨rfl, h1, h2⟩; replace HB := aM h1; replace PO := aM (h2.blk PO.out (by decide)); replace PE := aM (h2.blk PE.out (by decide)); clear h1 h2))
 refine leaves_cons (f := 19) (args := #[.pointer (some ⟨po, 0, .none⟩), .pointer (some ⟨pe, 0, .none⟩)]) (by simp) (by simp [go_sem]) ?_
 refine (catch_stop po pe 2 _ _ _ PO.out PE.out).mono ?_
 rintro e u' w7 ⟨rfl, rfl, h1, h2, h3⟩
 have p1 := blk1 h1
 have p2 := blk1 h2
 have hb := h3 w HB.out GO.out GE.out
 show ∃ v, (results Try.f11 _).run Try.prog w7 = .ok v w7 ∧ (Ending.returned v = _ ∧ _)
 refine ⟨.tuple #[.slice .none 0 0, .int .i64 2], ?_, rfl, hb⟩
 simp [results, Try.results11, go_sem, p1.1, p2.1, p1.2, p2.2]
set_option maxHeartbeats 8000000 in
set_option maxRecDepth 100000 in
theorem Decode.empty (A : Option Addr) (c : Nat) (bs : List Int) (l : List Int) (w : World) (hC : Kd.C (Kd.int .u8) w A bs.length bs) (hc : bs.length ≤ c) (ok : ∀ x ∈ bs, 0 ≤ x ∧ x < 256) (hl : bs.length ≤ 1000000000) (hr : rdN bs = some (0, l)) :
 Calls Try.prog 11 #[.slice A bs.length c] w fun e w' => e = .returned (.tuple #[.slice none 0 0, .int .i64 (if l = [] then 0 else 2)]) ∧ Below w.heap.size w w' := by
 have hmf : ∀ (fn : Fn) (first cap : Array Value) (w : World), (Instr.makeFunc fn first cap).run Try.prog w = .ok (.func fn first cap) w := fun _ _ _ _ => rfl
 have hu58 := Try.underlying58
 have hu54 := Try.underlying54
 have HC := aM hC
 have HL := aM hl
 have HO := aM ok
 have HR := aM hr
 have HK := aM hc
 clear hC hl ok hr hc
 have HB := aM (Below.refl w.heap.size w)
 go_enter_defers Try.func11, Try.ntmps11
 go_wp2_with (first
  | ((with_reducible refine gate_dst (N := 2) rfl ?_); refine box_event ?hg (N := 2) ?hd (cs := #[.slice .none 0 0]) (t := 22) ?hr ?_; (case hd => rfl); (case hg => rfl); (case hr => first | (go_simp; done) | (go_simp; rfl)); intro po hg w1 hbox hb; have PO := aM hbox; have GO := gE (w := w) hg (qB HB); replace HB := bS (qB HB) hb; clear hb hbox hg)
  | ((with_reducible refine gate_dst (N := 3) rfl ?_); refine box_event ?hg (N := 3) ?hd (cs := #[.int .i64 0]) (t := 26) ?hr ?_; (case hd => rfl); (case hg => rfl); (case hr => first | (go_simp; done) | (go_simp; rfl)); intro pe hg w2 hbox hb; have PE := aM hbox; have GE := gE (w := w) hg (qB HB); replace PO := bK PO hb; replace HB := bS (qB HB) hb; clear hb hbox hg)
  | ((with_reducible refine gate_dst (N := 6) rfl ?_); refine Kd.R_lit (Kd.int .u8) _ 5 ?hg (N := 6) ?hd (xs := ([] : List Int)) (inner := []) (ok := fun _ => True) (okp := fun _ => True) ?hr ?hp (fun _ hk => hk) trivial (Below.refl _ _) (Nat.le_refl _) (by simp) ?_; (case hd => rfl); (case hg => rfl); (case hr => first | (go_simp; done) | (go_simp; rfl)); (case hp => exact Reps.none _ _); intro v3 w3 ho4 hb hg_ hnew_; clear hg_ hnew_; have HX := aM (Kd.R_lower ho4 (below_size (qB HB))); replace PO := bK PO hb; replace PE := bK PE hb; replace HB := bS (qB HB) hb; clear hb ho4)
  | ((with_reducible refine gate_builtin (b := .append) (xs := #[.tmp 6, .tmp 7]) rfl ?_); at_builtin; refine Kd.R_append_rows (Kd.int .u8) (w0 := w) w.heap.size rfl (.tmp 6) (.tmp 7) 25 5 (.int .u8 0) 1 rfl Try.underlying25 info5 rfl (by decide) (by omega) v3 [] bs _ _ _ (fun _ => True) (fun _ => False) rfl rfl ?aO ?aR (fun _ _ h => h) (fun _ h => h.elim) ?aF ?aB ?aS ?aL ?_; (case aR => exact sC HC HB); (case aB => exact (qB HB)); (case aF => exact (fun k_ hk => trivial)); (case aO => exact pR HX.out); (case aS => exact (below_size (qB HB))); (case aL => have := HL.out; simp only [List.length_nil]; omega); intro v4 w4 ho hb hg hat; replace PO := aM (blk_grown (g := po) (pK PO.out) hg (Kd.R_ne HX.out PO.out (by decide))); replace PE := aM (blk_grown (g := pe) (pK PE.out) hg (Kd.R_ne HX.out PE.out (by decide))); replace HB := aM hb; rw [List.nil_append] at ho; obtain ⟨A4, c4, e4⟩ := Kd.R_slice ho; subst e4; have HY := aM ho; clear ho hb hg hat)
  | ((with_reducible refine gate_dst (N := 10) rfl ?_); refine box_event ?hg (N := 10) ?hd (cs := #[.slice A4 bs.length c4]) (t := 58) ?hr ?_; (case hd => rfl); (case hg => rfl); (case hr => first | (go_simp; done) | (go_simp; rfl)); intro gs hg w5 hbox hb; have GS := gE (w := w) hg (qB HB); replace PO := bK PO hb; replace PE := bK PE hb; replace HY := bR HY hb; replace HB := bS (qB HB) hb; have SR : Aside0 (Sr w w5 gs bs) := ⟨⟨A4, c4, hbox, (Kd.R_reads' HY.out).2.1, By_of_R HY.out⟩, GS.out, qB HB, HO.out⟩; clear hb hbox hg)
  | (go_at_call 20; refine (many.calls gs 200 bs w _ SR.out).mono ?_; rw [HR.out]; rintro e w6 ⟨rfl, h0, h1⟩; have SL := aM h0; replace HB := aM h0.bel; replace PO := aM (h1.fr.blk PO.out (by decide)); replace PE := aM (h1.fr.blk PE.out (by decide)); clear h0 h1))
 have hne : po ≠ pe := fun e => by have := PO.out; rw [e, PE.out] at this; cases this
 have hen : pe ≠ po := Ne.symm hne
 obtain ⟨⟨A6, c6, g1, g2, _⟩, _⟩ := SL.out
 have gc := blk1 g1
 have po1 := blk1 PO.out
 have pe1 := blk1 PE.out
 have hu58 := Try.underlying58
 go_loopg [13] 1 (fun kq v13 w' => v13 = .int .i64 0 ∧ w' = w6)
 case atStart => exact ⟨rfl, rfl⟩
 case round =>
  obtain ⟨rfl, rfl⟩ := hrel
  cases l with
  | nil =>
   go_wp2
   have PO' := aM (blk_far (p := ⟨pe, 0, .none⟩) (blk_put PO.out 0 (.slice .none 0 0) rfl) hne (.int .i64 0))
   have PE' := aM (blk_put (blk_far (p := ⟨po, 0, .none⟩) PE.out hen (.slice .none 0 0)) 0 (.int .i64 0) rfl)
   have HB' := aM (below_set (j := 0) (v := .int .i64 0) (below_set (j := 0) (v := .slice .none 0 0) HB.out GO.out) GE.out)
   refine leaves_cons (f := 19) (args := #[.pointer (some ⟨po, 0, .none⟩), .pointer (some ⟨pe, 0, .none⟩)]) (by simp) (by simp [go_sem]) ?_
   refine (catch_idle po pe _).mono ?_
   rintro e u' w7 ⟨rfl, rfl, hb⟩
   have p1 := blk1 (blk_below PO'.out hb)
   have p2 := blk1 (blk_below PE'.out hb)
   show ∃ v, (results Try.f11 _).run Try.prog w7 = .ok v w7 ∧ (Ending.returned v = _ ∧ _)
   refine ⟨.tuple #[.slice .none 0 0, .int .i64 0], ?_, rfl, below_step HB'.out hb⟩
   simp [results, Try.results11, go_sem, p1.1, p2.1, p1.2, p2.2]
  | cons b l =>
   obtain ⟨n, hn, hn0⟩ : ∃ n, (b :: l).length = n ∧ 0 < n := ⟨_, rfl, Nat.succ_pos _⟩
   rw [hn] at gc
   have d1 : decide ((n : Int) > 0) = true := decide_eq_true (by omega)
   have d2 : decide (0 < n) = true := decide_eq_true hn0
   clear g1 hn
   go_wp2
   have PO' := aM (blk_far (p := ⟨pe, 0, .none⟩) (blk_put PO.out 0 (.slice .none 0 0) rfl) hne (.int .i64 2))
   have PE' := aM (blk_put (blk_far (p := ⟨po, 0, .none⟩) PE.out hen (.slice .none 0 0)) 0 (.int .i64 2) rfl)
   have HB' := aM (below_set (j := 0) (v := .int .i64 2) (below_set (j := 0) (v := .slice .none 0 0) HB.out GO.out) GE.out)
   refine leaves_cons (f := 19) (args := #[.pointer (some ⟨po, 0, .none⟩), .pointer (some ⟨pe, 0, .none⟩)]) (by simp) (by simp [go_sem]) ?_
   refine (catch_idle po pe _).mono ?_
   rintro e u' w7 ⟨rfl, rfl, hb⟩
   have p1 := blk1 (blk_below PO'.out hb)
   have p2 := blk1 (blk_below PE'.out hb)
   show ∃ v, (results Try.f11 _).run Try.prog w7 = .ok v w7 ∧ (Ending.returned v = _ ∧ _)
   refine ⟨.tuple #[.slice .none 0 0, .int .i64 2], ?_, rfl, below_step HB'.out hb⟩
   simp [results, Try.results11, go_sem, p1.1, p2.1, p1.2, p2.2]
end Pk
end Go.Proofs.Ytkohdojiockejaa.Q
