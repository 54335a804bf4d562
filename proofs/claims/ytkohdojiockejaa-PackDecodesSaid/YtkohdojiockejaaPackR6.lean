/- Decode. -/
import Derived.Test.YtkohdojiockejaaQxfPlainBytes
import Derived.Test.YtkohdojiockejaaQxfLaw45Many
import Derived.Test.YtkohdojiockejaaQxfRef45Encode
import Derived.Test.YtkohdojiockejaaPackBits
import Derived.Test.YtkohdojiockejaaPackW0
import Derived.Test.YtkohdojiockejaaPackW1
import Derived.Test.YtkohdojiockejaaPackW2
import Derived.Test.YtkohdojiockejaaPackW3
import Derived.Test.YtkohdojiockejaaPackR0
import Derived.Test.YtkohdojiockejaaPackR1
import Derived.Test.YtkohdojiockejaaPackR2
import Derived.Test.YtkohdojiockejaaPackR3
import Derived.Test.YtkohdojiockejaaPackR4
import Derived.Test.YtkohdojiockejaaPackR5
namespace Go.Proofs.Ytkohdojiockejaa.Q
open Go.RowKit Go.Proofs.YtkohdojiockejaaW.PrintWords Go.Proofs.YtkohdojiockejaaW.PrintLast Go.Proofs.YtkohdojiockejaaW.PrintMore
attribute [local go_sem] max2_int min2_int max_two min_two max_three min_three max_four min_four
set_option linter.unusedVariables false
set_option linter.unusedSimpArgs false
namespace Pk
def rcs : Nat → List Int → Rd (List S45)
  | 0, bs => .ok [] bs
  | k + 1, bs => (rc bs).next fun c l => (rcs k l).next fun cs l' => .ok (c :: cs) l'
/-- All of the commands. -/
def ra (bs : List Int) : Rd (List S45) := (rm 200 bs).next fun n l => rcs n.toNat l
def decL (bs : List Int) : List S45 := match ra bs with
  | .ok cs [] => cs
  | _ => []
def decE (bs : List Int) : Int := match ra bs with
  | .ok _ [] => 0
  | .ok _ (_ :: _) => 2
  | .bad k => k
theorem info45 : (Try.prog.info? 45).map (fun i => (i.zero, i.size, i.bytes)) = some (some (.agg #[.int .i64 0, .int .i64 0, .int .i64 0, .slice .none 0 0, .int .i64 0, .int .i64 0, .int .i64 0, .int .i64 0, .int .i64 0, .int .i64 0, .int .i64 0, .int .i64 0, .bool false, .slice .none 0 0, .slice .none 0 0, .slice .none 0 0, .bool false]), 17, 200) := by kernel_rfl
theorem leaves_tmps {P : Program} {fn : Func} {t t' : Array Value} {R : Ending → World → Prop} (he : results fn t = results fn t') : ∀ (ds : List Deferred) (u : FrameMode) (w : World), Leaves P fn t R ds u w → Leaves P fn t' R ds u w
  | [], .returning, w, h => by
    unfold Leaves at h ⊢
    rw [← he]
    exact h
  | [], .panicking c, w, h => h
  | [], .run, w, h => h
  | d :: ds, u, w, h => by
    unfold Leaves at h ⊢
    obtain ⟨h1, fv, cap, f, args, h2, h3, h4⟩ := h
    refine ⟨h1, fv, cap, f, args, h2, h3, h4.mono ?_⟩
    intro e u' w' h5
    cases e with
    | returned v => exact leaves_tmps he ds _ _ h5
    | panicked c => exact leaves_tmps he ds _ _ h5
    | outgrown => exact h5
theorem res11 (t : Array Value) (n : Nat) (v : Value) (h2 : n ≠ 2) (h3 : n ≠ 3) : results Try.f11 (t.setIfInBounds n v) = results Try.f11 t := by
  simp [results, Try.results11, Array.getElem?_setIfInBounds, h2, h3]
theorem leaves_put (R : Ending → World → Prop) (n : Nat) (h2 : n ≠ 2) (h3 : n ≠ 3) (c : List PanicEntry) (v : Value) (a : Act) (w : World) (h : bodyPostD Try.prog Try.f11 R (.panic c) (a.put (some n) v) w) : bodyPostD Try.prog Try.f11 R (.panic c) a w :=
  leaves_tmps (res11 a.tmps n v h2 h3) _ _ _ h
theorem len17 {l : List Value} (h : l.length = 17) : ∃ a0 a1 a2 a3 a4 a5 a6 a7 a8 a9 a10 a11 a12 a13 a14 a15 a16, l = [a0, a1, a2, a3, a4, a5, a6, a7, a8, a9, a10, a11, a12, a13, a14, a15, a16] := by
  match l, h with
  | [a0, a1, a2, a3, a4, a5, a6, a7, a8, a9, a10, a11, a12, a13, a14, a15, a16], _ => exact ⟨a0, a1, a2, a3, a4, a5, a6, a7, a8, a9, a10, a11, a12, a13, a14, a15, a16, rfl⟩
def dd.T5 : Bool × List (List Nat × List Nat) := (true, [([], []), ([], []), ([1], [1]), ([2], [2]), ([0, 3, 2], [0, 3]), ([4, 4, 0, 1, 2, 3, 4], [4])])
def dd.B5 : List Nat := [0, 0, 2, 6, 15, 31]
theorem dd.tab5 : rtab .any (opsOf Try.f11 5) = dd.T5 := by kernel_rfl
theorem dd.bits5 : waitsOk dd.T5.2 dd.B5 = true := by kernel_rfl
set_option maxHeartbeats 32000000 in
set_option maxRecDepth 100000 in
theorem Decode.rd (A : Option Addr) (c : Nat) (bs : List Int) (w : World) (hC : Kd.C (Kd.int .u8) w A bs.length bs) (hc : bs.length ≤ c) (ok : ∀ x ∈ bs, 0 ≤ x ∧ x < 256) (hl : bs.length ≤ 1000000000) : Calls Try.prog 11 #[.slice A bs.length c] w fun e w' => ∃ v, e = .returned (.tuple #[v, .int .i64 (decE bs)]) ∧ k45.R 45 w' w.heap.size (fun _ => True) v (decL bs) ∧ Below w.heap.size w w' := by
 unfold decE decL ra
 have hr : True := trivial
 have hmf : ∀ (fn : Fn) (first cap : Array Value) (w : World), (Instr.makeFunc fn first cap).run Try.prog w = .ok (.func fn first cap) w := fun _ _ _ _ => rfl
 have hu58 := Try.underlying58
 have hu54 := Try.underlying54
 have HC := aM hC
 have HL := aM hl
 have HO := aM ok
 have HR := aM hr
 have HK := aM hc
 clear hC hl ok hr hc
 have HB := aM (Below.refl w.heap.size w)
 have hc := fun gs w_ => many.rd gs 200 bs w w_
 cases hr0 : rm 200 bs with
 | bad kz =>
  simp only [next_bad]
  have hc' := fun gs w_ => (by have h_ := hc gs w_; rw [hr0] at h_; exact h_ : Sr w w_ gs bs → Calls Try.prog 20 #[.pointer (some ⟨gs, 0, .none⟩), .int .i64 200] w_ (Stops kz w w_))
  have HCC := aM hc'
  clear hc hc' hr0
  go_enter_defers Try.func11, Try.ntmps11
  go_wp2_with (first
   | ((with_reducible refine gate_dst (N := 2) rfl ?_); refine box_event ?hg (N := 2) ?hd (cs := #[.slice .none 0 0]) (t := 22) ?hr ?_; (case hd => rfl); (case hg => rfl); (case hr => first | (go_simp; done) | (go_simp; rfl)); intro po hg w1 hbox hb; have PO := aM hbox; have GO := gE (w := w) hg (qB HB); replace HB := bS (qB HB) hb; clear hb hbox hg)
   | ((with_reducible refine gate_dst (N := 3) rfl ?_); refine box_event ?hg (N := 3) ?hd (cs := #[.int .i64 0]) (t := 26) ?hr ?_; (case hd => rfl); (case hg => rfl); (case hr => first | (go_simp; done) | (go_simp; rfl)); intro pe hg w2 hbox hb; have PE := aM hbox; have GE := gE (w := w) hg (qB HB); replace PO := bK PO hb; replace HB := bS (qB HB) hb; clear hb hbox hg)
   | ((with_reducible refine gate_dst (N := 6) rfl ?_); refine Kd.R_lit (Kd.int .u8) _ 5 ?hg (N := 6) ?hd (xs := ([] : List Int)) (inner := []) (ok := fun _ => True) (okp := fun _ => True) ?hr ?hp (fun _ hk => hk) trivial (Below.refl _ _) (Nat.le_refl _) (by simp) ?_; (case hd => rfl); (case hg => rfl); (case hr => first | (go_simp; done) | (go_simp; rfl)); (case hp => exact Reps.none _ _); intro v3 w3 ho4 hb hg_ hnew_; clear hg_ hnew_; have HX := aM (Kd.R_lower ho4 (below_size (qB HB))); replace PO := bK PO hb; replace PE := bK PE hb; replace HB := bS (qB HB) hb; clear hb ho4)
   | ((with_reducible refine gate_builtin (b := .append) (xs := #[.tmp 6, .tmp 7]) rfl ?_); at_builtin; refine Kd.R_append_rows (Kd.int .u8) (w0 := w) w.heap.size rfl (.tmp 6) (.tmp 7) 25 5 (.int .u8 0) 1 rfl Try.underlying25 info5 rfl (by decide) (by omega) v3 [] bs _ _ _ (fun _ => True) (fun _ => False) rfl rfl ?aO ?aR (fun _ _ h => h) (fun _ h => h.elim) ?aF ?aB ?aS ?aL ?_; (case aR => exact sC HC HB); (case aB => exact (qB HB)); (case aF => exact (fun k_ hk => trivial)); (case aO => exact pR HX.out); (case aS => exact (below_size (qB HB))); (case aL => have := HL.out; simp only [List.length_nil]; omega); intro v4 w4 ho hb hg hat; replace PO := aM (blk_grown (g := po) (pK PO.out) hg (Kd.R_ne HX.out PO.out (by decide))); replace PE := aM (blk_grown (g := pe) (pK PE.out) hg (Kd.R_ne HX.out PE.out (by decide))); replace HB := aM hb; rw [List.nil_append] at ho; obtain ⟨A4, c4, e4⟩ := Kd.R_slice ho; subst e4; have HY := aM ho; clear ho hb hg hat)
   | ((with_reducible refine gate_dst (N := 10) rfl ?_); refine box_event ?hg (N := 10) ?hd (cs := #[.slice A4 bs.length c4]) (t := 58) ?hr ?_; (case hd => rfl); (case hg => rfl); (case hr => first | (go_simp; done) | (go_simp; rfl)); intro gs hg w5 hbox hb; have GS := gE (w := w) hg (qB HB); replace PO := bK PO hb; replace PE := bK PE hb; replace HY := bR HY hb; replace HB := bS (qB HB) hb; have SR : Aside0 (Sr w w5 gs bs) := ⟨⟨A4, c4, hbox, (Kd.R_reads' HY.out).2.1, By_of_R HY.out⟩, GS.out, qB HB, HO.out⟩; clear hb hbox hg)
   | (go_at_call 20; refine (HCC.out gs _ SR.out).mono ?_; rintro e w6 ⟨rfl, h1, h2⟩; replace HB := aM h1; replace PO := aM (h2.blk PO.out (by decide)); replace PE := aM (h2.blk PE.out (by decide)); clear h1 h2))
  refine leaves_cons (f := 19) (args := #[.pointer (some ⟨po, 0, .none⟩), .pointer (some ⟨pe, 0, .none⟩)]) (by simp) (by simp [go_sem]) ?_
  refine (catch_stop po pe kz _ _ _ PO.out PE.out).mono ?_
  rintro e u' w7 ⟨rfl, rfl, h1, h2, h3⟩
  have p1 := blk1 h1
  have p2 := blk1 h2
  have hb := h3 w HB.out GO.out GE.out
  show ∃ v, (results Try.f11 _).run Try.prog w7 = .ok v w7 ∧ ∃ v', Ending.returned v = _ ∧ _
  refine ⟨.tuple #[.slice .none 0 0, .int .i64 kz], ?_, _, rfl, Kd.R_nil _ _ _ _ _, hb⟩
  simp [results, Try.results11, go_sem, p1.1, p2.1, p1.2, p2.2]
 | ok n l =>
  rw [next_ok]
  have HN := aM (rm_range hr0)
  obtain ⟨m, rfl⟩ : ∃ m : Nat, n = (m : Int) := ⟨n.toNat, by have := HN.out.1; omega⟩
  rw [Int.toNat_natCast]
  have HM : Aside0 (m ≤ 200) := ⟨by have := HN.out.2; omega⟩
  have hc' := fun gs w_ => (by have h_ := hc gs w_; rw [hr0] at h_; exact h_ : Sr w w_ gs bs → Calls Try.prog 20 #[.pointer (some ⟨gs, 0, .none⟩), .int .i64 200] w_ (PR w w_ gs (fun _ x v => v = .int .i64 x) (.ok (m : Int) l)))
  have HCC := aM hc'
  clear hc hc' hr0 HN
  obtain ⟨r, hr⟩ : ∃ r, rcs m l = r := ⟨_, rfl⟩
  rw [hr]
  have HR := aM hr
  clear hr
  go_enter_defers Try.func11, Try.ntmps11
  go_wp2_with (first
   | ((with_reducible refine gate_dst (N := 2) rfl ?_); refine box_event ?hg (N := 2) ?hd (cs := #[.slice .none 0 0]) (t := 22) ?hr ?_; (case hd => rfl); (case hg => rfl); (case hr => first | (go_simp; done) | (go_simp; rfl)); intro po hg w1 hbox hb; have PO := aM hbox; have GO := gE (w := w) hg (qB HB); replace HB := bS (qB HB) hb; clear hb hbox hg)
   | ((with_reducible refine gate_dst (N := 3) rfl ?_); refine box_event ?hg (N := 3) ?hd (cs := #[.int .i64 0]) (t := 26) ?hr ?_; (case hd => rfl); (case hg => rfl); (case hr => first | (go_simp; done) | (go_simp; rfl)); intro pe hg w2 hbox hb; have PE := aM hbox; have GE := gE (w := w) hg (qB HB); replace PO := bK PO hb; replace HB := bS (qB HB) hb; clear hb hbox hg)
   | ((with_reducible refine gate_dst (N := 6) rfl ?_); refine Kd.R_lit (Kd.int .u8) _ 5 ?hg (N := 6) ?hd (xs := ([] : List Int)) (inner := []) (ok := fun _ => True) (okp := fun _ => True) ?hr ?hp (fun _ hk => hk) trivial (Below.refl _ _) (Nat.le_refl _) (by simp) ?_; (case hd => rfl); (case hg => rfl); (case hr => first | (go_simp; done) | (go_simp; rfl)); (case hp => exact Reps.none _ _); intro v3 w3 ho4 hb hg_ hnew_; clear hg_ hnew_; have HX := aM (Kd.R_lower ho4 (below_size (qB HB))); replace PO := bK PO hb; replace PE := bK PE hb; replace HB := bS (qB HB) hb; clear hb ho4)
   | ((with_reducible refine gate_builtin (b := .append) (xs := #[.tmp 6, .tmp 7]) rfl ?_); at_builtin; refine Kd.R_append_rows (Kd.int .u8) (w0 := w) w.heap.size rfl (.tmp 6) (.tmp 7) 25 5 (.int .u8 0) 1 rfl Try.underlying25 info5 rfl (by decide) (by omega) v3 [] bs _ _ _ (fun _ => True) (fun _ => False) rfl rfl ?aO ?aR (fun _ _ h => h) (fun _ h => h.elim) ?aF ?aB ?aS ?aL ?_; (case aR => exact sC HC HB); (case aB => exact (qB HB)); (case aF => exact (fun k_ hk => trivial)); (case aO => exact pR HX.out); (case aS => exact (below_size (qB HB))); (case aL => have := HL.out; simp only [List.length_nil]; omega); intro v4 w4 ho hb hg hat; replace PO := aM (blk_grown (g := po) (pK PO.out) hg (Kd.R_ne HX.out PO.out (by decide))); replace PE := aM (blk_grown (g := pe) (pK PE.out) hg (Kd.R_ne HX.out PE.out (by decide))); replace HB := aM hb; rw [List.nil_append] at ho; obtain ⟨A4, c4, e4⟩ := Kd.R_slice ho; subst e4; have HY := aM ho; clear ho hb hg hat)
   | ((with_reducible refine gate_dst (N := 10) rfl ?_); refine box_event ?hg (N := 10) ?hd (cs := #[.slice A4 bs.length c4]) (t := 58) ?hr ?_; (case hd => rfl); (case hg => rfl); (case hr => first | (go_simp; done) | (go_simp; rfl)); intro gs hg w5 hbox hb; have GS := gE (w := w) hg (qB HB); replace PO := bK PO hb; replace PE := bK PE hb; replace HY := bR HY hb; replace HB := bS (qB HB) hb; have SR : Aside0 (Sr w w5 gs bs) := ⟨⟨A4, c4, hbox, (Kd.R_reads' HY.out).2.1, By_of_R HY.out⟩, GS.out, qB HB, HO.out⟩; clear hb hbox hg)
   | (go_at_call 20; refine (HCC.out gs _ SR.out).mono ?_; rintro e w6 ⟨_, rfl, rfl, h1, h2⟩; have SL := aM h1; replace PO := aM (h2.fr.blk PO.out (by decide)); replace PE := aM (h2.fr.blk PE.out (by decide)); replace HB := aM h1.bel; clear h1 h2))
  have hne : po ≠ pe := fun e => by have := PO.out; rw [e, PE.out] at this; cases this
  have hen : pe ≠ po := Ne.symm hne
  clear HX HY SR HCC HC
  go_loopg [13] m (fun kq v13 w' => ∃ (i : Nat) (cs : List S45) (br : List Int) (vo : Value), v13 = .int .i64 (i : Int) ∧ Aside0 (i + kq = m) ∧ Aside0 (cs.length = i) ∧ Aside0 ((rcs kq br).next (fun ys l => .ok (cs ++ ys) l) = r) ∧ Aside0 (Sr w w' gs br) ∧ Aside0 (w'.heap[po]? = some (.cells #[vo] 22 (0, 0))) ∧ Aside0 (w'.heap[pe]? = some (.cells #[.int .i64 0] 26 (0, 0))) ∧ Aside0 (k45.R 45 w' w.heap.size (fun _ => True) vo cs))
  case atStart => exact ⟨0, [], l, .slice .none 0 0, rfl, ⟨by omega⟩, ⟨rfl⟩, ⟨by rw [← HR.out]; cases rcs m l <;> rfl⟩, SL, PO, PE, ⟨pN⟩⟩
  case round =>
   clear SL PO PE HB HR
   obtain ⟨i, cs, br, vo, rfl, HI, HLN, HR, SL, PO, PE, HX⟩ := hrel
   have HB := aM SL.out.bel
   obtain ⟨Av, cv, ev⟩ := Kd.R_slice HX.out
   subst ev
   cases gk with
   | zero =>
    obtain rfl : i = m := by have := HI.out; omega
    have d1 : decide ((i : Int) < (i : Int)) = false := decide_eq_false (by omega)
    have d2 : decide (i < i) = false := decide_eq_false (by omega)
    obtain rfl : r = .ok cs br := by have := HR.out; rw [rcs, next_ok, List.append_nil] at this; exact this.symm
    clear HR
    obtain ⟨⟨A6, c6, g1, g2, _⟩, _⟩ := SL.out
    have gc := blk1 g1
    have po1 := blk1 PO.out
    have pe1 := blk1 PE.out
    have hu58 := Try.underlying58
    cases br with
    | nil =>
     go_wp2
     have PO' := aM (blk_far (p := ⟨pe, 0, .none⟩) (blk_put PO.out 0 (.slice Av cs.length cv) rfl) hne (.int .i64 0))
     have PE' := aM (blk_put (blk_far (p := ⟨po, 0, .none⟩) PE.out hen (.slice Av cs.length cv)) 0 (.int .i64 0) rfl)
     have HB' := aM (below_set (j := 0) (v := .int .i64 0) (below_set (j := 0) (v := .slice Av cs.length cv) HB.out GO.out) GE.out)
     refine leaves_cons (f := 19) (args := #[.pointer (some ⟨po, 0, .none⟩), .pointer (some ⟨pe, 0, .none⟩)]) (by simp) (by simp [go_sem]) ?_
     refine (catch_idle po pe _).mono ?_
     rintro e u' w7 ⟨rfl, rfl, hb⟩
     have p1 := blk1 (blk_below PO'.out hb)
     have p2 := blk1 (blk_below PE'.out hb)
     show ∃ v, (results Try.f11 _).run Try.prog w7 = .ok v w7 ∧ ∃ v', Ending.returned v = _ ∧ _
     refine ⟨.tuple #[.slice Av cs.length cv, .int .i64 0], ?_, _, rfl, Kd.R_below (R_fr (R_fr HX.out (Fr.set (Fr.refl [22, 26] _) PO.out (by simp)) (by decide)) (Fr.set (Fr.refl [22, 26] _) (blk_far (p := ⟨po, 0, .none⟩) PE.out hen (.slice Av cs.length cv)) (by simp)) (by decide)) hb, below_step HB'.out hb⟩
     simp [results, Try.results11, go_sem, p1.1, p2.1, p1.2, p2.2]
    | cons b br =>
     obtain ⟨n, hn, hn0⟩ : ∃ n, (b :: br).length = n ∧ 0 < n := ⟨_, rfl, Nat.succ_pos _⟩
     rw [hn] at gc
     have e1 : decide ((n : Int) > 0) = true := decide_eq_true (by omega)
     have e2 : decide (0 < n) = true := decide_eq_true hn0
     clear g1 hn
     go_wp2
     have PO' := aM (blk_far (p := ⟨pe, 0, .none⟩) (blk_put PO.out 0 (.slice .none 0 0) rfl) hne (.int .i64 2))
     have PE' := aM (blk_put (blk_far (p := ⟨po, 0, .none⟩) PE.out hen (.slice .none 0 0)) 0 (.int .i64 2) rfl)
     have HB' := aM (below_set (j := 0) (v := .int .i64 2) (below_set (j := 0) (v := .slice .none 0 0) HB.out GO.out) GE.out)
     refine leaves_cons (f := 19) (args := #[.pointer (some ⟨po, 0, .none⟩), .pointer (some ⟨pe, 0, .none⟩)]) (by simp) (by simp [go_sem]) ?_
     refine (catch_idle po pe _).mono ?_
     rintro e u' w7 ⟨rfl, rfl, hb⟩
     have p1 := blk1 (blk_below PO'.out hb)
     have p2 := blk1 (blk_below PE'.out hb)
     show ∃ v, (results Try.f11 _).run Try.prog w7 = .ok v w7 ∧ ∃ v', Ending.returned v = _ ∧ _
     refine ⟨.tuple #[.slice .none 0 0, .int .i64 2], ?_, _, rfl, Kd.R_nil _ _ _ _ _, below_step HB'.out hb⟩
     simp [results, Try.results11, go_sem, p1.1, p2.1, p1.2, p2.2]
   | succ kq =>
    have d1 : decide ((i : Int) < (m : Int)) = true := decide_eq_true (by have := HI.out; omega)
    have d2 : decide (i < m) = true := decide_eq_true (by have := HI.out; omega)
    have HR1 := HR.out
    rw [rcs] at HR1
    have hc := fun w_ => command.rd gs br w w_
    go_wp2
    have po1 := aM (blk_below PO.out (Below.refl _ _).drew)
    replace PO := po1
    clear po1
    replace PE := aM (blk_below PE.out (Below.refl _ _).drew)
    replace HX := aM (Kd.R_below HX.out (Below.refl _ _).drew)
    replace SL := aM (SL.out.step (Below.refl _ _).drew)
    replace HB := aM SL.out.bel
    cases hl : rc br with
    | bad kk =>
     rw [hl] at HR1
     obtain rfl : r = .bad kk := HR1.symm
     have HC2 := aM (fun w_ => (by have h_ := hc w_; rw [hl] at h_; exact h_ : Sr w w_ gs br → Calls Try.prog 21 #[.pointer (some ⟨gs, 0, .none⟩)] w_ (Stops kk w w_)))
     clear HR1 HR hl hc
     refine start_ (n := 6) (S := fun w' => w'.cell? ⟨po, 0, .none⟩ = some (.slice Av cs.length cv)) (ds := [5]) (bm 6 0) (by kernel_rfl) rfl rfl ((blk1 PO.out).1) (fun hHeld => ?_); refine with_tabW dd.tab5 dd.bits5 (fun HT_ HW_ => ?_)
     generalize wr.drew = wd at PO PE HX SL HB hHeld ⊢
     refine pP (i := 1) (N := some 16) (bm 6 2) rfl rfl HT_.out (hQ := by exact fun c a w h => leaves_put _ 16 (by decide) (by decide) c _ a w h) ?_
     refine pT (i := 0) (N := some 15) (bm 6 3) rfl rfl HT_.out HW_.out hHeld (by rintro w' s0; go_simp; with_reducible rfl) (hQ := by exact fun c a w h => leaves_put _ 15 (by decide) (by decide) c _ a w h) ?_
     refine one_ (i := 2) (N := some 17) (bm 6 7) rfl rfl (one_of HT_.out (by kernel_rfl)) (by decide) (fun K hK => ?_)
     refine fails_ Try.func21 (by kernel_rfl) rfl #[.pointer (some ⟨gs, 0, .none⟩)] (by rfl) rfl rfl (by first | rfl | (simp [Act.eval]; done)) ?_
     refine (HC2.out _ SL.out).mono ?_
     rintro e w9 ⟨rfl, h1, h2⟩
     replace HB := aM h1
     replace PO := aM (h2.blk PO.out (by decide))
     replace PE := aM (h2.blk PE.out (by decide))
     refine ⟨_, rfl, ?_⟩
     refine leaves_cons (f := 19) (args := #[.pointer (some ⟨po, 0, .none⟩), .pointer (some ⟨pe, 0, .none⟩)]) (by simp) (by simp [go_sem]) ?_
     refine (catch_stop po pe kk _ _ _ PO.out PE.out).mono ?_
     rintro e u' w7 ⟨rfl, rfl, h1, h2, h3⟩
     have p1 := blk1 h1
     have p2 := blk1 h2
     have hb := h3 w HB.out GO.out GE.out
     show ∃ v, (results Try.f11 _).run Try.prog w7 = .ok v w7 ∧ ∃ v', Ending.returned v = _ ∧ _
     refine ⟨.tuple #[.slice .none 0 0, .int .i64 kk], ?_, _, rfl, Kd.R_nil _ _ _ _ _, hb⟩
     simp [results, Try.results11, go_sem, p1.1, p2.1, p1.2, p2.2]
    | ok cmd l2 =>
     rw [hl, next_ok] at HR1
     rw [hl] at hc
     have HC2 := aM hc
     have HR2 := aM HR1
     clear HR1 HR hl hc
     refine start_ (n := 6) (S := fun w' => w'.cell? ⟨po, 0, .none⟩ = some (.slice Av cs.length cv)) (ds := [5]) (bm 6 0) (by kernel_rfl) rfl rfl ((blk1 PO.out).1) (fun hHeld => ?_); refine with_tabW dd.tab5 dd.bits5 (fun HT_ HW_ => ?_)
     generalize wr.drew = wd at PO PE HX SL HB hHeld ⊢
     refine pP (i := 1) (N := some 16) (bm 6 2) rfl rfl HT_.out (hQ := by exact fun c a w h => leaves_put _ 16 (by decide) (by decide) c _ a w h) ?_
     refine pT (i := 0) (N := some 15) (bm 6 3) rfl rfl HT_.out HW_.out hHeld (by rintro w' s0; go_simp; with_reducible rfl) (hQ := by exact fun c a w h => leaves_put _ 15 (by decide) (by decide) c _ a w h) ?_
     refine one_ (i := 2) (N := some 17) (bm 6 7) rfl rfl (one_of HT_.out (by kernel_rfl)) (by decide) (fun K hK => ?_)
     refine goes_ Try.func21 (by kernel_rfl) rfl #[.pointer (some ⟨gs, 0, .none⟩)] (by rfl) rfl rfl pA ?_
     refine (HC2.out _ SL.out).mono ?_
     rintro e w5 ⟨_, rfl, ⟨ce, rfl, hM⟩, h1, h2⟩
     refine ⟨_, rfl, ?_⟩
     have HM2 := aM (k45.M_mono (fun k hk => hk.2.1) (k45.M_bound hM))
     have HLT := aM (Kd.R_lt HX.out)
     have GS := aM SL.out.bel.size
     replace HX := aM (R_fr HX.out h2.fr (by decide))
     replace PO := aM (h2.fr.blk PO.out (by decide))
     replace PE := aM (h2.fr.blk PE.out (by decide))
     replace SL := aM h1
     replace HB := aM h1.bel
     have HM3 := aM (k45.M_lower GS.out HM2.out)
     have hlc := k45.K_len (k45.K_of_M hM)
     clear h1 h2 hM
     refine hK.out _ _ ((blk1 PO.out).1) (fun hHeld => ?_)
     clear hK K
     refine norm_ (a' := ?_) ?_ ?_
     rotate_left
     ·show Act.put _ (some 17) _ = _
      simp only [Act.put, sP, i64_w, i32_w]
      rfl
     refine one_ (i := 3) (N := some 18) (bm 6 15) rfl rfl (one_of HT_.out (by kernel_rfl)) (by decide) (fun K hK => ?_)
     refine value_ (w1 := w5.alloc (.cells ce.toArray 45 (0, 0))) (v := .slice (some ⟨w5.heap.size, 0, .none⟩) 1 1) (by rfl) rfl ?hrun ?_
     case hrun =>
      obtain ⟨t0, t1, t2, t3, t4, t5, t6, t7, t8, t9, t10, t11, t12, t13, t14, t15, t16, rfl⟩ := len17 hlc
      first | (go_simp; done) | (go_simp; rfl)
     have POa := aM (blk_below PO.out (below_alloc (Below.refl _ _) (.cells ce.toArray 45 (0, 0))))
     refine hK.out _ _ ((blk1 POa.out).1) (fun hHeld => ?_)
     clear hK K
     refine norm_ (a' := ?_) ?_ ?_
     rotate_left
     ·show Act.put _ (some 18) _ = _
      simp only [Act.put, sP, i64_w, i32_w]
      rfl
     refine one_ (i := 4) (N := some 19) (bm 6 31) rfl rfl (one_of HT_.out (by kernel_rfl)) (by decide) (fun K hK => ?_)
     refine Kd.R_append_step k45 (w0 := w5) w.heap.size (by rfl) (.tmp 15) (.tmp 18) 22 45 (.agg #[.int .i64 0, .int .i64 0, .int .i64 0, .slice .none 0 0, .int .i64 0, .int .i64 0, .int .i64 0, .int .i64 0, .int .i64 0, .int .i64 0, .int .i64 0, .int .i64 0, .bool false, .slice .none 0 0, .slice .none 0 0, .slice .none 0 0, .bool false]) 200 rfl Try.underlying22 info45 rfl (by show 0 < 17; decide) (by omega) (.slice Av cs.length cv) cs cmd ce (fun _ => True) (fun k => wd.heap.size ≤ k) rfl rfl HM3.out (fun k hk => ⟨trivial, fun he => by have := HLT.out k he.symm; omega⟩) (fun _ _ => trivial) HX.out (Below.refl _ _) HB.out.size (by have := HLN.out; have := HI.out; have := HM.out; omega) ?_
     intro v1 w6 ho hb hg hat
     replace PO := aM (blk_grown (g := po) PO.out hg (Kd.R_ne HX.out PO.out (by decide)))
     replace PE := aM (blk_grown (g := pe) PE.out hg (Kd.R_ne HX.out PE.out (by decide)))
     replace SL := aM (SL.out.row HX.out hg hb (Nat.le_refl _) (by decide) (by decide))
     replace HB := aM SL.out.bel
     replace HX := aM ho
     clear ho hb hg hat POa
     obtain ⟨An, cn, en⟩ := Kd.R_slice HX.out
     subst en
     have hx := HX.out
     rw [List.length_append, List.length_singleton] at hx
     replace HX := aM hx
     clear hx
     refine hK.out _ _ ((blk1 PO.out).1) (fun hHeld => ?_)
     clear hK K
     refine norm_ (a' := ?_) ?_ ?_
     rotate_left
     ·show Act.put _ (some 19) _ = _
      simp only [Act.put, sP, i64_w, i32_w]
      rfl
     refine last_ (i := 5) (N := none) (bm 6 63) rfl rfl (one_of HT_.out (by kernel_rfl)) (by decide) (fun K hK => ?_)
     have qs := blk1 PO.out
     refine skip_ (w1 := w6.setCell ⟨po, 0, .none⟩ (.slice An (cs.length + 1) cn)) (by rfl) rfl (by first | (go_simp; done) | (go_simp; rfl)) ?_
     refine hK.out _ _ ?_
     clear hK K qs
     refine done_ (done_of HT_.out (by kernel_rfl)) ?_
     clear HT_ HW_
     try go_wp2
     go_roundg kq
     case measure => omega
     case rel => exact ⟨i + 1, cs ++ [cmd], l2, .slice An (cs.length + 1) cn, by first | rfl | (rw [w64o (by omega) (by have := HI.out; have := HM.out; omega)]; rfl), ⟨by have := HI.out; omega⟩, ⟨by rw [List.length_append, HLN.out]; rfl⟩, ⟨by rw [← HR2.out]; cases rcs kq l2 <;> simp⟩, ⟨SL.out.fr (Q := [22]) (Fr.set (Fr.refl [22] _) PO.out (by simp)) (by simp) (by simp) (below_set HB.out GO.out)⟩, ⟨blk_put PO.out 0 _ rfl⟩, ⟨blk_far (p := ⟨po, 0, .none⟩) PE.out hen _⟩, ⟨R_fr HX.out (Fr.set (Fr.refl [22] _) PO.out (by simp)) (by decide)⟩⟩
end Pk
end Go.Proofs.Ytkohdojiockejaa.Q
