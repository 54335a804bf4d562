/- The writer: numbers. -/
import Derived.Test.YtkohdojiockejaaQxfPlainBytes
import Derived.Test.YtkohdojiockejaaQxfLaw45Many
import Derived.Test.YtkohdojiockejaaQxfRef45Encode
import Derived.Test.YtkohdojiockejaaPackW0
namespace Go.Proofs.Ytkohdojiockejaa.Q
open Go.RowKit Go.Proofs.YtkohdojiockejaaW.PrintWords Go.Proofs.YtkohdojiockejaaW.PrintLast Go.Proofs.YtkohdojiockejaaW.PrintMore
attribute [local go_sem] max2_int min2_int max_two min_two max_three min_three max_four min_four
set_option linter.unusedVariables false
set_option linter.unusedSimpArgs false
namespace Pk
/-- A number as bytes. -/
def eN (n : Int) : List Int := eW 10 (zz n)
theorem eW_len : ∀ (q : Nat) (x : Int), (eW q x).length ≤ q
  | 0, x => Nat.le_refl _
  | q + 1, x => by
    rw [eW]
    split
    · simpa using eW_len q _
    · simp
theorem eN_len (n : Int) : (eN n).length ≤ 10 := eW_len 10 _
/-- A number that fits. -/
def i64 (n : Int) : Prop := -9223372036854775808 ≤ n ∧ n ≤ 9223372036854775807
theorem drop_rd {l : List Int} {i : Nat} (h : i < l.length) : l.drop i = rd l (i : Int) :: l.drop (i + 1) := by
  unfold rd
  rw [Int.toNat_natCast, List.getD_eq_getElem?_getD, List.getElem?_eq_getElem h]
  exact (List.getElem_cons_drop h).symm
set_option maxHeartbeats 8000000 in
set_option maxRecDepth 100000 in
theorem number.calls (gw : Nat) (bs : List Int) (long : Bool) (A : Option Addr) (c : Nat) (l : List Int) (W w : World) (h : Wr W w gw bs long) (hr : ∀ w', Fr [48, 5] w w' → Below W.heap.size W w' → Kd.C (Kd.int .i64) w' A l.length l) (hn : ∀ x ∈ l, i64 x) (hl : bs.length + 10 * l.length ≤ 1000000000) :
  Calls Try.prog 15 #[.pointer (some ⟨gw, 0, none⟩), .slice A l.length c] w fun e w' => e = .returned (.tuple #[]) ∧ Wr W w' gw (bs ++ l.flatMap eN) long ∧ Fr [48, 5] w w' := by
 have HW := aM h
 have HR := aM hr
 have HN := aM hn
 have HL := aM hl
 clear h hr hn hl
 have HF := aM (Fr.refl [48, 5] w)
 obtain ⟨rs, hrs⟩ : ∃ r, bs ++ l.flatMap eN = r := ⟨_, rfl⟩
 rw [hrs]
 have HA := aM hrs
 clear hrs
 go_enter Try.func15, Try.ntmps15
 go_wp2
 go_loopg [8] l.length (fun kq v8 w' => ∃ (i : Nat) (cs : List Int), v8 = .int .i64 (i : Int) ∧ Aside0 (i + kq = l.length) ∧ Aside0 (cs ++ (l.drop i).flatMap eN = rs) ∧ Aside0 (cs.length + 10 * kq ≤ 1000000000) ∧ Aside0 (Wr W w' gw cs long) ∧ Aside0 (Fr [48, 5] w w'))
 case atStart => exact ⟨0, bs, rfl, ⟨by omega⟩, HA, HL, HW, HF⟩
 case round =>
  clear HA HW HF
  obtain ⟨i, cs, rfl, HK, HA, HC, HW, HF⟩ := hrel
  cases gk with
  | succ kq =>
   have hi : i < l.length := by have := HK.out; omega
   have d1 : decide ((i : Int) < (l.length : Int)) = true := decide_eq_true (by omega)
   have d2 : decide (i < l.length) = true := decide_eq_true hi
   have p1 : (0 ≤ (i : Int)) = True := eq_true (by omega)
   have q1 : ((i : Int) < (l.length : Int)) = True := eq_true (by omega)
   have q2 : (i < l.length) = True := eq_true hi
   obtain ⟨ad, ead, hx⟩ := Kd.at_int (HR.out _ HF.out HW.out.bel) (i : Int) (by omega) (by omega)
   cases ead
   rw [Int.toNat_natCast] at hx
   have hm : rd l (i : Int) ∈ l := by
    unfold rd
    rw [Int.toNat_natCast, List.getD_eq_getElem?_getD, List.getElem?_eq_getElem hi]
    exact List.getElem_mem _
   have HM := aM (HN.out _ hm)
   have HA2 := aM (show (cs ++ eN (rd l (i : Int))) ++ (l.drop (i + 1)).flatMap eN = rs by rw [← HA.out, drop_rd hi, List.flatMap_cons, List.append_assoc])
   clear hm hi HA
   obtain ⟨x, hx'⟩ : ∃ x, rd l (i : Int) = x := ⟨_, rfl⟩
   rw [hx'] at hx HM HA2
   clear hx'
   have hz := zig HM.out.1 HM.out.2
   go_wp2_with (first | (go_at_call 25; (with_reducible refine (word.calls gw cs long (zz x) W _ HW.out ?s1 ?s2 ?s3).mono ?_); (case s1 => exact (zz_range HM.out.1 HM.out.2).1); (case s2 => exact (zz_range HM.out.1 HM.out.2).2); (case s3 => have := HC.out; omega); rintro e w9 ⟨rfl, h1, h2⟩; replace HW := aM h1; replace HF := aM (HF.out.trans h2); clear h1 h2))
   go_roundg kq
   case measure => omega
   case rel => exact ⟨i + 1, cs ++ eN x, by first | rfl | (rw [w64o (by have := HK.out; have := HL.out; omega) (by have := HK.out; have := HL.out; omega)]; rfl), ⟨by have := HK.out; omega⟩, HA2, ⟨by have := HC.out; have := eN_len x; simp; omega⟩, HW, HF⟩
  | zero =>
   have hin : i = l.length := by have := HK.out; omega
   clear HK
   subst hin
   have hA := HA.out
   rw [List.drop_length, List.flatMap_nil, List.append_nil] at hA
   subst hA
   have d1 : decide ((l.length : Int) < (l.length : Int)) = false := decide_eq_false (by omega)
   have d2 : decide (l.length < l.length) = false := decide_eq_false (by omega)
   go_wp2
   refine bodyPost_end (results_none rfl _ _ _) rfl ?_
   exact ⟨rfl, HW.out, HF.out⟩
/-- A list as bytes. -/
def eL (l : List Int) : List Int := eN (l.length : Int) ++ l.flatMap eN
theorem eL_len (l : List Int) : (eL l).length ≤ 10 + 10 * l.length := by
  have h1 := eN_len (l.length : Int)
  have h2 : ∀ m : List Int, (m.flatMap eN).length ≤ 10 * m.length := fun m => by
    induction m with
    | nil => simp
    | cons a m ih =>
      have := eN_len a
      rw [List.flatMap_cons, List.length_append, List.length_cons]
      omega
  have := h2 l
  unfold eL
  rw [List.length_append]
  omega
theorem int1C {w : World} {g t : Nat} {b0 : Int} (h : w.heap[g]? = some (.cells #[.int .i64 b0] t (0, 0))) : Kd.C (Kd.int .i64) w (some ⟨g, 0, none⟩) 1 [b0] := by
  refine ⟨rfl, by simp, fun _ => ⟨_, rfl, fun j p hj => ?_⟩⟩
  match j with
  | 0 =>
    obtain rfl : b0 = p := by simpa using hj
    refine ⟨_, rfl, rfl, fun i u hu => ?_⟩
    match i with
    | 0 => obtain rfl := Option.some.inj hu; exact (blk_cell h 0).trans rfl
    | i + 1 => simp at hu
  | j + 1 => simp at hj
theorem number1 (gw g : Nat) (bs : List Int) (long : Bool) (x : Int) (W w : World) (h : Wr W w gw bs long) (hb : w.heap[g]? = some (.cells #[.int .i64 x] 3 (0, 0))) (hn : i64 x) (hl : bs.length ≤ 900000000) :
  Calls Try.prog 15 #[.pointer (some ⟨gw, 0, none⟩), .slice (some ⟨g, 0, none⟩) 1 1] w fun e w' => e = .returned (.tuple #[]) ∧ Wr W w' gw (bs ++ eN x) long ∧ Fr [48, 5] w w' := by
  have := number.calls gw bs long (some ⟨g, 0, none⟩) 1 [x] W w h (fun w' hf _ => int1C (hf.blk hb (by simp))) (fun y hy => by rw [List.mem_singleton.1 hy]; exact hn) (by simp; omega)
  rw [List.flatMap_cons, List.flatMap_nil, List.append_nil] at this
  exact this
section
variable {P : Program} {ops : Array Oper} {o : Oper} {rest : List Oper} {a : Act} {Q : Exit → Act → World → Prop}
theorem lit {W : World} (hgd : o.guard = none) {N : Tmp} (_hd : o.dst = some N) {cs : Array Value} {t : TypeId} {n : Nat} (hrun : (execOp a.eval o).run P W = .ok (.value (.slice (some ⟨W.heap.size, 0, none⟩) n n)) (W.alloc (.cells cs t (0, 0))))
    (h : ∀ g, g = W.heap.size → ∀ w1, w1.heap[g]? = some (.cells cs t (0, 0)) → Below W.heap.size W w1 → wpList P ops Q rest (a.put o.dst (.slice (some ⟨g, 0, none⟩) n n)) w1) : wpList P ops Q (o :: rest) a W :=
  Kd.event_run hgd hrun (h _ rfl _ (blk_new W _) (below_alloc (Below.refl _ _) _))
end
/-- The writer's mark is set. -/
theorem Wr.mark {W w : World} {gw : Nat} {bs : List Int} {long : Bool} (h : Wr W w gw bs long) (b : Bool) : Wr W (w.setCell ⟨gw, 1, none⟩ (.bool b)) gw bs b := by
  obtain ⟨⟨v, h1, h2⟩, h3, h4⟩ := h
  exact ⟨⟨v, blk_put h1 1 _ rfl, Kd.R_far h2 (p := ⟨gw, 1, none⟩) (fun _ h_ => h_) _⟩, h3, below_set h4 h3⟩
set_option maxHeartbeats 8000000 in
set_option maxRecDepth 100000 in
theorem list.calls (gw : Nat) (bs : List Int) (long : Bool) (A : Option Addr) (c : Nat) (l : List Int) (W w : World) (h : Wr W w gw bs long) (hr : Kd.C (Kd.int .i64) W A l.length l) (hn : ∀ x ∈ l, i64 x) (hl : bs.length ≤ 500000000) (hll : l.length ≤ 1000) :
  Calls Try.prog 26 #[.pointer (some ⟨gw, 0, none⟩), .slice A l.length c] w fun e w' => e = .returned (.tuple #[]) ∧ Wr W w' gw (bs ++ eL l) (long || decide (256 < l.length)) ∧ Fr [48, 5] w w' := by
 have hu48 := Try.underlying48
 have HW := aM h
 have HR := aM hr
 have HN := aM hn
 have HL := aM (And.intro hl hll)
 clear h hr hn hl hll
 have HF := aM (Fr.refl [48, 5] w)
 obtain ⟨v, hb, _⟩ := HW.out.ex
 have HB := aM hb
 clear hb
 obtain ⟨lg, hlg⟩ : ∃ b, (long || decide (256 < l.length)) = b := ⟨_, rfl⟩
 rw [hlg]
 have HLG := aM hlg
 have hczs := blk2 HB.out
 have HW2 := aM (HW.out.mark lg)
 have HF2 := aM (HF.out.set (j := 1) (v := .bool lg) HB.out (by simp))
 have b1 : decide ((l.length : Int) > 256) = decide (256 < l.length) := by rw [decide_eq_decide]; omega
 have b2 : decide (256 < (l.length : Int)) = decide (256 < l.length) := by rw [decide_eq_decide]; omega
 clear hlg
 clear HW HF
 cases long with
 | true =>
  obtain rfl : lg = true := by rw [← HLG.out]; rfl
  clear HLG b1 b2 HB
  go_enter Try.func26, Try.ntmps26
  go_upto_region 1 with (fail)
  clear hczs
  generalize w.setCell ⟨gw, 1, none⟩ (Value.bool true) = w1 at HW2 HF2 ⊢
  go_wp2_with (first | ((with_reducible refine gate_dst (N := 19) rfl ?_); refine lit ?hg (N := 19) ?hd (cs := #[.int .i64 (l.length : Int)]) (t := 3) (n := 1) ?hr ?_; (case hd => rfl); (case hg => rfl); (case hr => first | (go_simp; done) | (go_simp; rfl)); intro gl hg w2 hbox hb; have BL := aM hbox; replace HW2 := aM (HW2.out.step hb); replace HF2 := aM (HF2.out.trans (Fr.of_below hb)); clear hg hbox hb) | (go_at_call 15; (with_reducible refine (number1 gw gl bs true (l.length : Int) W _ HW2.out BL.out ?s1 ?s2).mono ?_); (case s1 => exact ⟨by omega, by have := HL.out.2; omega⟩); (case s2 => have := HL.out.1; omega); rintro e w3 ⟨rfl, h1, h2⟩; replace HW2 := aM h1; replace HF2 := aM (HF2.out.trans h2); clear h1 h2 BL) | (go_at_call 15; (with_reducible refine (number.calls gw (bs ++ eN (l.length : Int)) true A c l W _ HW2.out (fun w' _ hb => Kd.C_below HR.out hb) HN.out ?s3).mono ?_); (case s3 => have := HL.out; have := eN_len (l.length : Int); simp; omega); rintro e w4 ⟨rfl, h1, h2⟩; replace HW2 := aM h1; replace HF2 := aM (HF2.out.trans h2); clear h1 h2))
  refine bodyPost_end (results_none rfl _ _ _) rfl ?_
  exact ⟨rfl, by have h_ := HW2.out; rw [List.append_assoc] at h_; exact h_, HF2.out⟩
 | false =>
  by_cases h2 : 256 < l.length
  ·obtain rfl : lg = true := by rw [← HLG.out, decide_eq_true h2]; rfl
   rw [decide_eq_true h2] at b1 b2
   clear HLG h2 HB
   go_enter Try.func26, Try.ntmps26
   go_upto_region 1 with (fail)
   clear hczs
   generalize w.setCell ⟨gw, 1, none⟩ (Value.bool true) = w1 at HW2 HF2 ⊢
   go_wp2_with (first | ((with_reducible refine gate_dst (N := 19) rfl ?_); refine lit ?hg (N := 19) ?hd (cs := #[.int .i64 (l.length : Int)]) (t := 3) (n := 1) ?hr ?_; (case hd => rfl); (case hg => rfl); (case hr => first | (go_simp; done) | (go_simp; rfl)); intro gl hg w2 hbox hb; have BL := aM hbox; replace HW2 := aM (HW2.out.step hb); replace HF2 := aM (HF2.out.trans (Fr.of_below hb)); clear hg hbox hb) | (go_at_call 15; (with_reducible refine (number1 gw gl bs true (l.length : Int) W _ HW2.out BL.out ?s1 ?s2).mono ?_); (case s1 => exact ⟨by omega, by have := HL.out.2; omega⟩); (case s2 => have := HL.out.1; omega); rintro e w3 ⟨rfl, h1, h2⟩; replace HW2 := aM h1; replace HF2 := aM (HF2.out.trans h2); clear h1 h2 BL) | (go_at_call 15; (with_reducible refine (number.calls gw (bs ++ eN (l.length : Int)) true A c l W _ HW2.out (fun w' _ hb => Kd.C_below HR.out hb) HN.out ?s3).mono ?_); (case s3 => have := HL.out; have := eN_len (l.length : Int); simp; omega); rintro e w4 ⟨rfl, h1, h2⟩; replace HW2 := aM h1; replace HF2 := aM (HF2.out.trans h2); clear h1 h2))
   refine bodyPost_end (results_none rfl _ _ _) rfl ?_
   exact ⟨rfl, by have h_ := HW2.out; rw [List.append_assoc] at h_; exact h_, HF2.out⟩
  ·obtain rfl : lg = false := by rw [← HLG.out, decide_eq_false h2]; rfl
   rw [decide_eq_false h2] at b1 b2
   clear HLG h2 HB
   go_enter Try.func26, Try.ntmps26
   go_upto_region 1 with (fail)
   clear hczs
   generalize w.setCell ⟨gw, 1, none⟩ (Value.bool false) = w1 at HW2 HF2 ⊢
   go_wp2_with (first | ((with_reducible refine gate_dst (N := 19) rfl ?_); refine lit ?hg (N := 19) ?hd (cs := #[.int .i64 (l.length : Int)]) (t := 3) (n := 1) ?hr ?_; (case hd => rfl); (case hg => rfl); (case hr => first | (go_simp; done) | (go_simp; rfl)); intro gl hg w2 hbox hb; have BL := aM hbox; replace HW2 := aM (HW2.out.step hb); replace HF2 := aM (HF2.out.trans (Fr.of_below hb)); clear hg hbox hb) | (go_at_call 15; (with_reducible refine (number1 gw gl bs false (l.length : Int) W _ HW2.out BL.out ?s1 ?s2).mono ?_); (case s1 => exact ⟨by omega, by have := HL.out.2; omega⟩); (case s2 => have := HL.out.1; omega); rintro e w3 ⟨rfl, h1, h2⟩; replace HW2 := aM h1; replace HF2 := aM (HF2.out.trans h2); clear h1 h2 BL) | (go_at_call 15; (with_reducible refine (number.calls gw (bs ++ eN (l.length : Int)) false A c l W _ HW2.out (fun w' _ hb => Kd.C_below HR.out hb) HN.out ?s3).mono ?_); (case s3 => have := HL.out; have := eN_len (l.length : Int); simp; omega); rintro e w4 ⟨rfl, h1, h2⟩; replace HW2 := aM h1; replace HF2 := aM (HF2.out.trans h2); clear h1 h2))
   refine bodyPost_end (results_none rfl _ _ _) rfl ?_
   exact ⟨rfl, by have h_ := HW2.out; rw [List.append_assoc] at h_; exact h_, HF2.out⟩
end Pk
end Go.Proofs.Ytkohdojiockejaa.Q
