-- By wip/gprint.py (this session's), out of the kit's print.py.
import Derived.Test.YtjbpekblcecneaaQx0
import Derived.Test.YtjbpekblcecneaaQxfCellsList
namespace Go.Proofs.Ytjbpekblcecneaa.Q
open Go.RowKit Go.Proofs.YtjbpekblcecneaaW.PrintWords Go.Proofs.YtjbpekblcecneaaW.PrintLast Go.Proofs.YtjbpekblcecneaaW.PrintMore
attribute [local go_sem] max2_int min2_int max_two min_two max_three min_three max_four min_four   -- for this text's walks alone
set_option linter.unusedVariables false
set_option linter.unusedSimpArgs false

/-! ### cells_of: function 53 (ours) -/
def cells_of.l0 : List Int → List Int → Option (List Int)
  | [], s => some s
  | c :: l, s => if 0 ≤ c ∧ c < 64 then cells_of.l0 l (s.set c.toNat (wrap64 (rd s c + 1))) else none
def cells_of.f (k : Nat) (a0_0 : Int) (l0_1 : List Int) (l0_2 : List Int) : Option (List Int) := (cells_List.f k a0_0 l0_1 l0_2).bind fun l => if l.length < 4611686018427387904 then cells_of.l0 l zeros else none
set_option maxHeartbeats 8000000 in
set_option maxRecDepth 100000 in
theorem cells_of.calls (k : Nat) (a0_0 : Int) (A0_1 : Option Addr) (c0_1 : Nat) (l0_1 : List Int) (A0_2 : Option Addr) (c0_2 : Nat) (l0_2 : List Int) (r : List Int) (w : World) (hr0_1 : Kd.C (Kd.int .i64) w A0_1 l0_1.length l0_1) (hc0_1 : l0_1.length ≤ c0_1) (hr0_2 : Kd.C (Kd.int .i64) w A0_2 l0_2.length l0_2) (hc0_2 : l0_2.length ≤ c0_2) (h : cells_of.f k a0_0 l0_1 l0_2 = some r) :
  Calls Try.prog 53 #[.agg #[.int .i64 a0_0, .slice A0_1 l0_1.length c0_1, .slice A0_2 l0_2.length c0_2]] w fun e w' => e = .returned (.agg (vals r)) ∧ Below w.heap.size w w' := by
 have hu24 := Try.underlying24
 have HR0_1 := aM hr0_1
 have HC0_1 := aM hc0_1
 clear hr0_1 hc0_1
 have HR0_2 := aM hr0_2
 have HC0_2 := aM hc0_2
 clear hr0_2 hc0_2
 have HB := aM (Below.refl w.heap.size w)
 obtain ⟨l, A20, H⟩ := Option.bind_eq_some_iff.mp h
 clear h
 split at H
 rotate_left
 · exact absurd H (by simp)
 rename_i hlen0
 have hlen := aM hlen0
 clear hlen0
 have A2 := aM A20
 have H' := aM H
 clear A20 H
 go_enter Try.func53, Try.ntmps53
 go_wp2_with (first | ((with_reducible refine gate_dst (N := 1) rfl ?_); refine box_event ?hg (N := 1) ?hd (cs := #[.int .i64 a0_0, .slice A0_1 l0_1.length c0_1, .slice A0_2 l0_2.length c0_2]) (t := 24) ?hr ?_; (case hd => rfl); (case hg => rfl); (case hr => first | (go_simp; done) | (go_simp; rfl)); intro gb771 hg w5 hbox hb; have BK771 := aM (hbox); have GE771 := gE (w := w) hg (qB HB); replace HB := bS (qB HB) hb; clear hb hbox hg) | ((with_reducible refine gate_dst (N := 2) rfl ?_); refine box_event ?hg (N := 2) ?hd (cs := vals zeros) (t := 72) ?hr ?_; (case hd => rfl); (case hg => rfl); (case hr => first | (go_simp; done) | (go_simp; rfl)); intro gb2 hg w6 hbox hb; have BK2 := aM (hbox); have GE2 := gE (w := w) hg (qB1 HB GE771); have NB771_2 := nL hg BK771; have NB2_771 := nG hg BK771; replace BK771 := bK BK771 hb; replace HB := bS (qB1 HB GE771) hb; clear hb hbox hg) | ((with_reducible refine gate_dst (N := 3) rfl ?_); refine box_event ?hg (N := 3) ?hd (cs := vals zeros) (t := 72) ?hr ?_; (case hd => rfl); (case hg => rfl); (case hr => first | (go_simp; done) | (go_simp; rfl)); intro gb3 hg w7 hbox hb; have BK3 := aM (hbox); have GE3 := gE (w := w) hg (qB2 HB GE771 GE2); have NB771_3 := nL hg BK771; have NB3_771 := nG hg BK771; have NB2_3 := nL hg BK2; have NB3_2 := nG hg BK2; replace BK771 := bK BK771 hb; replace BK2 := bK BK2 hb; replace HB := bS (qB2 HB GE771 GE2) hb; clear hb hbox hg; obtain ⟨hcz6_0, hcz6_1, hcz6_2, hfz6_0, hfz6_1, hfz6_2⟩ := blk3 BK771.out) | ((with_reducible refine gate_callee (f := 29) rfl ?_); refine goesL_ (some 7) rfl rfl Try.func29 (by kernel_rfl) rfl #[.agg #[.int .i64 a0_0, .slice A0_1 l0_1.length c0_1, .slice A0_2 l0_2.length c0_2]] rfl pA ?_; (with_reducible refine (cells_List.calls k a0_0 _ _ l0_1 _ _ l0_2 l _ ?s1 ?s2 ?s3 ?s4 A2.out).mono ?_); (case s1 => exact sC HR0_1 HB); (case s2 => exact HC0_1.out); (case s3 => exact sC HR0_2 HB); (case s4 => exact HC0_2.out); rintro e w17 ⟨v0, rfl, ho0, hb⟩; refine ⟨_, rfl, ?_⟩; have HO := aM (Kd.R_lower ho0 (below_size (qB3 HB GE771 GE2 GE3))); have hlt := aM (Kd.R_base ho0); have NL2 := aM (fun e : v0.ownBlock = some gb2 => Nat.lt_irrefl _ (Nat.lt_of_lt_of_le (blk_lt BK2.out) (hlt.out _ e))); have NL3 := aM (fun e : v0.ownBlock = some gb3 => Nat.lt_irrefl _ (Nat.lt_of_lt_of_le (blk_lt BK3.out) (hlt.out _ e))); clear hlt; replace BK771 := bK BK771 hb; replace BK2 := bK BK2 hb; replace BK3 := bK BK3 hb; replace HB := bS (qB3 HB GE771 GE2 GE3) hb; (try clear hb); (try clear ho0); obtain ⟨Ao, co, eo⟩ := Kd.R_slice HO.out; subst eo))
 go_loopg [9] l.length (fun kq v9 w' => ∃ (i : Nat) (s : List Int), v9 = .int .i64 (i : Int) ∧ Aside0 (i + kq = l.length) ∧ Aside0 (cells_of.l0 (l.drop i) s = some r) ∧ Aside0 (s.length = 64) ∧ Aside0 (w'.heap[gb2]? = some (.cells (vals zeros) 72 (0, 0))) ∧ Aside0 (w'.heap[gb3]? = some (.cells (vals s) 72 (0, 0))) ∧ Aside0 (Kd.R (Kd.int .i64) 3 w' w.heap.size (fun _ => True) (.slice Ao l.length co) l) ∧ Aside0 (Below w.heap.size w w'))
 case atStart => exact ⟨0, zeros, rfl, ⟨by omega⟩, ⟨by rw [List.drop_zero]; exact H'.out⟩, ⟨by decide⟩, BK2, BK3, HO, HB⟩
 case round =>
  clear H' BK2 BK3 HB HO hcz6_0 hcz6_1 hcz6_2 hfz6_0 hfz6_1 hfz6_2 BK771
  obtain ⟨i, s, rfl, HK, HA, HS, BK2, BK3, HO, HB⟩ := hrel
  cases gk with
  | zero => 
   have c1b : decide ((i : Int) < (l.length : Int)) = false := decide_eq_false (by have := HK.out; omega)
   have c1n : decide (i < l.length) = false := decide_eq_false (by have := HK.out; omega)
   have HA1 := HA.out
   rw [List.drop_eq_nil_of_le (by have := HK.out; omega), cells_of.l0] at HA1
   obtain rfl := Option.some.inj HA1
   clear HA HA1
   have hz := aM (vals_size s HS.out)
   have hu72 := aM Try.underlying72
   go_wp2_with (first | ((with_reducible refine gate_dst (N := 19) rfl ?_); refine wpList_load_row rfl 72 (.tmp 3) rfl gb3 rfl 72 (vals s) (0, 0) _ BK3.out hu72.out rfl (by rw [hz.out]; kernel_rfl) ?_; simp only [Act.put, sP]) | ((with_reducible refine gate_store (t := 72) (p := 2) rfl ?_); refine wpList_store_row rfl 72 (.tmp 2) (.tmp 19) rfl gb2 (vals s) rfl rfl 72 (vals zeros) BK2.out (by rw [hz.out]; kernel_rfl) (by rw [hz.out]; rfl) (vals_one s) ?_))
   (try simp only [Act.put, sP])
   refine bodyPost_ret (results_cell_row rfl _ _ gb2 72 (vals s) (0, 0) _ rfl (setRow_heap _ _ _ _ _ _ BK2.out) hu72.out rfl (by rw [hz.out]; kernel_rfl)) rfl ?_
   exact ⟨rfl, bRow HB.out GE2.out _⟩
  | succ kq =>
    have c1 : (i : Int) < (l.length : Int) := by have := HK.out; omega
    have hi : i < l.length := by omega
    have HA1 := HA.out
    rw [List.drop_eq_getElem_cons hi, cells_of.l0] at HA1
    have hx : rd l (i : Int) = l[i] := by simp [rd, List.getD_eq_getElem?_getD, List.getElem?_eq_getElem hi]
    rw [← hx] at HA1
    by_cases c2 : 0 ≤ rd l (i : Int) ∧ rd l (i : Int) < 64
    · rw [if_pos c2] at HA1
      have H1 := aM HA1
      have c1b : decide ((i : Int) < (l.length : Int)) = true := decide_eq_true c1
      obtain ⟨ad, e, hx1⟩ := Kd.at_int (Kd.R_reads' HO.out).2.2 (i : Int) (by omega) c1
      cases e
      rw [Int.toNat_natCast] at hx1
      have hx2 := vals_cell BK3.out (rd l (i : Int)) c2.1 (by have := HS.out; omega)
      have hf2 := blk_frozen BK3.out (rd l (i : Int)).toNat
      have q0 : (0 ≤ (i : Int)) = True := eq_true (by omega)
      have q1 : ((i : Int) < (l.length : Int)) = True := eq_true c1
      have q2 : (0 ≤ rd l (i : Int)) = True := eq_true c2.1
      have q3 : (rd l (i : Int) < 64) = True := eq_true c2.2
      clear hx HA1 c1 c2 hi
      go_wp2
      go_roundg kq
      case measure => omega
      case rel => exact ⟨i + 1, _, by rw [w64o (by have := HK.out; have := hlen.out; omega) (by have := HK.out; have := hlen.out; omega)]; rfl, ⟨by have := HK.out; omega⟩, H1, ⟨by rw [List.length_set]; exact HS.out⟩, ⟨blk_far BK2.out NB2_3.out _⟩, ⟨blk_put BK3.out _ _ (vals_set _ _ _)⟩, ⟨Kd.R_mono (Kd.R_far (Kd.R_types HO.out BK3.out (by decide)) (fun _ hk => hk.2) _) (fun _ _ => trivial)⟩, ⟨below_set HB.out GE3.out⟩⟩
    · rw [if_neg c2] at HA1; exact absurd HA1 (by simp)
theorem cells_of.l0_length : ∀ (l s r : List Int), cells_of.l0 l s = some r → r.length = s.length
  | [], s, r, h => by rw [cells_of.l0] at h; cases h; rfl
  | c :: l, s, r, h => by
    rw [cells_of.l0] at h
    split at h
    · rw [cells_of.l0_length l _ r h, List.length_set]
    · cases h
theorem cells_of.size {k : Nat} {a : Int} {l1 l2 r : List Int} (h : cells_of.f k a l1 l2 = some r) : r.length = 64 := by
  obtain ⟨l, _, h⟩ := Option.bind_eq_some_iff.mp h
  split at h
  · rw [cells_of.l0_length _ _ _ h]; decide
  · cases h
theorem vals_index (s : List Int) (i : Nat) (h : i < 64) (hs : s.length = 64) (w : World) : (Instr.index 72 (.agg (vals s)) (.int .i64 (i : Int))).run Try.prog w = .ok (.int .i64 (rd s (i : Int))) w := by
  have hv := vals_get s i (by omega)
  have hz := vals_size s hs
  simp [Instr.index, run_underlying Try.underlying72, asIntOf, part, go_sem, h, hv]
theorem vals_indexz (s : List Int) (i : Int) (h0 : 0 ≤ i) (h : i < 64) (hs : s.length = 64) (w : World) : (Instr.index 72 (.agg (vals s)) (.int .i64 i)).run Try.prog w = .ok (.int .i64 (rd s i)) w := by
  obtain ⟨n, rfl⟩ := Int.eq_ofNat_of_zero_le h0
  exact vals_index s n (by omega) hs w

end Go.Proofs.Ytjbpekblcecneaa.Q
