/- The reference's reader: a number, how many, a truth, a list. -/
import Derived.Test.YtkohdojiockejaaQxfPlainBytes
import Derived.Test.YtkohdojiockejaaQxfLaw45Many
import Derived.Test.YtkohdojiockejaaQxfRef45Encode
import Derived.Test.YtkohdojiockejaaPackBits
import Derived.Test.YtkohdojiockejaaPackW0
import Derived.Test.YtkohdojiockejaaPackW1
import Derived.Test.YtkohdojiockejaaPackR0
import Derived.Test.YtkohdojiockejaaPackR1
import Derived.Test.YtkohdojiockejaaPackR4
import Derived.Test.YtkohdojiockejaaPackLaw2
import Derived.Test.YtkohdojiockejaaPackQ0
namespace Go.Proofs.Ytkohdojiockejaa.Q
open Go.RowKit Go.Proofs.YtkohdojiockejaaW.PrintWords Go.Proofs.YtkohdojiockejaaW.PrintLast Go.Proofs.YtkohdojiockejaaW.PrintMore
attribute [local go_sem] max2_int min2_int max_two min_two max_three min_three max_four min_four
set_option linter.unusedVariables false
set_option linter.unusedSimpArgs false
namespace Pk
def nq (s : RS) : Int × RS := (uz (ws s).1, (ws s).2)
def mq (most : Int) (s : RS) : Int × RS := match nq s with
  | (n, .ok l) => if n < 0 then (0, .bad 2) else if most < n then (0, .bad 3) else (n, .ok l)
  | (_, .bad k) => (0, .bad k)
def bq : RS → Bool × RS
  | .ok bs => match rb bs with
    | .ok b l => (b, .ok l)
    | .bad k => (false, .bad k)
  | .bad k => (false, .bad k)
def lsn : Nat → RS → List Int × RS
  | 0, s => ([], s)
  | k + 1, s => ((nq s).1 :: (lsn k (nq s).2).1, (lsn k (nq s).2).2)
def lq (s : RS) : List Int × RS := lsn (mq 256 s).1.toNat (mq 256 s).2
theorem ws_range {W w : World} {gr : Nat} {s : RS} (h : Rst W w gr s) : 0 ≤ (ws s).1 ∧ (ws s).1 < 18446744073709551616 := by
  cases s with
  | bad k => exact ⟨Int.le_refl _, (by decide : (0 : Int) < 18446744073709551616)⟩
  | ok bs =>
    unfold ws
    dsimp only
    cases hr : rw_ bs with
    | bad k => exact ⟨Int.le_refl _, (by decide : (0 : Int) < 18446744073709551616)⟩
    | ok x l =>
      have := rw_bs (Rr.ok h) hr
      exact ⟨this.1, this.2.1⟩
set_option maxHeartbeats 8000000 in
set_option maxRecDepth 100000 in
theorem qnumber.calls (gr : Nat) (s : RS) (W w : World) (h : Rst W w gr s) : Calls Try.prog 35 #[.pointer (some ⟨gr, 0, none⟩)] w fun e w' => e = .returned (.int .i64 (nq s).1) ∧ Rst W w' gr (nq s).2 ∧ Fr [63] w w' := by
 obtain ⟨x0, x1⟩ := ws_range h
 have HC := aM (qword.calls gr s W w h)
 unfold nq
 dsimp only
 generalize (ws s).1 = x at x0 x1 HC
 generalize (ws s).2 = s2 at HC
 clear h
 have t1 : IntKind.u64.wrap (Int.tmod x 2) = x % 2 := by rw [Int.tmod_eq_emod_of_nonneg x0, u64w]; omega
 have t2 : IntKind.u64.wrap (Int.tdiv x 2) = x / 2 := by rw [Int.tdiv_eq_ediv_of_nonneg x0, u64w]; omega
 have t3 : wrap64 (x / 2) = x / 2 := w64o (by omega) (by omega)
 have t4 : wrap64 (-(x / 2)) = -(x / 2) := w64o (by omega) (by omega)
 have t5 : wrap64 (-(x / 2) - 1) = -(x / 2) - 1 := w64o (by omega) (by omega)
 have t6 : Int.tmod x 2 = x % 2 := Int.tmod_eq_emod_of_nonneg x0
 have t7 : Int.tdiv x 2 = x / 2 := Int.tdiv_eq_ediv_of_nonneg x0
 by_cases hx : x % 2 = 0
 ·have e1 : decide (x % 2 = 0) = true := decide_eq_true hx
  have e2 : (x % 2 == 0) = true := by simpa using hx
  have hu : uz x = x / 2 := if_pos hx
  rw [hu]
  go_enter Try.func35, Try.ntmps35
  go_wp2_with (first | (go_at_call 38; refine HC.out.mono ?_; rintro e w1 ⟨rfl, h1, h2⟩; have HS := aM h1; have HF := aM h2; clear h1 h2))
  go_ret
  exact ⟨rfl, HS.out, HF.out⟩
 ·have e1 : decide (x % 2 = 0) = false := decide_eq_false hx
  have e2 : (x % 2 == 0) = false := by simpa using hx
  have hu : uz x = -(x / 2) - 1 := if_neg hx
  rw [hu]
  go_enter Try.func35, Try.ntmps35
  go_wp2_with (first | (go_at_call 38; refine HC.out.mono ?_; rintro e w1 ⟨rfl, h1, h2⟩; have HS := aM h1; have HF := aM h2; clear h1 h2))
  go_ret
  exact ⟨rfl, HS.out, HF.out⟩
theorem ws_ne {W w : World} {gr : Nat} {s : RS} {k : Int} (h : Rst W w gr s) (hq : (ws s).2 = .bad k) : k ≠ 0 := by
  cases s with
  | bad k' =>
    cases hq
    exact h.1
  | ok bs =>
    unfold ws at hq
    dsimp only at hq
    cases hr : rw_ bs with
    | ok x l => rw [hr] at hq; cases hq
    | bad k' =>
      rw [hr] at hq
      have e := rw_bad hr
      cases hq
      omega
theorem nq_ne {W w : World} {gr : Nat} {s : RS} {n k : Int} (h : Rst W w gr s) (hq : nq s = (n, .bad k)) : k ≠ 0 := by
  unfold nq at hq
  exact ws_ne h (Prod.mk.inj hq).2
set_option maxHeartbeats 8000000 in
set_option maxRecDepth 100000 in
theorem qmany.calls (gr : Nat) (most : Int) (s : RS) (W w : World) (h : Rst W w gr s) : Calls Try.prog 22 #[.pointer (some ⟨gr, 0, none⟩), .int .i64 most] w fun e w' => e = .returned (.int .i64 (mq most s).1) ∧ Rst W w' gr (mq most s).2 ∧ Fr [63] w w' := by
 have hu63 := Try.underlying63
 have HC := aM (qnumber.calls gr s W w h)
 have hne := fun n k => @nq_ne W w gr s n k h
 clear h
 unfold mq
 rcases hq : nq s with ⟨n, s2⟩
 rw [hq] at HC
 dsimp only at HC
 cases s2 with
 | bad k =>
  show Calls _ _ _ _ fun e w' => e = .returned (.int .i64 0) ∧ Rst W w' gr (.bad k) ∧ Fr [63] w w'
  have hk := hne n k hq
  clear hne hq
  have y1 : decide (k = 0) = false := decide_eq_false hk
  have y2 : (k == 0) = false := by simpa using hk
  have HK := aM hk
  clear hk
  go_enter Try.func22, Try.ntmps22
  go_wp2_with (first | (go_at_call 35; refine HC.out.mono ?_; rintro e w1 ⟨rfl, hb, h2⟩; obtain ⟨h0, l, h1⟩ : k ≠ 0 ∧ ∃ l, Rr W w1 gr k l := hb; have HS := aM h1; have HF := aM h2; obtain ⟨A, c, g1, _, _⟩ := h1.ex; have hc := blk2' g1))
  go_ret
  exact ⟨rfl, ⟨HK.out, _, HS.out⟩, HF.out⟩
 | ok l =>
  clear hne hq
  by_cases hn : n < 0
  ·have d1 : decide (n < 0) = true := decide_eq_true hn
   dsimp only
   rw [if_pos hn]
   go_enter Try.func22, Try.ntmps22
   go_wp2_with (first | (go_at_call 35; refine HC.out.mono ?_; rintro e w1 ⟨rfl, h1, h2⟩; have HS : Aside0 (Rr W w1 gr 0 l) := aM h1; have HF := aM h2; obtain ⟨A, c, g1, _, _⟩ := HS.out.ex; have hc := blk2' g1; clear g1 h1 h2))
   go_ret
   exact ⟨rfl, ⟨by decide, _, (HS.out.setE 2).1⟩, HF.out.trans (HS.out.setE 2).2⟩
  ·have d1 : decide (n < 0) = false := decide_eq_false hn
   by_cases hm : most < n
   ·have d2 : decide (n > most) = true := decide_eq_true hm
    have d3 : decide (most < n) = true := decide_eq_true hm
    dsimp only
    rw [if_neg hn, if_pos hm]
    go_enter Try.func22, Try.ntmps22
    go_wp2_with (first | (go_at_call 35; refine HC.out.mono ?_; rintro e w1 ⟨rfl, h1, h2⟩; have HS : Aside0 (Rr W w1 gr 0 l) := aM h1; have HF := aM h2; obtain ⟨A, c, g1, _, _⟩ := HS.out.ex; have hc := blk2' g1; clear g1 h1 h2))
    go_ret
    exact ⟨rfl, ⟨by decide, _, (HS.out.setE 3).1⟩, HF.out.trans (HS.out.setE 3).2⟩
   ·have d2 : decide (n > most) = false := decide_eq_false hm
    have d3 : decide (most < n) = false := decide_eq_false hm
    dsimp only
    rw [if_neg hn, if_neg hm]
    go_enter Try.func22, Try.ntmps22
    go_wp2_with (first | (go_at_call 35; refine HC.out.mono ?_; rintro e w1 ⟨rfl, h1, h2⟩; have HS : Aside0 (Rr W w1 gr 0 l) := aM h1; have HF := aM h2; obtain ⟨A, c, g1, _, _⟩ := HS.out.ex; have hc := blk2' g1; clear g1 h1 h2))
    go_ret
    exact ⟨rfl, HS.out, HF.out⟩
set_option maxHeartbeats 8000000 in
set_option maxRecDepth 100000 in
theorem qtruth.calls (gr : Nat) (s : RS) (W w : World) (h : Rst W w gr s) : Calls Try.prog 37 #[.pointer (some ⟨gr, 0, none⟩)] w fun e w' => e = .returned (.bool (bq s).1) ∧ Rst W w' gr (bq s).2 ∧ Fr [63] w w' := by
 have hu63 := Try.underlying63
 have HF := aM (Fr.refl [63] w)
 cases s with
 | bad k =>
  obtain ⟨hk, l, hl⟩ := h
  have HS := aM hl
  obtain ⟨A, c, h1, _, _⟩ := hl.ex
  have hc := blk2' h1
  have y1 : decide (k = 0) = false := decide_eq_false hk
  have y2 : (k == 0) = false := by simpa using hk
  clear h1 hl
  show Calls _ _ _ _ fun e w' => e = .returned (.bool false) ∧ Rst W w' gr (.bad k) ∧ Fr [63] w w'
  go_enter Try.func37, Try.ntmps37
  go_wp2
  go_ret
  exact ⟨rfl, ⟨hk, _, HS.out⟩, HF.out⟩
 | ok bs =>
  have HS := aM (h : Rr W w gr 0 bs)
  clear h
  cases bs with
  | nil =>
   obtain ⟨A, c, h1, _, _⟩ := HS.out.ex
   have hc := blk2' h1
   clear h1
   show Calls _ _ _ _ fun e w' => e = .returned (.bool false) ∧ Rst W w' gr (.bad 2) ∧ Fr [63] w w'
   go_enter Try.func37, Try.ntmps37
   go_wp2
   go_ret
   exact ⟨rfl, ⟨by decide, _, (HS.out.setE 2).1⟩, HF.out.trans (HS.out.setE 2).2⟩
  | cons b l =>
   obtain ⟨ad, c, had, h1, hx, h2, hbb, hn⟩ := HS.out.cons
   have hc := blk2' h1
   have HN := aM hn
   have H2 := aM h2
   have p1 : (0 : Int) < ((l.length + 1 : Nat) : Int) := by omega
   have p2 : (0 : Int) < (l.length : Int) + 1 := by omega
   have d1 : decide (((l.length + 1 : Nat) : Int) = 0) = false := decide_eq_false (by omega)
   have d2 : decide ((l.length : Int) + 1 = 0) = false := decide_eq_false (by omega)
   have d3 : ¬ ((l.length : Int) + 1 = 0) := by omega
   have d4 : (1 : Int) ≤ (l.length : Int) + 1 := by omega
   have d5 : ((l.length : Int) + 1 == 0) = false := by simp; omega
   clear h1 h2 hn hbb had
   unfold bq rb
   by_cases hb : 1 < b
   ·have e1 : decide (b > 1) = true := decide_eq_true hb
    have e2 : decide (1 < b) = true := decide_eq_true hb
    dsimp only
    rw [if_pos hb]
    go_enter Try.func37, Try.ntmps37
    go_wp2
    go_ret
    exact ⟨rfl, ⟨by decide, _, (HS.out.setE 2).1⟩, HF.out.trans (HS.out.setE 2).2⟩
   ·have e1 : decide (b > 1) = false := decide_eq_false hb
    have e2 : decide (1 < b) = false := decide_eq_false hb
    dsimp only
    rw [if_neg hb]
    by_cases hc1 : c = 1
    ·skip
     obtain ⟨hn1, hn2⟩ := HN.out (some ad) (if_pos hc1).symm
     subst hc1
     have HS2 := aM hn1
     have HF2 := aM (HF.out.trans hn2)
     clear hn1 hn2
     go_enter Try.func37, Try.ntmps37
     go_wp2
     go_ret
     exact ⟨rfl, HS2.out, HF2.out⟩
    ·skip
     obtain ⟨hn1, hn2⟩ := HN.out (some ⟨ad.block, ad.off + 1, none⟩) (if_neg hc1).symm
     have HS2 := aM hn1
     have HF2 := aM (HF.out.trans hn2)
     clear hn1 hn2
     go_enter Try.func37, Try.ntmps37
     go_wp2
     go_ret
     exact ⟨rfl, HS2.out, HF2.out⟩
theorem mq_range {most : Int} (hm : 0 ≤ most) (s : RS) : 0 ≤ (mq most s).1 ∧ (mq most s).1 ≤ most := by
  unfold mq
  rcases nq s with ⟨n, s2⟩
  cases s2 with
  | bad k => exact ⟨Int.le_refl _, hm⟩
  | ok l =>
    dsimp only
    split
    · exact ⟨Int.le_refl _, hm⟩
    split
    · exact ⟨Int.le_refl _, hm⟩
    · constructor <;> (dsimp only; omega)
theorem Rst.row {α : Type} {d : Kd α} {e b B : Nat} {ok : Nat → Prop} {v : Value} {xs : List α} {W w w1 : World} {gr : Nat} {s : RS} (h : Rst W w gr s) (hr : d.R e w b ok v xs) (hg : w.grownBy w1 v.ownBlock) (hb : Below B w w1) (hle : W.heap.size ≤ B) (h5 : e ≠ 5) (h63 : e ≠ 63) : Rst W w1 gr s :=
  h.fr (Q := [e]) (Fr.row hr hg (by simp)) (by simp; exact Ne.symm h5) (by simp; exact Ne.symm h63) (bel_low h.bel hb hle)
theorem Fr.low {Q : List Nat} {w w1 w2 : World} (h : Fr Q w w1) (h' : Below w.heap.size w1 w2) : Fr Q w w2 :=
  ⟨Nat.le_trans h.1 h'.size, fun k cs q hk hq => (h'.block k (blk_lt hk)).trans (h.2 k cs q hk hq)⟩
set_option maxHeartbeats 16000000 in
set_option maxRecDepth 100000 in
theorem qlist.calls (gr : Nat) (s : RS) (W w : World) (h : Rst W w gr s) : Calls Try.prog 36 #[.pointer (some ⟨gr, 0, none⟩)] w fun e w' => ∃ v, e = .returned v ∧ Kd.R (Kd.int .i64) 3 w' w.heap.size (fun _ => True) v (lq s).1 ∧ Rst W w' gr (lq s).2 ∧ Fr [63] w w' := by
 have HC := aM (qmany.calls gr 256 s W w h)
 have HW := aM h.bel.size
 clear h
 unfold lq
 have hr := mq_range (most := 256) (by decide) s
 rcases hq : mq 256 s with ⟨n, s1⟩
 rw [hq] at HC hr
 clear hq
 dsimp only at HC hr ⊢
 obtain ⟨m, rfl⟩ : ∃ m : Nat, n = (m : Int) := ⟨n.toNat, by omega⟩
 rw [Int.toNat_natCast]
 have HM : Aside0 (m ≤ 256) := ⟨by omega⟩
 clear hr
 rcases hr : lsn m s1 with ⟨rl_, rs⟩
 dsimp only
 have HR := aM hr
 clear hr
 go_enter Try.func36, Try.ntmps36
 go_wp2_with (first | (go_at_call 22; refine HC.out.mono ?_; rintro e w1 ⟨rfl, h1, h2⟩; have HS := aM h1; have HF := aM h2; clear h1 h2))
 go_loopg [3, 6] m (fun kq v3 v6 w' => ∃ (i : Nat) (xs : List Int) (st : RS), v6 = .int .i64 (i : Int) ∧ Aside0 (i + kq = m) ∧ Aside0 (xs.length = i) ∧ Aside0 ((xs ++ (lsn kq st).1, (lsn kq st).2) = (rl_, rs)) ∧ Aside0 (Rst W w' gr st) ∧ Aside0 (Fr [63] w w') ∧ Aside0 (Kd.R (Kd.int .i64) 3 w' w.heap.size (fun _ => True) v3 xs))
 case atStart => exact ⟨0, [], s1, rfl, ⟨by omega⟩, ⟨rfl⟩, ⟨HR.out⟩, HS, HF, ⟨pN⟩⟩
 case round =>
  clear HS HF HC HR
  obtain ⟨i, xs, st, rfl, HI, HL, HR, HS, HF, HX⟩ := hrel
  cases gk with
  | zero =>
   have hin : i = m := by have := HI.out; omega
   subst hin
   have d1 : decide ((i : Int) < (i : Int)) = false := decide_eq_false (by omega)
   have d2 : decide (i < i) = false := decide_eq_false (by omega)
   have hR := HR.out
   rw [lsn, List.append_nil] at hR
   obtain ⟨rfl, rfl⟩ := Prod.mk.inj hR
   clear HR hR
   go_wp2
   go_ret
   exact ⟨_, rfl, HX.out, HS.out, HF.out⟩
  | succ kq =>
   have d1 : decide ((i : Int) < (m : Int)) = true := decide_eq_true (by have := HI.out; omega)
   have d2 : decide (i < m) = true := decide_eq_true (by have := HI.out; omega)
   have hc := qnumber.calls gr st W wr HS.out
   have HR' := HR.out
   rw [lsn] at HR'
   rcases hn : nq st with ⟨y, st2⟩
   rw [hn] at HR' hc
   dsimp only at HR' hc
   have HC := aM hc
   have HR2 := aM HR'
   clear HR' HR hn hc
   go_wp2_with (first
    | (go_at_call 35; refine HC.out.mono ?_; rintro e w2 ⟨rfl, h1, h2⟩; replace HX := aM (R_fr HX.out h2 (by decide)); replace HS := aM h1; replace HF := aM (HF.out.trans h2); clear h1 h2)
    | ((with_reducible refine gate_builtin (b := .append) (xs := #[.tmp 8, .tmp 11]) rfl ?_); at_builtin; refine Kd.R_append (Kd.int .i64) (w0 := w2) w.heap.size rfl (.tmp 8) (.tmp 11) 40 3 (.int .i64 0) 8 rfl Try.underlying40 info3 rfl (by decide) (by omega) u3 xs y [.int .i64 y] (fun _ => True) (fun _ => False) rfl rfl rfl (fun _ hk => hk.elim) (fun _ _ => trivial) (pR HX.out) (Below.refl _ _) HF.out.1 ?aL ?_; (case aL => have := HL.out; have := HI.out; have := HM.out; omega); intro v5 w5 ho hb hg hat; have HS5 := aM (HS.out.row HX.out hg hb HW.out (by decide) (by decide)); have HF5 := aM (HF.out.low hb); have HX5 := aM ho; clear ho hb hg hat))
   go_roundg kq
   case measure => omega
   case rel => exact ⟨i + 1, xs ++ [y], st2, by first | rfl | (rw [w64o (by omega) (by have := HI.out; have := HM.out; omega)]; rfl), ⟨by have := HI.out; omega⟩, ⟨by rw [List.length_append, HL.out]; rfl⟩, ⟨by rw [← HR2.out]; simp⟩, HS5, HF5, HX5⟩
end Pk
end Go.Proofs.Ytkohdojiockejaa.Q
