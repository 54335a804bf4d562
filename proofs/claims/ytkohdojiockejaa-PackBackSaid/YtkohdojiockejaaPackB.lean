/- PackBack: it returns true. -/
import Derived.Test.YtkohdojiockejaaQxfPlainBytes
import Derived.Test.YtkohdojiockejaaQxfLaw45Many
import Derived.Test.YtkohdojiockejaaQxfRef45Encode
import Derived.Test.YtkohdojiockejaaQxfRef40Same
import Derived.Test.YtkohdojiockejaaQxfLaw38Many
import Derived.Test.YtkohdojiockejaaPackBits
import Derived.Test.YtkohdojiockejaaPackW0
import Derived.Test.YtkohdojiockejaaPackW1
import Derived.Test.YtkohdojiockejaaPackW2
import Derived.Test.YtkohdojiockejaaPackW3
import Derived.Test.YtkohdojiockejaaPackR0
import Derived.Test.YtkohdojiockejaaPackR1
import Derived.Test.YtkohdojiockejaaPackR2
import Derived.Test.YtkohdojiockejaaPackR3
import Derived.Test.YtkohdojiockejaaPackR4
import Derived.Test.YtkohdojiockejaaPackR5
import Derived.Test.YtkohdojiockejaaPackR6
import Derived.Test.YtkohdojiockejaaPackS
import Derived.Test.YtkohdojiockejaaPackLaw
import Derived.Test.YtkohdojiockejaaPackLaw2
import Derived.Test.YtkohdojiockejaaPackA
namespace Go.Proofs.Ytkohdojiockejaa.Q
open Go.RowKit Go.Proofs.YtkohdojiockejaaW.PrintWords Go.Proofs.YtkohdojiockejaaW.PrintLast Go.Proofs.YtkohdojiockejaaW.PrintMore
attribute [local go_sem] max2_int min2_int max_two min_two max_three min_three max_four min_four
set_option linter.unusedVariables false
set_option linter.unusedSimpArgs false
namespace Pk
structure tiny (c : S45) : Prop where
  ta : c.f3.length ≤ 10
  tb : c.f5.length ≤ 20
  tc : c.f6.length ≤ 100
  td : c.f4.f9.length ≤ 80
theorem many38_l0 (l : List S45) (hl : l.length ≤ 9223372036854775807) : ∀ (m k i : Nat), i + m = l.length → m < k → ∃ b, gradinelaw38_Many.l0 k l 100 (l.length : Int) (i : Int) = some b ∧ (b = false → l.length ≤ 100 ∧ ∀ x ∈ l.drop i, tiny x)
  | m, 0, i, _, hk => absurd hk (by omega)
  | 0, k + 1, i, hi, hk => by
    simp only [gradinelaw38_Many.l0]
    rw [if_neg (by omega)]
    refine ⟨_, rfl, fun h => ⟨by have := of_decide_eq_false h; omega, fun x hx => ?_⟩⟩
    rw [show i = l.length by omega, List.drop_length] at hx
    cases hx
  | m + 1, k + 1, i, hi, hk => by
    have hlt : i < l.length := by omega
    simp only [gradinelaw38_Many.l0]
    rw [if_pos (by omega), if_pos (by omega), if_pos (by omega), drop45 hlt]
    split
    · exact ⟨_, rfl, fun h => by cases h⟩
    split
    · exact ⟨_, rfl, fun h => by cases h⟩
    split
    · exact ⟨_, rfl, fun h => by cases h⟩
    split
    · exact ⟨_, rfl, fun h => by cases h⟩
    rename_i q1 q2 q3 q4
    rw [next_i (by omega)]
    obtain ⟨b, hb, hc⟩ := many38_l0 l hl m k (i + 1) (by omega) (by omega)
    refine ⟨b, hb, fun h => ⟨(hc h).1, fun x hx => ?_⟩⟩
    rcases List.mem_cons.mp hx with rfl | hx
    · exact ⟨by omega, by omega, by omega, by omega⟩
    · exact (hc h).2 x hx
theorem many38_f (l : List S45) (hl : l.length ≤ 9223372036854775807) : ∃ b, gradinelaw38_Many.f (l.length + 1) l 100 = some b ∧ (b = false → l.length ≤ 100 ∧ ∀ x ∈ l, tiny x) := many38_l0 l hl l.length (l.length + 1) 0 (by omega) (by omega)
theorem tiny_sm {c : S45} (h : tiny c) : smC c := by
  have h1 := h.ta; have h2 := h.tb; have h3 := h.tc; have h4 := h.td
  exact ⟨by omega, by omega, by omega, by omega⟩
theorem tiny_long {c : S45} (h : tiny c) : longC c = false := by
  have h1 := h.ta; have h2 := h.tb; have h3 := h.tc; have h4 := h.td
  unfold longC
  simp only [Bool.or_eq_false_iff, decide_eq_false_iff_not]
  omega
theorem Bs.app {a b : List Int} (h : Bs a) (h' : Bs b) : Bs (a ++ b) := fun x hx => (List.mem_append.mp hx).elim (h x) (h' x)
theorem bs_eW : ∀ (q : Nat) (y : Int), 0 ≤ y → Bs (eW q y)
  | 0, y, h => fun x hx => (by cases hx)
  | q + 1, y, h => by
    by_cases hy : 128 ≤ y
    · rw [eW_more hy]
      intro x hx
      rcases List.mem_cons.mp hx with rfl | hx
      · omega
      · exact bs_eW q (y / 128) (by omega) x hx
    · rw [eW_last hy]
      intro x hx
      rw [List.mem_singleton] at hx
      subst hx
      omega
theorem zz_nn (n : Int) : 0 ≤ zz n := by
  unfold zz
  split <;> omega
theorem bs_eN (n : Int) : Bs (eN n) := bs_eW 10 _ (zz_nn n)
theorem bs_fl {α : Type} {f : α → List Int} {l : List α} (h : ∀ x ∈ l, Bs (f x)) : Bs (l.flatMap f) := fun b hb => by
  obtain ⟨x, hx, hb⟩ := List.mem_flatMap.mp hb
  exact h x hx b hb
theorem bs_eL (l : List Int) : Bs (eL l) := (bs_eN _).app (bs_fl fun x _ => bs_eN x)
theorem bs_eB (b : Bool) : Bs (eB b) := by
  cases b <;> (intro x hx; have e : x = _ := List.mem_singleton.mp hx; subst e; omega)
theorem bs_eC (c : S45) (h : okC c) : Bs (eC c) :=
  (bs_fl fun x _ => bs_eN x).app ((bs_eL _).app ((bs_fl fun x _ => bs_eN x).app ((bs_eB _).app ((bs_eL _).app ((bs_eL _).app ((bs_eN _).app ((bs_fl fun t ht => (bs_eN _).app ((bs_eN _).app (bs_eW 10 _ (h.t t ht).2.2.1))).app (bs_eB _))))))))
theorem bs_encB (l : List S45) (h : ∀ c ∈ l, okC c) : Bs (encB l) := by
  unfold encB
  split
  · exact fun x hx => (by cases hx)
  · exact (bs_eN _).app (bs_fl fun c hc => bs_eC c (h c hc))
theorem fl_len' {α : Type} {f : α → List Int} {n : Nat} : ∀ l : List α, (∀ x ∈ l, (f x).length ≤ n) → (l.flatMap f).length ≤ n * l.length
  | [], _ => by simp
  | a :: l, h => by
    have h1 := h a (List.mem_cons_self ..)
    have h2 := fl_len' l (fun x hx => h x (List.mem_cons_of_mem _ hx))
    rw [List.flatMap_cons, List.length_append, List.length_cons, Nat.mul_succ]
    omega
theorem len_encB (l : List S45) (h : ∀ c ∈ l, smC c) (hl : l.length ≤ 300) : (encB l).length ≤ 1000000000 := by
  unfold encB
  split
  · exact Nat.zero_le _
  · have h1 := eN_len (l.length : Int)
    have h2 := fl_len' (f := eC) (n := 20000) l (fun c hc => eC_len (h c hc))
    rw [List.length_append]
    omega
theorem decL_bad {bs : List Int} (h : ¬ decE bs = 0) : decL bs = [] := by
  unfold decE at h
  unfold decL
  cases hr : ra bs with
  | bad k => rfl
  | ok cs l =>
    rw [hr] at h
    cases l with
    | nil => exact absurd rfl h
    | cons x l => rfl
theorem dec_enc (l : List S45) (h : ∀ c ∈ l, okC c ∧ longC c = false) (hl : l.length ≤ 200) : decL (encB l) = l ∧ decE (encB l) = 0 ∧ encC l = 0 := by
  obtain ⟨h1, h2⟩ := ra_enc l h hl
  unfold decL decE
  rw [h1]
  exact ⟨rfl, rfl, h2⟩
set_option maxHeartbeats 8000000 in
set_option maxRecDepth 100000 in
theorem back.calls (A : Option Addr) (c : Nat) (l : List S45) (B : Option Addr) (d : Nat) (bs : List Int) (w : World) (hr : Kd.C k45 w A l.length l) (hc : l.length ≤ c) (ok : ∀ x ∈ l, okC x) (hr' : Kd.C (Kd.int .u8) w B bs.length bs) (hc' : bs.length ≤ d) (ok' : Bs bs) : Calls Try.prog 5 #[.slice A l.length c, .slice B bs.length d] w fun e w' => e = .returned (.bool true) ∧ Below w.heap.size w w' := by
 obtain ⟨b, hm, hs⟩ := many38_f l hr.2.1
 have HB := aM (Below.refl w.heap.size w)
 have HR := aM hr
 have HK := aM hc
 have HM := aM hm
 have HO := aM ok
 have HR' := aM hr'
 have HK' := aM hc'
 have HO' := aM ok'
 clear hr hc hm ok hr' hc' ok'
 cases b with
 | true =>
  clear hs
  go_enter Try.func5, Try.ntmps5
  go_wp2_with (first
   | (go_at_call 14; (with_reducible refine (gradinelaw38_Many.calls _ A c l 100 true w HR.out HK.out HM.out).mono ?_); rintro e w1 ⟨rfl, hd⟩; replace HB := aM hd.below; clear hd)
   | (go_at_call 7; (with_reducible refine (same.calls _).mono ?_); rintro e w2 ⟨rfl, hb⟩; replace HB := bS (qB HB) hb; clear hb))
  go_ret
  exact ⟨rfl, HB.out⟩
 | false =>
  have HS := aM (hs rfl)
  clear hs
  by_cases hbig : 20000 < bs.length
  ·have z1 : decide ((bs.length : Int) > 20000) = true := decide_eq_true (by omega)
   have z2 : decide (20000 < bs.length) = true := decide_eq_true hbig
   clear hbig
   go_enter Try.func5, Try.ntmps5
   go_wp2_with (first
    | (go_at_call 14; (with_reducible refine (gradinelaw38_Many.calls _ A c l 100 false w HR.out HK.out HM.out).mono ?_); rintro e w1 ⟨rfl, hd⟩; replace HB := aM hd.below; clear hd)
    | (go_at_call 7; (with_reducible refine (same.calls _).mono ?_); rintro e w2 ⟨rfl, hb⟩; replace HB := bS (qB HB) hb; clear hb))
   go_ret
   exact ⟨rfl, HB.out⟩
  have z1 : decide ((bs.length : Int) > 20000) = false := decide_eq_false (by omega)
  have z2 : decide (20000 < bs.length) = false := decide_eq_false hbig
  have HLB : Aside0 (bs.length ≤ 1000000000) := ⟨by omega⟩
  clear hbig
  have HSM := aM (fun x hx => tiny_sm (HS.out.2 x hx) : ∀ x ∈ l, smC x)
  obtain ⟨e1, e2, e3⟩ := dec_enc l (fun x hx => ⟨HO.out x hx, tiny_long (HS.out.2 x hx)⟩) (by have := HS.out.1; omega)
  have HE := aM (Encode.calls A c l)
  have HBX := aM (bs_encB l HO.out)
  have HLX := aM (len_encB l HSM.out (by have := HS.out.1; omega))
  have hD : ∀ (X : Option Addr) (cx : Nat) (w : World), Kd.C (Kd.int .u8) w X (encB l).length (encB l) → (encB l).length ≤ cx → Calls Try.prog 11 #[.slice X (encB l).length cx] w fun e w' => ∃ v, e = .returned (.tuple #[v, .int .i64 0]) ∧ k45.R 45 w' w.heap.size (fun _ => True) v l ∧ Below w.heap.size w w' := fun X cx w h h' => by
   have h_ := Decode.rd X cx (encB l) w h h' HBX.out HLX.out
   rw [e1, e2] at h_
   exact h_
  have HD := aM hD
  rw [e3] at HE
  clear hD e1 e2 e3 HBX HLX
  generalize encB l = xb at HE HD
  have HD2 := aM (fun (w : World) h => Decode.rd B d bs w h HK'.out HO'.out HLB.out)
  by_cases hg : decE bs = 0
  ·obtain ⟨f1, f2, f3, f4, f5⟩ := enc_ra HO'.out hg
   rw [hg] at HD2
   have hE2 : ∀ (X : Option Addr) (cx : Nat) (w : World), Kd.C k45 w X (decL bs).length (decL bs) → Calls Try.prog 8 #[.slice X (decL bs).length cx] w fun e w' => ∃ v, e = .returned (.tuple #[v, .int .i64 0]) ∧ Kd.R (Kd.int .u8) 5 w' w.heap.size (fun _ => True) v bs ∧ Below w.heap.size w w' := fun X cx w h => by
    have h_ := Encode.calls X cx (decL bs) w h f3 f4 (by omega)
    rw [f1, f2] at h_
    exact h_
   have HE2 := aM hE2
   clear hE2 f1 f2 f3 f4 f5 hg
   generalize decL bs = dl at HE2 HD2
   go_enter Try.func5, Try.ntmps5
   go_wp2_with (first
    | (go_at_call 14; (with_reducible refine (gradinelaw38_Many.calls _ A c l 100 false w HR.out HK.out HM.out).mono ?_); rintro e w1 ⟨rfl, hd⟩; replace HB := aM hd.below; clear hd)
    | (go_at_call 8; (with_reducible refine (HE.out _ (sC HR HB) HO.out HSM.out (by have := HS.out.1; omega)).mono ?_); rintro e w2 ⟨v, rfl, h1, hb⟩; have HV := aM (Kd.R_lower h1 (below_size (qB HB))); replace HB := bS (qB HB) hb; clear hb h1; obtain ⟨Av, cv, ev⟩ := Kd.R_slice HV.out; subst ev)
    | (go_at_call 11; (with_reducible refine (HD.out Av cv _ (Kd.R_reads' HV.out).2.2 (Kd.R_reads' HV.out).2.1).mono ?_); rintro e w3 ⟨v, rfl, h1, hb⟩; have HU := aM (Kd.R_lower h1 (below_size (qB HB))); replace HB := bS (qB HB) hb; clear hb h1; obtain ⟨Au, cu, eu⟩ := Kd.R_slice HU.out; subst eu)
    | (go_at_call 13; (with_reducible refine (all.calls A c Au cu l _ (sC HR HB) (Kd.R_reads' HU.out).2.2 HSM.out (by have := HS.out.1; omega)).mono ?_); rintro e w4 ⟨rfl, hb⟩; replace HB := bS (qB HB) hb; clear hb)
    | (go_at_call 11; (with_reducible refine (HD2.out _ (sC HR' HB)).mono ?_); rintro e w5 ⟨v, rfl, h1, hb⟩; have HN := aM (Kd.R_lower h1 (below_size (qB HB))); replace HB := bS (qB HB) hb; clear hb h1; obtain ⟨An, cn, en⟩ := Kd.R_slice HN.out; subst en)
    | (go_at_call 8; (with_reducible refine (HE2.out An cn _ (Kd.R_reads' HN.out).2.2).mono ?_); rintro e w6 ⟨v, rfl, h1, hb⟩; have HY := aM (Kd.R_lower h1 (below_size (qB HB))); replace HB := bS (qB HB) hb; clear hb h1; obtain ⟨Ay, cy, ey⟩ := Kd.R_slice HY.out; subst ey)
    | (go_at_call 10; (with_reducible refine (gradineplain_Bytes.calls Ay cy bs B d bs true _ (Kd.R_reads' HY.out).2.2 (Kd.R_reads' HY.out).2.1 (sC HR' HB) HK'.out (bytes_f bs)).mono ?_); rintro e w7 ⟨rfl, hd⟩; replace HB := bS (qB HB) hd.below; clear hd)
    | (go_at_call 7; (with_reducible refine (same.calls _).mono ?_); rintro e w8 ⟨rfl, hb⟩; replace HB := bS (qB HB) hb; clear hb))
   go_ret
   exact ⟨rfl, HB.out⟩
  ·rw [decL_bad hg] at HD2
   have y1 : decide (decE bs = 0) = false := decide_eq_false hg
   have y2 : (decE bs == 0) = false := by simpa using hg
   generalize decE bs = g at HD2 y1 y2 hg
   go_enter Try.func5, Try.ntmps5
   go_wp2_with (first
    | (go_at_call 14; (with_reducible refine (gradinelaw38_Many.calls _ A c l 100 false w HR.out HK.out HM.out).mono ?_); rintro e w1 ⟨rfl, hd⟩; replace HB := aM hd.below; clear hd)
    | (go_at_call 8; (with_reducible refine (HE.out _ (sC HR HB) HO.out HSM.out (by have := HS.out.1; omega)).mono ?_); rintro e w2 ⟨v, rfl, h1, hb⟩; have HV := aM (Kd.R_lower h1 (below_size (qB HB))); replace HB := bS (qB HB) hb; clear hb h1; obtain ⟨Av, cv, ev⟩ := Kd.R_slice HV.out; subst ev)
    | (go_at_call 11; (with_reducible refine (HD.out Av cv _ (Kd.R_reads' HV.out).2.2 (Kd.R_reads' HV.out).2.1).mono ?_); rintro e w3 ⟨v, rfl, h1, hb⟩; have HU := aM (Kd.R_lower h1 (below_size (qB HB))); replace HB := bS (qB HB) hb; clear hb h1; obtain ⟨Au, cu, eu⟩ := Kd.R_slice HU.out; subst eu)
    | (go_at_call 13; (with_reducible refine (all.calls A c Au cu l _ (sC HR HB) (Kd.R_reads' HU.out).2.2 HSM.out (by have := HS.out.1; omega)).mono ?_); rintro e w4 ⟨rfl, hb⟩; replace HB := bS (qB HB) hb; clear hb)
    | (go_at_call 11; (with_reducible refine (HD2.out _ (sC HR' HB)).mono ?_); rintro e w5 ⟨v, rfl, h1, hb⟩; have HN := aM (Kd.R_lower h1 (below_size (qB HB))); replace HB := bS (qB HB) hb; clear hb h1; obtain ⟨An, cn, en⟩ := Kd.R_slice HN.out; subst en)
    | (go_at_call 7; (with_reducible refine (same.calls _).mono ?_); rintro e w8 ⟨rfl, hb⟩; replace HB := bS (qB HB) hb; clear hb))
   go_ret
   exact ⟨rfl, HB.out⟩
end Pk
end Go.Proofs.Ytkohdojiockejaa.Q
