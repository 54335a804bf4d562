/- PackDecodes: it returns true. -/
import Derived.Test.YtkohdojiockejaaQxfPlainBytes
import Derived.Test.YtkohdojiockejaaQxfLaw45Many
import Derived.Test.YtkohdojiockejaaQxfRef45Encode
import Derived.Test.YtkohdojiockejaaQxfRef40Same
import Derived.Test.YtkohdojiockejaaPackBits
import Derived.Test.YtkohdojiockejaaPackW0
import Derived.Test.YtkohdojiockejaaPackW1
import Derived.Test.YtkohdojiockejaaPackW2
import Derived.Test.YtkohdojiockejaaPackW3
import Derived.Test.YtkohdojiockejaaPackR0
import Derived.Test.YtkohdojiockejaaPackR1
import Derived.Test.YtkohdojiockejaaPackR2
import Derived.Test.YtkohdojiockejaaPackR3
import Derived.Test.YtkohdojiockejaaPackR4
import Derived.Test.YtkohdojiockejaaPackR5
import Derived.Test.YtkohdojiockejaaPackR6
import Derived.Test.YtkohdojiockejaaPackS
import Derived.Test.YtkohdojiockejaaPackLaw
import Derived.Test.YtkohdojiockejaaPackLaw2
import Derived.Test.YtkohdojiockejaaPackA
import Derived.Test.YtkohdojiockejaaPackQ0
import Derived.Test.YtkohdojiockejaaPackQ1
import Derived.Test.YtkohdojiockejaaPackQ2
import Derived.Test.YtkohdojiockejaaPackQ3
import Derived.Test.YtkohdojiockejaaPackLaw3
namespace Go.Proofs.Ytkohdojiockejaa.Q
open Go.RowKit Go.Proofs.YtkohdojiockejaaW.PrintWords Go.Proofs.YtkohdojiockejaaW.PrintLast Go.Proofs.YtkohdojiockejaaW.PrintMore
attribute [local go_sem] max2_int min2_int max_two min_two max_three min_three max_four min_four
set_option linter.unusedVariables false
set_option linter.unusedSimpArgs false
namespace Pk
theorem dec_small {bs : List Int} (hb : Bs bs) : (∀ c ∈ decL bs, smC c) ∧ (decL bs).length ≤ 200 := by
  by_cases h : decE bs = 0
  · obtain ⟨_, _, _, h4, h5⟩ := enc_ra hb h
    exact ⟨h4, h5⟩
  · have e : decL bs = [] := by
      unfold decE at h
      unfold decL
      cases hr : ra bs with
      | bad k => rfl
      | ok cs l =>
        rw [hr] at h
        cases l with
        | nil => exact absurd rfl h
        | cons x l => rfl
    rw [e]
    exact ⟨fun c hc => (by cases hc), Nat.zero_le _⟩
set_option maxHeartbeats 8000000 in
set_option maxRecDepth 100000 in
theorem decodes.calls (B : Option Addr) (d : Nat) (bs : List Int) (w : World) (hr' : Kd.C (Kd.int .u8) w B bs.length bs) (hc' : bs.length ≤ d) (ok' : Bs bs) : Calls Try.prog 4 #[.slice B bs.length d] w fun e w' => e = .returned (.bool true) ∧ Below w.heap.size w w' := by
 have HB := aM (Below.refl w.heap.size w)
 have HR' := aM hr'
 have HK' := aM hc'
 have HO' := aM ok'
 clear hr' hc' ok'
 by_cases hbig : 20000 < bs.length
 ·have z1 : decide ((bs.length : Int) > 20000) = true := decide_eq_true (by omega)
  have z2 : decide (20000 < bs.length) = true := decide_eq_true hbig
  clear hbig
  go_enter Try.func4, Try.ntmps4
  go_wp2_with (first
   | (go_at_call 7; (with_reducible refine (same.calls _).mono ?_); rintro e w2 ⟨rfl, hb⟩; replace HB := bS (qB HB) hb; clear hb))
  go_ret
  exact ⟨rfl, HB.out⟩
 have z1 : decide ((bs.length : Int) > 20000) = false := decide_eq_false (by omega)
 have z2 : decide (20000 < bs.length) = false := decide_eq_false hbig
 have HLB : Aside0 (bs.length ≤ 1000000000) := ⟨by omega⟩
 clear hbig
 have HS := aM (dec_small HO'.out)
 have HD := aM (fun (w : World) h => Decode.rd B d bs w h HK'.out HO'.out HLB.out)
 have hq := fun (w : World) h => qDecode.calls B d bs w h HK'.out HO'.out
 rw [dq_dec] at hq
 dsimp only at hq
 have HQ := aM hq
 clear hq
 generalize decE bs = de at HD HQ
 generalize decL bs = dl at HD HQ HS
 go_enter Try.func4, Try.ntmps4
 go_wp2_with (first
  | (go_at_call 11; (with_reducible refine (HD.out _ (sC HR' HB)).mono ?_); rintro e w2 ⟨v, rfl, h1, hb⟩; have HV := aM (Kd.R_lower h1 (below_size (qB HB))); replace HB := bS (qB HB) hb; clear hb h1; obtain ⟨Av, cv, ev⟩ := Kd.R_slice HV.out; subst ev)
  | (go_at_call 12; (with_reducible refine (HQ.out _ (sC HR' HB)).mono ?_); rintro e w3 ⟨u, rfl, h1, hb⟩; have HU := aM (Kd.R_lower h1 (below_size (qB HB))); replace HV := bR HV hb; replace HB := bS (qB HB) hb; clear hb h1; obtain ⟨Au, cu, eu⟩ := Kd.R_slice HU.out; subst eu)
  | (go_at_call 13; (with_reducible refine (all.calls Av cv Au cu dl _ (Kd.R_reads' HV.out).2.2 (Kd.R_reads' HU.out).2.2 HS.out.1 (by have := HS.out.2; omega)).mono ?_); rintro e w4 ⟨rfl, hb⟩; replace HB := bS (qB HB) hb; clear hb)
  | (go_at_call 7; (with_reducible refine (same.calls _).mono ?_); rintro e w8 ⟨rfl, hb⟩; replace HB := bS (qB HB) hb; clear hb))
 go_ret
 exact ⟨rfl, HB.out⟩
end Pk
end Go.Proofs.Ytkohdojiockejaa.Q
