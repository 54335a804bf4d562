/- PackEncodes: it returns true. -/
import Derived.Test.YtkohdojiockejaaQxfPlainBytes
import Derived.Test.YtkohdojiockejaaQxfLaw45Many
import Derived.Test.YtkohdojiockejaaQxfRef45Encode
import Derived.Test.YtkohdojiockejaaPackBits
import Derived.Test.YtkohdojiockejaaPackW0
import Derived.Test.YtkohdojiockejaaPackW1
import Derived.Test.YtkohdojiockejaaPackW2
import Derived.Test.YtkohdojiockejaaPackW3
import Derived.Test.YtkohdojiockejaaPackR0
import Derived.Test.YtkohdojiockejaaPackR1
import Derived.Test.YtkohdojiockejaaPackR2
import Derived.Test.YtkohdojiockejaaPackR3
import Derived.Test.YtkohdojiockejaaPackS
import Derived.Test.YtkohdojiockejaaPackLaw
namespace Go.Proofs.Ytkohdojiockejaa.Q
open Go.RowKit Go.Proofs.YtkohdojiockejaaW.PrintWords Go.Proofs.YtkohdojiockejaaW.PrintLast Go.Proofs.YtkohdojiockejaaW.PrintMore
attribute [local go_sem] max2_int min2_int max_two min_two max_three min_three max_four min_four
set_option linter.unusedVariables false
set_option linter.unusedSimpArgs false
namespace Pk
set_option maxHeartbeats 8000000 in
set_option maxRecDepth 100000 in
theorem encodes.calls (A : Option Addr) (c : Nat) (l : List S45) (w : World) (hr : Kd.C k45 w A l.length l) (hc : l.length ≤ c) (ok : ∀ x ∈ l, okC x) : Calls Try.prog 3 #[.slice A l.length c] w fun e w' => e = .returned (.bool true) ∧ Below w.heap.size w w' := by
 obtain ⟨b, hm, hs⟩ := many_f l hr.2.1
 have HB := aM (Below.refl w.heap.size w)
 have HR := aM hr
 have HK := aM hc
 have HM := aM hm
 have HO := aM ok
 clear hr hc hm ok
 cases b with
 | true =>
  clear hs
  go_enter Try.func3, Try.ntmps3
  go_wp2_with (first
   | (go_at_call 6; (with_reducible refine (gradinelaw45_many.calls _ A c l true w HR.out HK.out HM.out).mono ?_); rintro e w1 ⟨rfl, hd⟩; replace HB := aM hd.below; clear hd)
   | (go_at_call 7; (with_reducible refine (same.calls _).mono ?_); rintro e w2 ⟨rfl, hb⟩; replace HB := bS (qB HB) hb; clear hb))
  go_ret
  exact ⟨rfl, HB.out⟩
 | false =>
  have HS := aM (hs rfl)
  clear hs
  have HE := Encode.calls A c l
  have HF := aM (encode_f 2000 l HO.out HS.out.2 (by have := HS.out.1; omega) (Nat.le_refl _))
  generalize encC l = ec at HE HF
  generalize encB l = eb at HE HF
  go_enter Try.func3, Try.ntmps3
  go_wp2_with (first
   | (go_at_call 6; (with_reducible refine (gradinelaw45_many.calls _ A c l false w HR.out HK.out HM.out).mono ?_); rintro e w1 ⟨rfl, hd⟩; replace HB := aM hd.below; clear hd)
   | (go_at_call 8; (with_reducible refine (HE _ (sC HR HB) HO.out HS.out.2 HS.out.1).mono ?_); rintro e w2 ⟨v, rfl, h1, hb⟩; have HV := aM (Kd.R_lower h1 (below_size (qB HB))); replace HB := bS (qB HB) hb; clear hb h1; obtain ⟨Av, cv, ev⟩ := Kd.R_slice HV.out; subst ev)
   | (go_at_call 9; (with_reducible refine (gradineref45_Encode.calls 2000 A c l eb ec _ (sC HR HB) HK.out HF.out).mono ?_); rintro e w3 ⟨u, rfl, h1, hb⟩; have HU := aM (Kd.R_lower h1 (below_size (qB HB))); replace HV := bR HV hb; replace HB := bS (qB HB) hb; clear hb h1; obtain ⟨Au, cu, eu⟩ := Kd.R_slice HU.out; subst eu)
   | (go_at_call 10; (with_reducible refine (gradineplain_Bytes.calls Av cv eb Au cu eb true _ (Kd.R_reads' HV.out).2.2 (Kd.R_reads' HV.out).2.1 (Kd.R_reads' HU.out).2.2 (Kd.R_reads' HU.out).2.1 (bytes_f eb)).mono ?_); rintro e w4 ⟨rfl, hd⟩; replace HB := bS (qB HB) hd.below; clear hd)
   | (go_at_call 7; (with_reducible refine (same.calls _).mono ?_); rintro e w5 ⟨rfl, hb⟩; replace HB := bS (qB HB) hb; clear hb))
  go_ret
  exact ⟨rfl, HB.out⟩
end Pk
end Go.Proofs.Ytkohdojiockejaa.Q
