/- All: two lists of commands that are the same. -/
import Derived.Test.YtkohdojiockejaaQxfPlainBytes
import Derived.Test.YtkohdojiockejaaQxfLaw45Many
import Derived.Test.YtkohdojiockejaaQxfRef45Encode
import Derived.Test.YtkohdojiockejaaQxfRef40Same
import Derived.Test.YtkohdojiockejaaPackBits
import Derived.Test.YtkohdojiockejaaPackW0
import Derived.Test.YtkohdojiockejaaPackW1
import Derived.Test.YtkohdojiockejaaPackW2
import Derived.Test.YtkohdojiockejaaPackW3
import Derived.Test.YtkohdojiockejaaPackR0
import Derived.Test.YtkohdojiockejaaPackLaw
namespace Go.Proofs.Ytkohdojiockejaa.Q
open Go.RowKit Go.Proofs.YtkohdojiockejaaW.PrintWords Go.Proofs.YtkohdojiockejaaW.PrintLast Go.Proofs.YtkohdojiockejaaW.PrintMore
attribute [local go_sem] max2_int min2_int max_two min_two max_three min_three max_four min_four
set_option linter.unusedVariables false
set_option linter.unusedSimpArgs false
namespace Pk
theorem ints_l0 (l : List Int) (hl : l.length ≤ 1000) : ∀ (m k i : Nat), i + m = l.length → m < k → gradineref40_ints.l0 k l l (l.length : Int) (i : Int) = some true
  | m, 0, i, _, hk => absurd hk (by omega)
  | 0, k + 1, i, hi, hk => by
    simp only [gradineref40_ints.l0]
    rw [if_neg (by omega)]
  | m + 1, k + 1, i, hi, hk => by
    simp only [gradineref40_ints.l0]
    rw [if_pos (by omega), if_pos (by omega), if_pos (by omega), if_pos (by omega), if_pos True.intro, next_i (by omega), ints_l0 l hl m k (i + 1) (by omega) (by omega)]
theorem ints_f (k : Nat) (l : List Int) (hl : l.length ≤ 1000) (hk : 1001 ≤ k) : gradineref40_ints.f k l l = some true := by
  unfold gradineref40_ints.f
  rw [if_pos rfl]
  exact ints_l0 l hl l.length k 0 (by omega) (by omega)
theorem lits_l0 (l : List S71) (hl : l.length ≤ 1000) : ∀ (m k i : Nat), i + m = l.length → m < k → gradineref40_lits.l0 k l l (l.length : Int) (i : Int) = some true
  | m, 0, i, _, hk => absurd hk (by omega)
  | 0, k + 1, i, hi, hk => by
    simp only [gradineref40_lits.l0]
    rw [if_neg (by omega)]
  | m + 1, k + 1, i, hi, hk => by
    simp only [gradineref40_lits.l0]
    rw [if_pos (by omega), if_pos (by omega), if_pos (by omega), if_pos (by omega), if_neg (by simp), next_i (by omega), lits_l0 l hl m k (i + 1) (by omega) (by omega)]
theorem lits_f (k : Nat) (l : List S71) (hl : l.length ≤ 1000) (hk : 1001 ≤ k) : gradineref40_lits.f k l l = some true := by
  unfold gradineref40_lits.f
  rw [if_pos rfl]
  exact lits_l0 l hl l.length k 0 (by omega) (by omega)
theorem attrs_f (k : Nat) (a0 a1 a2 a3 a4 a5 a6 a7 : Int) (b : Bool) (l : List Int) (hl : l.length ≤ 1000) (hk : 1001 ≤ k) : gradineref40_Attrs.f k a0 a1 a2 a3 a4 a5 a6 a7 b l a0 a1 a2 a3 a4 a5 a6 a7 b l = some true := by
  unfold gradineref40_Attrs.f
  rw [if_pos rfl, if_pos rfl, if_pos rfl, if_pos rfl, if_pos rfl, if_pos rfl, if_pos rfl, if_pos rfl, if_pos (by simp), ints_f k l hl hk]
  rfl
theorem same_f (k : Nat) (c : S45) (h : smC c) (hk : 1001 ≤ k) : gradineref40_Same.f k c.f0 c.f1 c.f2 c.f3 c.f4.f0 c.f4.f1 c.f4.f2 c.f4.f3 c.f4.f4 c.f4.f5 c.f4.f6 c.f4.f7 c.f4.f8 c.f4.f9 c.f5 c.f6 c.f7 c.f0 c.f1 c.f2 c.f3 c.f4.f0 c.f4.f1 c.f4.f2 c.f4.f3 c.f4.f4 c.f4.f5 c.f4.f6 c.f4.f7 c.f4.f8 c.f4.f9 c.f5 c.f6 c.f7 = some true := by
  have sa := h.sa; have sb := h.sb; have sc := h.sc; have sd := h.sd
  unfold gradineref40_Same.f
  rw [if_pos rfl, if_pos rfl, if_pos rfl, if_pos (by simp), ints_f k _ (by omega) hk, Option.bind_some, if_pos rfl, ints_f k _ (by omega) hk, Option.bind_some, if_pos rfl, attrs_f k _ _ _ _ _ _ _ _ _ _ (by omega) hk, Option.bind_some, if_pos rfl, lits_f k _ (by omega) hk]
  rfl
theorem get45l {w : World} {A : Option Addr} {n : Nat} {xs : List S45} (h : Kd.C k45 w A n xs) (i : Nat) (h1 : i < n) : ∃ ad A3 c3 A13 c13 A14 c14 A15 c15, ∃ x, x = rd_T45 xs (i : Int) ∧ A = some ad ∧ (∀ (k : Nat) (v : Value), [.int .i64 x.f0, .int .i64 x.f1, .int .i64 x.f2, .slice A3 x.f3.length c3, .int .i64 x.f4.f0, .int .i64 x.f4.f1, .int .i64 x.f4.f2, .int .i64 x.f4.f3, .int .i64 x.f4.f4, .int .i64 x.f4.f5, .int .i64 x.f4.f6, .int .i64 x.f4.f7, .bool x.f4.f8, .slice A13 x.f4.f9.length c13, .slice A14 x.f5.length c14, .slice A15 x.f6.length c15, .bool x.f7][k]? = some v → w.cell? ((ad.add (i * 17)).add k) = some v) ∧ x.f3.length ≤ c3 ∧ (Kd.int .i64).C w A3 x.f3.length x.f3 ∧ x.f4.f9.length ≤ c13 ∧ (Kd.int .i64).C w A13 x.f4.f9.length x.f4.f9 ∧ x.f5.length ≤ c14 ∧ (Kd.int .i64).C w A14 x.f5.length x.f5 ∧ x.f6.length ≤ c15 ∧ k71.C w A15 x.f6.length x.f6 := by
  obtain ⟨ad, c, e, _, hK, hc0⟩ := Kd.C_get h z45 (i : Int) (by omega) (by omega)
  obtain ⟨A3, c3, A13, c13, A14, c14, A15, c15, rfl, l3, g3, l13, g13, l14, g14, l15, g15⟩ := k45_open hK
  exact ⟨ad, A3, c3, A13, c13, A14, c14, A15, c15, _, rfl, e, fun k v hv => by rw [Addr.add_add]; exact hc0 k v hv, l3, g3, l13, g13, l14, g14, l15, g15⟩
theorem load_val {P : Program} {o : Oper} {a : Act} {W : World} (ty : TypeId) (x : Operand) (ho : o.op = .load ty x) (p : Addr) (hx : a.eval x = .pointer (some p)) (vs : List Value) (d : TypeDesc) (hu : P.underlying ty = some d) (hd : (match d with | .struct _ | .array _ _ => true | _ => false) = true) (hi : (P.info? ty).map (·.size) = some vs.length) (hc : ∀ k v, vs[k]? = some v → W.cell? (p.add k) = some v) : (execOp a.eval o).run P W = .ok (.value (.agg vs.toArray)) W := by
  unfold execOp
  simp only [ho, hx, Instr.loadAt, Instr.sureAddr, Sem.run_bind, Sem.run_pure, Result.andThen_ok, run_loadVar_at W ty p vs d hu hd hi hc]
def al.T6 : Bool × List (List Nat × List Nat) := (true, [([], []), ([], []), ([0, 1], [0, 1]), ([2], [2]), ([], []), ([], []), ([4, 5], [4, 5]), ([6], [6]), ([3, 7], [3, 7]), ([8], [8])])
def al.B6 : List Nat := [0, 0, 3, 7, 0, 0, 48, 112, 255, 511]
theorem al.tab6 : rtab .any (opsOf Try.f13 6) = al.T6 := by kernel_rfl
theorem al.bits6 : waitsOk al.T6.2 al.B6 = true := by kernel_rfl
set_option maxHeartbeats 32000000 in
set_option maxRecDepth 100000 in
theorem all.calls (A : Option Addr) (c : Nat) (B : Option Addr) (e : Nat) (l : List S45) (w : World) (hA : Kd.C k45 w A l.length l) (hB : Kd.C k45 w B l.length l) (hs : ∀ x ∈ l, smC x) (hl : l.length ≤ 1000) : Calls Try.prog 13 #[.slice A l.length c, .slice B l.length e] w fun e w' => e = .returned (.bool true) ∧ Below w.heap.size w w' := by
 have HA := aM hA
 have HB := aM hB
 have HS := aM hs
 have HL := aM hl
 clear hA hB hs hl
 have HW := aM (Below.refl w.heap.size w)
 go_enter Try.func13, Try.ntmps13
 go_wp2
 go_loopg [13] l.length (fun kq v13 w' => ∃ (i : Nat), v13 = .int .i64 (i : Int) ∧ Aside0 (i + kq = l.length) ∧ Aside0 (Below w.heap.size w w'))
 case atStart => exact ⟨0, rfl, ⟨by omega⟩, HW⟩
 case round =>
  clear HW
  obtain ⟨i, rfl, HI, HW⟩ := hrel
  cases gk with
  | zero =>
   obtain rfl : i = l.length := by have := HI.out; omega
   have d1 : decide ((l.length : Int) < (l.length : Int)) = false := decide_eq_false (by omega)
   have d2 : decide (l.length < l.length) = false := decide_eq_false (by omega)
   go_wp2
   go_ret
   exact ⟨rfl, HW.out⟩
  | succ kq =>
   have hi : i < l.length := by have := HI.out; omega
   have d1 : decide ((i : Int) < (l.length : Int)) = true := decide_eq_true (by omega)
   have d2 : decide (i < l.length) = true := decide_eq_true hi
   have q1 : (0 ≤ (i : Int)) = True := eq_true (by omega)
   have q2 : ((i : Int) < (l.length : Int)) = True := eq_true (by omega)
   have q3 : (i < l.length) = True := eq_true hi
   obtain ⟨ad, pA3, pc3, pA13, pc13, pA14, pc14, pA15, pc15, x, hx, ead, hcell, l3, g3, l13, g13, l14, g14, l15, g15⟩ := get45l HA.out i hi
   subst ead
   obtain ⟨be, qA3, qc3, qA13, qc13, qA14, qc14, qA15, qc15, y, hy, ebe, hcelm, m3, j3, m13, j13, m14, j14, m15, j15⟩ := get45l HB.out i hi
   subst ebe
   obtain rfl : y = x := by rw [hy, hx]
   have HSX := aM (HS.out y (by rw [hy]; exact mem45 hi))
   have HL3 := aM (And.intro l3 (And.intro l13 (And.intro l14 l15)))
   have HM3 := aM (And.intro m3 (And.intro m13 (And.intro m14 m15)))
   have HG3 := aM (And.intro g3 (And.intro g13 (And.intro g14 g15)))
   have HJ3 := aM (And.intro j3 (And.intro j13 (And.intro j14 j15)))
   have HCA := aM hcell
   have HCB := aM hcelm
   clear hx hy l3 l13 l14 l15 m3 m13 m14 m15 g3 g13 g14 g15 j3 j13 j14 j15 hcell hcelm hi
   go_wp2
   replace HW := aM (below_drew1 HW.out)
   have HQ : Aside0 ((∀ (k : Nat) (v : Value), [.int .i64 y.f0, .int .i64 y.f1, .int .i64 y.f2, .slice pA3 y.f3.length pc3, .int .i64 y.f4.f0, .int .i64 y.f4.f1, .int .i64 y.f4.f2, .int .i64 y.f4.f3, .int .i64 y.f4.f4, .int .i64 y.f4.f5, .int .i64 y.f4.f6, .int .i64 y.f4.f7, .bool y.f4.f8, .slice pA13 y.f4.f9.length pc13, .slice pA14 y.f5.length pc14, .slice pA15 y.f6.length pc15, .bool y.f7][k]? = some v → wr.drew.cell? ((ad.add (i * 17)).add k) = some v) ∧ (∀ (k : Nat) (v : Value), [.int .i64 y.f0, .int .i64 y.f1, .int .i64 y.f2, .slice qA3 y.f3.length qc3, .int .i64 y.f4.f0, .int .i64 y.f4.f1, .int .i64 y.f4.f2, .int .i64 y.f4.f3, .int .i64 y.f4.f4, .int .i64 y.f4.f5, .int .i64 y.f4.f6, .int .i64 y.f4.f7, .bool y.f4.f8, .slice qA13 y.f4.f9.length qc13, .slice qA14 y.f5.length qc14, .slice qA15 y.f6.length qc15, .bool y.f7][k]? = some v → wr.drew.cell? ((be.add (i * 17)).add k) = some v)) := ⟨fun k v hv => (HW.out.cell (World.block_lt_of_cell? w _ (HCA.out k v hv))).trans (HCA.out k v hv), fun k v hv => (HW.out.cell (World.block_lt_of_cell? w _ (HCB.out k v hv))).trans (HCB.out k v hv)⟩
   refine start_ (n := 10) (S := fun w' => (∀ (k : Nat) (v : Value), [.int .i64 y.f0, .int .i64 y.f1, .int .i64 y.f2, .slice pA3 y.f3.length pc3, .int .i64 y.f4.f0, .int .i64 y.f4.f1, .int .i64 y.f4.f2, .int .i64 y.f4.f3, .int .i64 y.f4.f4, .int .i64 y.f4.f5, .int .i64 y.f4.f6, .int .i64 y.f4.f7, .bool y.f4.f8, .slice pA13 y.f4.f9.length pc13, .slice pA14 y.f5.length pc14, .slice pA15 y.f6.length pc15, .bool y.f7][k]? = some v → w'.cell? ((ad.add (i * 17)).add k) = some v) ∧ (∀ (k : Nat) (v : Value), [.int .i64 y.f0, .int .i64 y.f1, .int .i64 y.f2, .slice qA3 y.f3.length qc3, .int .i64 y.f4.f0, .int .i64 y.f4.f1, .int .i64 y.f4.f2, .int .i64 y.f4.f3, .int .i64 y.f4.f4, .int .i64 y.f4.f5, .int .i64 y.f4.f6, .int .i64 y.f4.f7, .bool y.f4.f8, .slice qA13 y.f4.f9.length qc13, .slice qA14 y.f5.length qc14, .slice qA15 y.f6.length qc15, .bool y.f7][k]? = some v → w'.cell? ((be.add (i * 17)).add k) = some v)) (ds := [8]) (bm 10 0) (by kernel_rfl) rfl rfl HQ.out (fun hHeld => ?_); refine with_tabW al.tab6 al.bits6 (fun HT_ HW_ => ?_)
   clear HQ
   generalize wr.drew = wd at HW hHeld ⊢
   refine pP (i := 0) (N := some 16) (bm 10 1) rfl rfl HT_.out ?_
   refine pP (i := 1) (N := some 17) (bm 10 3) rfl rfl HT_.out ?_
   refine pP (i := 2) (N := some 18) (bm 10 7) rfl rfl HT_.out ?_
   refine pP (i := 4) (N := some 20) (bm 10 23) rfl rfl HT_.out ?_
   refine pP (i := 5) (N := some 21) (bm 10 55) rfl rfl HT_.out ?_
   refine pP (i := 6) (N := some 22) (bm 10 119) rfl rfl HT_.out ?_
   refine pT (i := 3) (N := some 19) (bm 10 127) rfl rfl HT_.out HW_.out hHeld (v := .agg #[.int .i64 y.f0, .int .i64 y.f1, .int .i64 y.f2, .slice pA3 y.f3.length pc3, .int .i64 y.f4.f0, .int .i64 y.f4.f1, .int .i64 y.f4.f2, .int .i64 y.f4.f3, .int .i64 y.f4.f4, .int .i64 y.f4.f5, .int .i64 y.f4.f6, .int .i64 y.f4.f7, .bool y.f4.f8, .slice pA13 y.f4.f9.length pc13, .slice pA14 y.f5.length pc14, .slice pA15 y.f6.length pc15, .bool y.f7]) (fun w' s0 => load_val 45 (.tmp 18) rfl (ad.add (i * 17)) (by first | rfl | (go_simp; done)) [.int .i64 y.f0, .int .i64 y.f1, .int .i64 y.f2, .slice pA3 y.f3.length pc3, .int .i64 y.f4.f0, .int .i64 y.f4.f1, .int .i64 y.f4.f2, .int .i64 y.f4.f3, .int .i64 y.f4.f4, .int .i64 y.f4.f5, .int .i64 y.f4.f6, .int .i64 y.f4.f7, .bool y.f4.f8, .slice pA13 y.f4.f9.length pc13, .slice pA14 y.f5.length pc14, .slice pA15 y.f6.length pc15, .bool y.f7] _ Try.underlying45 rfl (info45s.trans rfl) s0.1) ?_
   refine pT (i := 7) (N := some 23) (bm 10 255) rfl rfl HT_.out HW_.out hHeld (v := .agg #[.int .i64 y.f0, .int .i64 y.f1, .int .i64 y.f2, .slice qA3 y.f3.length qc3, .int .i64 y.f4.f0, .int .i64 y.f4.f1, .int .i64 y.f4.f2, .int .i64 y.f4.f3, .int .i64 y.f4.f4, .int .i64 y.f4.f5, .int .i64 y.f4.f6, .int .i64 y.f4.f7, .bool y.f4.f8, .slice qA13 y.f4.f9.length qc13, .slice qA14 y.f5.length qc14, .slice qA15 y.f6.length qc15, .bool y.f7]) (fun w' s0 => load_val 45 (.tmp 22) rfl (be.add (i * 17)) (by first | rfl | (go_simp; done)) [.int .i64 y.f0, .int .i64 y.f1, .int .i64 y.f2, .slice qA3 y.f3.length qc3, .int .i64 y.f4.f0, .int .i64 y.f4.f1, .int .i64 y.f4.f2, .int .i64 y.f4.f3, .int .i64 y.f4.f4, .int .i64 y.f4.f5, .int .i64 y.f4.f6, .int .i64 y.f4.f7, .bool y.f4.f8, .slice qA13 y.f4.f9.length qc13, .slice qA14 y.f5.length qc14, .slice qA15 y.f6.length qc15, .bool y.f7] _ Try.underlying45 rfl (info45s.trans rfl) s0.2) ?_
   refine last_ (i := 8) (N := some 24) (bm 10 511) rfl rfl (one_of HT_.out (by kernel_rfl)) (by decide) (fun K hK => ?_)
   refine goes_ Try.func24 (by kernel_rfl) rfl #[.agg #[.int .i64 y.f0, .int .i64 y.f1, .int .i64 y.f2, .slice pA3 y.f3.length pc3, .int .i64 y.f4.f0, .int .i64 y.f4.f1, .int .i64 y.f4.f2, .int .i64 y.f4.f3, .int .i64 y.f4.f4, .int .i64 y.f4.f5, .int .i64 y.f4.f6, .int .i64 y.f4.f7, .bool y.f4.f8, .slice pA13 y.f4.f9.length pc13, .slice pA14 y.f5.length pc14, .slice pA15 y.f6.length pc15, .bool y.f7], .agg #[.int .i64 y.f0, .int .i64 y.f1, .int .i64 y.f2, .slice qA3 y.f3.length qc3, .int .i64 y.f4.f0, .int .i64 y.f4.f1, .int .i64 y.f4.f2, .int .i64 y.f4.f3, .int .i64 y.f4.f4, .int .i64 y.f4.f5, .int .i64 y.f4.f6, .int .i64 y.f4.f7, .bool y.f4.f8, .slice qA13 y.f4.f9.length qc13, .slice qA14 y.f5.length qc14, .slice qA15 y.f6.length qc15, .bool y.f7]] (by rfl) rfl rfl (by first | rfl | (simp [Act.eval]; done)) ?_
   have hsm := HSX.out
   refine (gradineref40_Same.calls 1001 y.f0 y.f1 y.f2 _ _ y.f3 y.f4.f0 y.f4.f1 y.f4.f2 y.f4.f3 y.f4.f4 y.f4.f5 y.f4.f6 y.f4.f7 y.f4.f8 _ _ y.f4.f9 _ _ y.f5 _ _ y.f6 y.f7 y.f0 y.f1 y.f2 _ _ y.f3 y.f4.f0 y.f4.f1 y.f4.f2 y.f4.f3 y.f4.f4 y.f4.f5 y.f4.f6 y.f4.f7 y.f4.f8 _ _ y.f4.f9 _ _ y.f5 _ _ y.f6 y.f7 true wd (Kd.C_below HG3.out.1 HW.out) HL3.out.1 (Kd.C_below HG3.out.2.1 HW.out) HL3.out.2.1 (Kd.C_below HG3.out.2.2.1 HW.out) HL3.out.2.2.1 (Kd.C_below HG3.out.2.2.2 HW.out) HL3.out.2.2.2 (Kd.C_below HJ3.out.1 HW.out) HM3.out.1 (Kd.C_below HJ3.out.2.1 HW.out) HM3.out.2.1 (Kd.C_below HJ3.out.2.2.1 HW.out) HM3.out.2.2.1 (Kd.C_below HJ3.out.2.2.2 HW.out) HM3.out.2.2.2 (same_f 1001 y hsm (Nat.le_refl _))).mono ?_
   rintro e_ w5 ⟨rfl, hb⟩
   refine ⟨_, rfl, ?_⟩
   replace HW := aM (below_step HW.out hb)
   clear hb hsm
   refine hK.out _ _ ?_
   clear hK K
   refine norm_ (a' := ?_) ?_ ?_
   rotate_left
   ·show Act.put _ (some 24) _ = _
    simp only [Act.put, sP, i64_w, i32_w]
    rfl
   refine pP (i := 9) (N := some 25) (bm 10 1023) rfl rfl HT_.out ?_
   refine done_ (done_of HT_.out (by kernel_rfl)) ?_
   clear HT_ HW_
   try go_wp2
   go_roundg kq
   case measure => omega
   case rel => exact ⟨i + 1, by first | rfl | (rw [w64o (by omega) (by have := HI.out; have := HL.out; omega)]; rfl), ⟨by have := HI.out; omega⟩, HW⟩
end Pk
end Go.Proofs.Ytkohdojiockejaa.Q
