/- The writer: a list of commands. -/
import Derived.Test.YtkohdojiockejaaQxfPlainBytes
import Derived.Test.YtkohdojiockejaaQxfLaw45Many
import Derived.Test.YtkohdojiockejaaQxfRef45Encode
import Derived.Test.YtkohdojiockejaaPackW0
import Derived.Test.YtkohdojiockejaaPackW1
import Derived.Test.YtkohdojiockejaaPackW2
namespace Go.Proofs.Ytkohdojiockejaa.Q
open Go.RowKit Go.Proofs.YtkohdojiockejaaW.PrintWords Go.Proofs.YtkohdojiockejaaW.PrintLast Go.Proofs.YtkohdojiockejaaW.PrintMore
attribute [local go_sem] max2_int min2_int max_two min_two max_three min_three max_four min_four
set_option linter.unusedVariables false
set_option linter.unusedSimpArgs false
namespace Pk
theorem info45s : (Try.prog.info? 45).map (·.size) = some 17 := by kernel_rfl
section
variable {P : Program} {ops : Array Oper} {o : Oper} {rest : List Oper} {a : Act} {Q : Exit → Act → World → Prop}
theorem gate_store {W : World} {ty : TypeId} {x y : Operand} (_ho : o.op = .store ty x y) (h : wpList P ops Q (o :: rest) a W) : wpList P ops Q (o :: rest) a W := h
theorem run_loadVar_at (W : World) (ty : TypeId) (p : Addr) (vs : List Value) (d : TypeDesc) (hu : P.underlying ty = some d) (hd : (match d with | .struct _ | .array _ _ => true | _ => false) = true) (hi : (P.info? ty).map (·.size) = some vs.length) (hc : ∀ k v, vs[k]? = some v → W.cell? (p.add k) = some v) : (loadVar ty p).run P W = .ok (.agg vs.toArray) W := by
  have hl := run_loadCells_list (P := P) W p vs hc
  cases hq : P.info? ty with
  | none => simp [hq] at hi
  | some i =>
    have hs : i.size = vs.length := by simpa [hq] using hi
    have hagg : (isAgg ty).run P W = .ok true W := by
      unfold isAgg
      rw [Sem.run_bind, run_underlying hu W]
      cases d <;> simp_all
    simp [loadVar, Sem.run_bind, hagg, sizeOf, typeInfo, hq, hs, hl]
theorem ev_load {W : World} (hgd : o.guard = none) (ty : TypeId) (x : Operand) (ho : o.op = .load ty x) (p : Addr) (hx : a.eval x = .pointer (some p)) (vs : List Value) (d : TypeDesc) (hu : P.underlying ty = some d) (hd : (match d with | .struct _ | .array _ _ => true | _ => false) = true) (hi : (P.info? ty).map (·.size) = some vs.length) (hc : ∀ k v, vs[k]? = some v → W.cell? (p.add k) = some v)
    (h : wpList P ops Q rest (a.put o.dst (.agg vs.toArray)) W) : wpList P ops Q (o :: rest) a W :=
  wpList_plain hgd fun _ hK => by
    unfold Oper.wp execOp
    simp only [ho, hx, Instr.loadAt, Instr.sureAddr, Sem.run_bind, Sem.run_pure, Result.andThen_ok, run_loadVar_at W ty p vs d hu hd hi hc]
    exact hK _ _ h
end
theorem bel_row {B g : Nat} {w0 w : World} (hb : Below B w0 w) (hg : B ≤ g) (cs : Array Value) : Below B w0 (w.setRow g cs) :=
  ⟨hb.os, hb.tape, hb.output, by rw [setRow_size]; exact hb.size, fun k hk => (setRow_other w g k cs (by omega)).trans (hb.block k hk)⟩
theorem get45 {w : World} {A : Option Addr} {n : Nat} {xs : List S45} (h : Kd.C k45 w A n xs) (i : Nat) (h1 : i < n) : ∃ ad A3 c3 A13 c13 A14 c14 A15 c15, ∃ x, x = rd_T45 xs (i : Int) ∧ A = some ad ∧ (∀ (k : Nat) (v : Value), [.int .i64 x.f0, .int .i64 x.f1, .int .i64 x.f2, .slice A3 x.f3.length c3, .int .i64 x.f4.f0, .int .i64 x.f4.f1, .int .i64 x.f4.f2, .int .i64 x.f4.f3, .int .i64 x.f4.f4, .int .i64 x.f4.f5, .int .i64 x.f4.f6, .int .i64 x.f4.f7, .bool x.f4.f8, .slice A13 x.f4.f9.length c13, .slice A14 x.f5.length c14, .slice A15 x.f6.length c15, .bool x.f7][k]? = some v → w.cell? ((ad.add (i * 17)).add k) = some v) ∧ (Kd.int .i64).C w A3 x.f3.length x.f3 ∧ (Kd.int .i64).C w A13 x.f4.f9.length x.f4.f9 ∧ (Kd.int .i64).C w A14 x.f5.length x.f5 ∧ k71.C w A15 x.f6.length x.f6 := by
  obtain ⟨ad, c, e, _, hK, hc0⟩ := Kd.C_get h z45 (i : Int) (by omega) (by omega)
  obtain ⟨A3, c3, A13, c13, A14, c14, A15, c15, rfl, _, g3, _, g13, _, g14, _, g15⟩ := k45_open hK
  exact ⟨ad, A3, c3, A13, c13, A14, c14, A15, c15, _, rfl, e, fun k v hv => by rw [Addr.add_add]; exact hc0 k v hv, g3, g13, g14, g15⟩
/-- The code that a list of commands is written with. -/
def encC (l : List S45) : Int := if (decide (200 < l.length) || l.any longC) = true then 3 else 0
/-- The bytes that it is written as. -/
def encB (l : List S45) : List Int := if (decide (200 < l.length) || l.any longC) = true then [] else eN (l.length : Int) ++ l.flatMap eC
theorem drop45 {l : List S45} {i : Nat} (h : i < l.length) : l.drop i = rd_T45 l (i : Int) :: l.drop (i + 1) := by
  unfold rd_T45
  rw [Int.toNat_natCast, List.getD_eq_getElem?_getD, List.getElem?_eq_getElem h]
  exact (List.getElem_cons_drop h).symm
theorem mem45 {l : List S45} {i : Nat} (h : i < l.length) : rd_T45 l (i : Int) ∈ l := by
  unfold rd_T45
  rw [Int.toNat_natCast, List.getD_eq_getElem?_getD, List.getElem?_eq_getElem h]
  exact List.getElem_mem _
theorem eC_len {c : S45} (h : smC c) : (eC c).length ≤ 20000 := by
  have L1 := fl_len eN_len [c.f0, c.f1, c.f2]
  have L2 := eL_len c.f3
  have L3 := fl_len eN_len [c.f4.f0, c.f4.f1, c.f4.f2, c.f4.f3, c.f4.f4, c.f4.f5, c.f4.f6, c.f4.f7]
  have L4 := eB_len c.f4.f8
  have L5 := eL_len c.f4.f9
  have L6 := eL_len c.f5
  have L7 := eN_len (c.f6.length : Int)
  have L8 := fl_len eT_len c.f6
  have L9 := eB_len c.f7
  have h9 := h.sa; have h10 := h.sb; have h11 := h.sc; have h12 := h.sd
  unfold eC
  simp only [List.length_append, List.length_cons, List.length_nil] at *
  omega
set_option maxHeartbeats 16000000 in
set_option maxRecDepth 100000 in
theorem Encode.calls (A : Option Addr) (c : Nat) (l : List S45) (W : World) (hr : Kd.C k45 W A l.length l) (hok : ∀ x ∈ l, okC x) (hsm : ∀ x ∈ l, smC x) (hl : l.length ≤ 210) :
  Calls Try.prog 8 #[.slice A l.length c] W fun e w' => ∃ v, e = .returned (.tuple #[v, .int .i64 (encC l)]) ∧ Kd.R (Kd.int .u8) 5 w' W.heap.size (fun _ => True) v (encB l) ∧ Below W.heap.size W w' := by
 have hu48 := Try.underlying48
 have hu45 := Try.underlying45
 have hu42 := Try.underlying42
 have hu71 := Try.underlying71
 have HR := aM hr
 have OK := aM hok
 have SM := aM hsm
 have HL := aM hl
 clear hr hok hsm hl
 by_cases h200 : 200 < l.length
 ·have d1 : decide ((l.length : Int) > 200) = true := decide_eq_true (by omega)
  have d2 : decide (200 < (l.length : Int)) = true := decide_eq_true (by omega)
  have e1 : encC l = 3 := by unfold encC; rw [decide_eq_true h200]; rfl
  have e2 : encB l = [] := by unfold encB; rw [decide_eq_true h200]; rfl
  rw [e1, e2]
  clear h200
  go_enter Try.func8, Try.ntmps8
  go_wp2
  go_ret2
  exact ⟨_, rfl, pN, by repeat (first | exact Below.refl _ _ | apply below_alloc | apply pw_below_drewN | apply below_drew1)⟩
 ·have d1 : decide ((l.length : Int) > 200) = false := decide_eq_false (by omega)
  have d2 : decide (200 < (l.length : Int)) = false := decide_eq_false (by omega)
  obtain ⟨LG, hlg⟩ : ∃ r, l.any longC = r := ⟨_, rfl⟩
  obtain ⟨rs, hrs⟩ : ∃ r, eN (l.length : Int) ++ l.flatMap eC = r := ⟨_, rfl⟩
  have e1 : encC l = if LG = true then 3 else 0 := by unfold encC; rw [decide_eq_false h200, hlg]; rfl
  have e2 : encB l = if LG = true then [] else rs := by unfold encB; rw [decide_eq_false h200, hlg, hrs]; rfl
  rw [e1, e2]
  clear e1 e2 h200
  have HRS := aM hrs
  have HLG := aM hlg
  clear hrs hlg
  go_enter Try.func8, Try.ntmps8
  go_wp2_with (first | ((with_reducible refine gate_dst (N := 11) rfl ?_); refine box_event ?hg (N := 11) ?hd (cs := #[.slice none 0 0, .bool false]) (t := 48) ?hr ?_; (case hd => rfl); (case hg => rfl); (case hr => first | (go_simp; done) | (go_simp; rfl)); intro gw hg_ w2 hbox hb; have HW : Aside0 (Wr W w2 gw [] false) := aM ⟨⟨_, hbox, pN⟩, Nat.le_of_eq hg_.symm, hb⟩; clear hg_ hb hbox) | ((with_reducible refine gate_dst (N := 15) rfl ?_); refine lit ?hg (N := 15) ?hd (cs := #[.int .i64 (l.length : Int)]) (t := 3) (n := 1) ?hr ?_; (case hd => rfl); (case hg => rfl); (case hr => first | (go_simp; done) | (go_simp; rfl)); intro gl hg w3 hbox hb; have BL := aM hbox; replace HW := aM (HW.out.step hb); clear hg hbox hb) | ((with_reducible refine gate_callee (f := 15) rfl ?_); refine goesL_ (some 16) rfl rfl Try.func15 (by kernel_rfl) rfl #[.pointer (some ⟨gw, 0, none⟩), .slice (some ⟨gl, 0, none⟩) 1 1] rfl pA ?_; (refine (number1 gw gl _ _ (l.length : Int) W _ HW.out BL.out (⟨by omega, by have := HL.out; omega⟩) (by simp)).mono ?_); rintro e w4 ⟨rfl, h1, h2⟩; refine ⟨_, rfl, ?_⟩; rw [List.nil_append] at h1; replace HW := aM h1; clear h1 h2 BL))
  go_loopg [19] l.length (fun kq v19 w' => ∃ (i : Nat) (cs : List Int) (lg : Bool), v19 = .int .i64 (i : Int) ∧ Aside0 (i + kq = l.length) ∧ Aside0 (cs ++ (l.drop i).flatMap eC = rs) ∧ Aside0 ((lg || (l.drop i).any longC) = LG) ∧ Aside0 (cs.length + 20000 * kq ≤ 5000000) ∧ Aside0 (Wr W w' gw cs lg))
  case atStart => exact ⟨0, _, false, rfl, ⟨by omega⟩, HRS, HLG, ⟨by have h1 := eN_len (l.length : Int); have h2 := HL.out; omega⟩, ⟨HW.out.step (by repeat (first | exact Below.refl _ _ | apply below_alloc | apply pw_below_drewN | apply below_drew1))⟩⟩
  case round =>
   clear HW HRS HLG
   obtain ⟨i, cs, lg, rfl, HK, HA, HLG, HC, HW⟩ := hrel
   cases gk with
   | succ kq =>
    have hi : i < l.length := by have := HK.out; omega
    have d1 : decide ((i : Int) < (l.length : Int)) = true := decide_eq_true (by omega)
    have d2 : decide (i < l.length) = true := decide_eq_true hi
    have p1 : (0 ≤ (i : Int)) = True := eq_true (by omega)
    have q1 : ((i : Int) < (l.length : Int)) = True := eq_true (by omega)
    have q2 : (i < l.length) = True := eq_true hi
    obtain ⟨ad, A3, c3, A13, c13, A14, c14, A15, c15, x, hx', ead, hc, r3, r13, r14, r15⟩ := get45 HR.out i hi
    cases ead
    have hm := HA.out
    rw [drop45 hi, List.flatMap_cons, ← hx'] at hm
    have hn := HLG.out
    rw [drop45 hi, List.any_cons, ← hx'] at hn
    have ho := OK.out _ (mem45 hi)
    have hs := SM.out _ (mem45 hi)
    rw [← hx'] at ho hs
    have HA2 := aM (show (cs ++ eC x) ++ (l.drop (i + 1)).flatMap eC = rs by rw [List.append_assoc]; exact hm)
    have HLG2 := aM (show ((lg || longC x) || (l.drop (i + 1)).any longC) = LG by rw [Bool.or_assoc]; exact hn)
    have HO := aM ho
    have HS := aM hs
    have R3 := aM r3
    have R13 := aM r13
    have R14 := aM r14
    have R15 := aM r15
    have mv : ∀ {a : Addr} {v : Value}, W.cell? a = some v → wr.cell? a = some v := fun h_ => (HW.out.bel.cell (World.block_lt_of_cell? W _ h_)).trans h_
    have HX := aM (fun k v h_ => mv (hc k v h_))
    clear hi hc r3 r13 r14 r15 hm hn ho hs hx' HA HLG mv
    go_wp2_with (first | ((with_reducible refine gate_dst (N := 22) rfl ?_); refine ev_load rfl 45 (.tmp 21) rfl (ad.add (i * 17)) ?hx [.int .i64 x.f0, .int .i64 x.f1, .int .i64 x.f2, .slice A3 x.f3.length c3, .int .i64 x.f4.f0, .int .i64 x.f4.f1, .int .i64 x.f4.f2, .int .i64 x.f4.f3, .int .i64 x.f4.f4, .int .i64 x.f4.f5, .int .i64 x.f4.f6, .int .i64 x.f4.f7, .bool x.f4.f8, .slice A13 x.f4.f9.length c13, .slice A14 x.f5.length c14, .slice A15 x.f6.length c15, .bool x.f7] _ Try.underlying45 rfl (info45s.trans rfl) HX.out ?_; (case hx => first | rfl | (go_simp; done))) | ((with_reducible refine gate_dst (N := 6) rfl ?_); refine box_event ?hg (N := 6) ?hd (cs := #[.int .i64 0, .int .i64 0, .int .i64 0, .slice none 0 0, .int .i64 0, .int .i64 0, .int .i64 0, .int .i64 0, .int .i64 0, .int .i64 0, .int .i64 0, .int .i64 0, .bool false, .slice none 0 0, .slice none 0 0, .slice none 0 0, .bool false]) (t := 45) ?hr ?_; (case hd => rfl); (case hg => rfl); (case hr => first | (go_simp; done) | (go_simp; rfl)); intro gx hg_ wx hbox hb; have BX0 := aM hbox; have GX := aM (Nat.le_of_eq hg_.symm); have HX1 := aM hb; clear hb hbox hg_) | ((with_reducible refine gate_store (x := .tmp 6) (y := .tmp 22) rfl ?_); refine wpList_store_row rfl 45 (.tmp 6) (.tmp 22) rfl ?hg ?hcs ?hx ?hy ?hty ?hold0 ?hbx ?hi ?hold ?h1 ?_; (case hbx => exact BX0.out); (case hx => rfl); (case hy => rfl); (case hold => rfl); (case hi => exact info45s.trans rfl); (case h1 => first | rfl | (simp [Value.oneCell']; done) | (go_simp; done)); have BX := aM (setRow_heap _ gx _ #[.int .i64 x.f0, .int .i64 x.f1, .int .i64 x.f2, .slice A3 x.f3.length c3, .int .i64 x.f4.f0, .int .i64 x.f4.f1, .int .i64 x.f4.f2, .int .i64 x.f4.f3, .int .i64 x.f4.f4, .int .i64 x.f4.f5, .int .i64 x.f4.f6, .int .i64 x.f4.f7, .bool x.f4.f8, .slice A13 x.f4.f9.length c13, .slice A14 x.f5.length c14, .slice A15 x.f6.length c15, .bool x.f7] _ _ BX0.out); replace HW := aM (HW.out.step (bel_row HX1.out GX.out #[.int .i64 x.f0, .int .i64 x.f1, .int .i64 x.f2, .slice A3 x.f3.length c3, .int .i64 x.f4.f0, .int .i64 x.f4.f1, .int .i64 x.f4.f2, .int .i64 x.f4.f3, .int .i64 x.f4.f4, .int .i64 x.f4.f5, .int .i64 x.f4.f6, .int .i64 x.f4.f7, .bool x.f4.f8, .slice A13 x.f4.f9.length c13, .slice A14 x.f5.length c14, .slice A15 x.f6.length c15, .bool x.f7])); clear BX0 HX1 GX HX; generalize wx.setRow gx #[.int .i64 x.f0, .int .i64 x.f1, .int .i64 x.f2, .slice A3 x.f3.length c3, .int .i64 x.f4.f0, .int .i64 x.f4.f1, .int .i64 x.f4.f2, .int .i64 x.f4.f3, .int .i64 x.f4.f4, .int .i64 x.f4.f5, .int .i64 x.f4.f6, .int .i64 x.f4.f7, .bool x.f4.f8, .slice A13 x.f4.f9.length c13, .slice A14 x.f5.length c14, .slice A15 x.f6.length c15, .bool x.f7] = wy at HW BX ⊢) | ((with_reducible refine gate_dst (N := 24) rfl ?_); refine wpList_load_row rfl 45 (.tmp 6) rfl gx ?hx 45 #[.int .i64 x.f0, .int .i64 x.f1, .int .i64 x.f2, .slice A3 x.f3.length c3, .int .i64 x.f4.f0, .int .i64 x.f4.f1, .int .i64 x.f4.f2, .int .i64 x.f4.f3, .int .i64 x.f4.f4, .int .i64 x.f4.f5, .int .i64 x.f4.f6, .int .i64 x.f4.f7, .bool x.f4.f8, .slice A13 x.f4.f9.length c13, .slice A14 x.f5.length c14, .slice A15 x.f6.length c15, .bool x.f7] (0, 0) _ BX.out Try.underlying45 rfl (info45s.trans rfl) ?_; (case hx => rfl)) | ((with_reducible refine gate_callee (f := 16) rfl ?_); refine goesL_ (some 25) rfl rfl Try.func16 (by kernel_rfl) rfl #[.pointer (some ⟨gw, 0, none⟩), .agg #[.int .i64 x.f0, .int .i64 x.f1, .int .i64 x.f2, .slice A3 x.f3.length c3, .int .i64 x.f4.f0, .int .i64 x.f4.f1, .int .i64 x.f4.f2, .int .i64 x.f4.f3, .int .i64 x.f4.f4, .int .i64 x.f4.f5, .int .i64 x.f4.f6, .int .i64 x.f4.f7, .bool x.f4.f8, .slice A13 x.f4.f9.length c13, .slice A14 x.f5.length c14, .slice A15 x.f6.length c15, .bool x.f7]] rfl pA ?_; (refine (command.calls gw _ _ x A3 c3 A13 c13 A14 c14 A15 c15 W _ HW.out R3.out R13.out R14.out R15.out HO.out HS.out (by have := HC.out; omega)).mono ?_); rintro e w25 ⟨rfl, h1, h2⟩; refine ⟨_, rfl, ?_⟩; replace HW := aM h1; clear h1 h2))
    go_roundg kq
    case measure => omega
    case rel => exact ⟨i + 1, cs ++ eC x, lg || longC x, by first | rfl | (rw [w64o (by have := HK.out; have := HL.out; omega) (by have := HK.out; have := HL.out; omega)]; rfl), ⟨by have := HK.out; omega⟩, HA2, HLG2, ⟨by have h1 := HC.out; have h2 := eC_len HS.out; rw [List.length_append]; omega⟩, HW⟩
   | zero =>
    have hin : i = l.length := by have := HK.out; omega
    clear HK
    have hA := HA.out
    rw [hin, List.drop_length, List.flatMap_nil, List.append_nil] at hA
    have hB := HLG.out
    rw [hin, List.drop_length, List.any_nil, Bool.or_false] at hB
    subst hA
    subst hB
    subst hin
    clear HA HLG
    have d1 : decide ((l.length : Int) < (l.length : Int)) = false := decide_eq_false (by omega)
    have d2 : decide (l.length < l.length) = false := decide_eq_false (by omega)
    obtain ⟨v, hb, hr⟩ := HW.out.ex
    obtain ⟨A9, c9, rfl⟩ := Kd.R_slice hr
    have HB := aM hb
    have HO := aM hr
    have HBL := aM HW.out.bel
    clear hb hr HW
    have hczs := blk2 HB.out
    cases lg with
    | true =>
     go_wp2
     go_ret2
     exact ⟨_, rfl, pN, pB HBL.out⟩
    | false =>
     go_wp2
     go_ret2
     exact ⟨_, rfl, Kd.R_mono (pR HO.out) (fun _ _ => trivial), pB HBL.out⟩
end Pk
end Go.Proofs.Ytkohdojiockejaa.Q
