-- By wip/gprint.py (this session's), out of the kit's print.py.
import Derived.Test.YtmocfgkdclkgoaaQx0
import Derived.Test.YtmocfgkdclkgoaaQxfSpreadFits
import Derived.Test.YtmocfgkdclkgoaaQxfWalkAt
import Derived.Test.YtmocfgkdclkgoaaQxfWalkPlace
namespace Go.Proofs.Ytmocfgkdclkgoaa.Q
open Go.RowKit Go.Proofs.YtmocfgkdclkgoaaW.PrintWords Go.Proofs.YtmocfgkdclkgoaaW.PrintLast Go.Proofs.YtmocfgkdclkgoaaW.PrintMore
attribute [local go_sem] max2_int min2_int max_two min_two max_three min_three max_four min_four   -- for this text's walks alone
set_option linter.unusedVariables false
set_option linter.unusedSimpArgs false

/-! ### spread_Source: function 8 -/
mutual
def spread_Source.j0 : Nat → List Int → List Int → List Int → Bool → Option (Int × Bool)
 | 0, _, _, _, _ => none
 | k + 1, x0, x1, x8, x25 => if x25 = true then (some (0, false)) else (if 0 ≤ (wrap64 ((x1.length : Int) - (x0.length : Int))) then (if (wrap64 ((x1.length : Int) - (x0.length : Int))) ≤ (x8.length : Int) then (spread_Source.l0 k x0 (x8.drop ((wrap64 ((x1.length : Int) - (x0.length : Int))) : Int).toNat) x0 (x0.length : Int) 0) else (none)) else (none))
def spread_Source.l0 : Nat → List Int → List Int → List Int → Int → Int → Option (Int × Bool)
 | 0, _, _, _, _, _ => none
 | k + 1, x0, x8, x33, x34, x35 => if x35 < x34 then (if 0 ≤ x35 then (if x35 < (x33.length : Int) then (if (rd x33 x35) = 1 then (if x35 < (x8.length : Int) then (spread_Source.l0 k x0 (x8.set (x35 : Int).toNat 0) x33 x34 (wrap64 (x35 + 1))) else (none)) else (spread_Source.l0 k x0 x8 x33 x34 (wrap64 (x35 + 1)))) else (none)) else (none)) else ((walk_Place.f k x0 x8).bind fun bt194 => (some (bt194.1, bt194.2)))
end
def spread_Source.f (k : Nat) (l0 : List Int) (l1 : List Int) (a2 : Int) : Option (Int × Bool) := (walk_At.f k l1 a2).bind fun bt184 => (if bt184.2 = true then ((spread_Fits.f k l0 l1).bind fun ze => (spread_Source.j0 k l0 l1 bt184.1 (!ze))) else (spread_Source.j0 k l0 l1 bt184.1 true))
set_option maxHeartbeats 8000000 in
set_option maxRecDepth 100000 in
theorem spread_Source.calls (k : Nat) (A0 : Option Addr) (c0 : Nat) (l0 : List Int) (A1 : Option Addr) (c1 : Nat) (l1 : List Int) (a2 : Int) (r1 : Int) (r2 : Bool) (w : World) (hr0 : Kd.C (Kd.int .i64) w A0 l0.length l0) (hc0 : l0.length ≤ c0) (hr1 : Kd.C (Kd.int .i64) w A1 l1.length l1) (hc1 : l1.length ≤ c1) (h : spread_Source.f k l0 l1 a2 = some (r1, r2)) :
  Calls Try.prog 8 #[.slice A0 l0.length c0, .slice A1 l1.length c1, .int .i64 a2] w fun e w' => e = .returned (.tuple #[.int .i64 r1, .bool r2]) ∧ Below w.heap.size w w' := by
 have HR0 := aM hr0
 have HC0 := aM hc0
 clear hr0 hc0
 have HR1 := aM hr1
 have HC1 := aM hc1
 clear hr1 hc1
 have HB := aM (Below.refl w.heap.size w)
 have H : ((walk_At.f k l1 a2).bind fun bt184 => (if bt184.2 = true then ((spread_Fits.f k l0 l1).bind fun ze => (spread_Source.j0 k l0 l1 bt184.1 (!ze))) else (spread_Source.j0 k l0 l1 bt184.1 true))) = some (r1, r2) := h
 clear h
 replace H := Option.bind_eq_some_iff.mp H
 obtain ⟨⟨zb, zn⟩, A40, H⟩ := H
 try dsimp only at H
 have A4 := aM A40
 clear A40
 have HC5 := aM H
 clear H
 go_enter Try.func8, Try.ntmps8
 go_upto_region 2 with (first | ((with_reducible refine gate_callee (f := 14) rfl ?_); refine goesL_ (some 15) rfl rfl Try.func14 (by kernel_rfl) rfl #[.slice A1 l1.length c1, .int .i64 a2] rfl pA ?_; (with_reducible refine (walk_At.calls k _ _ l1 a2 zb zn _ ?s1 ?s2 A4.out).mono ?_); (case s1 => exact pC HR1.out); (case s2 => exact HC1.out); rintro e w6 ⟨v186, rfl, ho0, hb⟩; refine ⟨_, rfl, ?_⟩; have zd := aM (Kd.R_lower ho0 (below_size (qB HB))); replace HB := bS (qB HB) hb; (try clear hb); (try clear hk); (try clear hi); (try clear ho0)))
 (try simp only [Act.put, sP])
 go_cut [25] (fun v25 wc => ∃ (kq : Nat) (x25_4 : Bool), v25 = .bool x25_4 ∧ Aside0 (spread_Source.j0 kq l0 l1 zb x25_4 = some (r1, r2)) ∧ Aside0 (kq ≤ k) ∧ Aside0 (Kd.Q (Kd.int .i64) 3 wc w.heap.size (fun _ => True) v186 zb) ∧ Aside0 (Below w.heap.size w wc))
 case first =>
  have H := HC5.out
  clear HC5
  by_cases c7 : zn = true
  rotate_left
  ·replace c7 := Bool.eq_false_iff.mpr c7
   subst c7
   rw [if_neg (show ¬ (false = true) by decide)] at H
   have H' := aM H
   clear H
   go_wp2
   go_meet
   case rel => exact ⟨_, (true), (pF), H', ⟨by first | omega | exact Nat.le_refl _⟩, ⟨Kd.Q_of_R (pR zd.out)⟩, ⟨qB HB⟩⟩
  subst c7
  rw [if_pos rfl] at H
  replace H := Option.bind_eq_some_iff.mp H
  obtain ⟨ze, A80, H⟩ := H
  try dsimp only at H
  have A8 := aM A80
  clear A80
  have H' := aM H
  clear H
  go_wp2_with (first | (go_at_call 10; (with_reducible refine (spread_Fits.calls k _ _ l0 _ _ l1 ze _ ?s1 ?s2 ?s3 ?s4 A8.out).mono ?_); (case s1 => exact sC HR0 HB); (case s2 => exact HC0.out); (case s3 => exact sC HR1 HB); (case s4 => exact HC1.out); rintro e w9 ⟨rfl, hb⟩; replace zd := bR zd hb; replace HB := bS (qB HB) hb; (try clear hb); (try clear hk); (try clear hi)))
  go_meet
  case rel => exact ⟨_, (!ze), (pF), H', ⟨by first | omega | exact Nat.le_refl _⟩, ⟨Kd.Q_of_R (pR zd.out)⟩, ⟨qB HB⟩⟩
 case rest =>
  clear HC5
  try clear c1
  obtain ⟨kq, x25_4, rfl, HA, HJ4, za, HB⟩ := hcut
  cases kq with
  | zero => exact absurd HA.out (by simp [spread_Source.j0])
  | succ kj4 =>
   have H := HA.out
   clear HA
   simp only [spread_Source.j0] at H
   by_cases c10 : x25_4 = true
   ·subst c10
    rw [if_pos rfl] at H
    simp only [Option.some.injEq, Prod.mk.injEq] at H
    obtain ⟨rfl, rfl⟩ := H
    go_wp2
    go_ret2
    exact ⟨pE, qB HB⟩
   replace c10 := Bool.eq_false_iff.mpr c10
   subst c10
   rw [if_neg (show ¬ (false = true) by decide)] at H
   obtain ⟨ji11, hji11⟩ : ∃ j_ : Int, (wrap64 ((l1.length : Int) - (l0.length : Int))) = j_ := ⟨_, rfl⟩
   replace H : (if 0 ≤ (ji11) then (if (ji11) ≤ (zb.length : Int) then (spread_Source.l0 kj4 l0 (zb.drop ((ji11) : Int).toNat) l0 (l0.length : Int) 0) else (none)) else (none)) = some (r1, r2) := by first | (rw [hji11] at H; exact H) | (simp only [hji11] at H ⊢; exact H)
   have hji11w : (IntKind.i64.wrap ((l1.length : Int) - (l0.length : Int))) = ji11 := (i64_w _).trans hji11
   by_cases c12 : 0 ≤ (ji11)
   rotate_left
   ·rw [if_neg c12] at H
    exact absurd H (by simp)

   rw [if_pos c12] at H
   have c12b0 := eq_true c12
   have c12b1 : decide (0 ≤ (ji11)) = true := decide_eq_true c12
   clear c12
   by_cases c13 : (ji11) ≤ (zb.length : Int)
   rotate_left
   ·rw [if_neg c13] at H
    exact absurd H (by simp)
   rw [if_pos c13] at H
   have c13b0 := eq_true c13
   have c13b1 : decide ((ji11) ≤ (zb.length : Int)) = true := decide_eq_true c13
   clear c13
   obtain ⟨zc, zf⟩ : ∃ y_ : List Int, y_ = (zb.drop ((ji11) : Int).toNat) := ⟨_, rfl⟩
   replace H : (spread_Source.l0 kj4 l0 zc l0 (l0.length : Int) 0) = some (r1, r2) := pH zf H
   have zk := aM zf
   clear zf
   have H' := aM H
   clear H
   obtain ⟨zg, zj, eo14, _⟩ := Kd.Q_slice za.out
   subst eo14
   have q15 : ((ji11) : Int) ≤ ((zb.length : Int) : Int) := of_decide_eq_true pD
   obtain ⟨i015, hi015, _, hsz15, _⟩ := info_parts info3
   have hcut15 := cut_from (P := Try.prog) 22 3 .i64 Try.underlying22 hi015 1 hsz15 zg zb.length zj (ji11) (of_decide_eq_true pD) q15
   have hr15 := Kd.Q_drop (k := ((ji11) : Int).toNat) za.out (by omega)
   obtain ⟨A15, hA15⟩ : ∃ A1, A1 = (if zj = ((ji11) : Int).toNat then zg else (zg : Option Addr).map (·.add (((ji11) : Int).toNat * 1))) := ⟨_, rfl⟩
   obtain ⟨c15, hc15⟩ : ∃ c1, c1 = zj - ((ji11) : Int).toNat := ⟨_, rfl⟩
   have zl : zc.length = zb.length - ((ji11) : Int).toNat := (by rw [zk.out, List.length_drop])
   rw [← zk.out] at hr15
   rw [← zl, ← hA15, ← hc15] at hcut15
   replace hr15 : Kd.Q (Kd.int .i64) 3 wc w.heap.size (fun _ => True) (.slice A15 zc.length c15) zc := (by rw [hA15, hc15, zl]; exact hr15)
   have HE15 : Aside0 ((Value.slice A15 zc.length c15).ownBlock = (.slice zg zb.length zj : Value).ownBlock) := ⟨by rw [hA15]; split <;> (cases (zg : Option Addr) <;> first | rfl | (simp only [Value.ownBlock, Option.map]; unfold Addr.add; split <;> rfl))⟩
   clear zl hi015 hsz15 za hA15 hc15
   have HO191 := aM hr15
   clear hr15
   replace q15 := eq_true q15
   go_wp2
   go_loopg [35] kj4 (fun kq v35 w' => ∃ (x8_2 : List Int) (x35_2 : Int), v35 = .int .i64 x35_2 ∧ Aside0 (spread_Source.l0 kq l0 x8_2 l0 (l0.length : Int) x35_2 = some (r1, r2)) ∧ Aside0 (kq ≤ kj4) ∧ Aside0 (Kd.Q (Kd.int .i64) 3 w' w.heap.size (fun _ => True) (.slice A15 zc.length c15) x8_2) ∧ Aside0 (Below w.heap.size w w'))
   case atStart => exact ⟨(zc), (0), (pF), H', ⟨Nat.le_refl _⟩, ⟨by (with_reducible repeat (first | apply Kd.Q_alloc | apply Kd.Q_drewN | apply Kd.Q_drew)); exact HO191.out⟩, ⟨qB HB⟩⟩
   case round =>
    clear H'
    try clear c1
    try clear c10
    try clear c12b0
    try clear c12b1
    try clear c13b0
    try clear c13b1
    try clear c15
    try clear q15
    obtain ⟨x8_2, x35_2, rfl, HA, HK2, za, HB⟩ := hrel
    have hl8_2 := (Kd.Q_reads' za.out).1
    rw [hl8_2] at za
    (try simp only [hl8_2])
    cases gk with
    | zero => exact absurd HA.out (by simp [spread_Source.l0])
    | succ k2 =>
     have H := HA.out
     clear HA
     simp only [spread_Source.l0] at H
     by_cases c16 : x35_2 < (l0.length : Int)
     rotate_left
     ·rw [if_neg c16] at H
      have zh : decide (x35_2 < (l0.length : Int)) = false := decide_eq_false c16
      (try simp only [hl8_2] at zh)
      clear c16
      replace H := Option.bind_eq_some_iff.mp H
      obtain ⟨⟨t194, t195⟩, zo, H⟩ := H
      try dsimp only at H
      have A24 := aM zo
      clear zo
      simp only [Option.some.injEq, Prod.mk.injEq] at H
      obtain ⟨rfl, rfl⟩ := H
      go_wp2_with (first | ((with_reducible refine gate_callee (f := 15) rfl ?_); refine goesL_ (some 48) rfl rfl Try.func15 (by kernel_rfl) rfl #[.slice A0 l0.length c0, .slice A15 x8_2.length c15] rfl pA ?_; (with_reducible refine (walk_Place.calls k2 _ _ l0 _ _ x8_2 t194 t195 _ ?s1 ?s2 ?s3 ?s4 A24.out).mono ?_); (case s1 => exact sC HR0 HB); (case s2 => exact HC0.out); (case s3 => exact pC (Kd.Q_reads' za.out).2.2); (case s4 => exact (Kd.Q_reads' za.out).2.1); rintro e w' ⟨rfl, ⟨nd, rfl⟩⟩; refine ⟨_, rfl, ?_⟩))
      go_ret2
      exact ⟨by first | rfl | (simp [errW_none, errW_some] <;> rfl) | (simp only [← hji11]; first | rfl | (simp [errW_none, errW_some] <;> rfl)) | (simp [*, errW_none, errW_some] <;> rfl), qB HB⟩
     rw [if_pos c16] at H
     have zh : decide (x35_2 < (l0.length : Int)) = true := decide_eq_true c16
     (try simp only [hl8_2] at zh)
     clear c16
     by_cases c17 : 0 ≤ x35_2
     rotate_left
     ·rw [if_neg c17] at H
      exact absurd H (by simp)
     rw [if_pos c17] at H
     have c17b0 : decide (0 ≤ x35_2) = true := decide_eq_true c17
     clear c17
     by_cases c18 : x35_2 < (l0.length : Int)
     rotate_left
     ·rw [if_neg c18] at H
      exact absurd H (by simp)
     rw [if_pos c18] at H
     have c18b0 : decide (x35_2 < (l0.length : Int)) = true := decide_eq_true c18
     (try simp only [hl8_2] at c18b0)
     clear c18
     by_cases c19 : (rd l0 x35_2) = 1
     rotate_left
     ·rw [if_neg c19] at H
      have c19b0 : ((rd l0 x35_2) == 1) = false := beq_eq_false_iff_ne.mpr c19
      have c19b1 : ((rd l0 x35_2) != 1) = true := bne_iff_ne.mpr c19
      have H' := aM H
      clear H
      have p192 : 0 ≤ (x35_2 : Int) := of_decide_eq_true pD
      have q192 : x35_2 < (l0.length : Int) := of_decide_eq_true pD
      obtain ⟨ad192, e192, hx192_0⟩ := Kd.at_int HR0.out x35_2 p192 q192
      cases e192
      replace hx192_0 := (HB.out.cell (World.block_lt_of_cell? w _ hx192_0)).trans hx192_0
      replace p192 := eq_true p192
      replace q192 := eq_true q192
      go_wp2
      (try simp only [← hl8_2])
      go_roundg k2
      case measure => have := HJ4.out; have := HK2.out; omega
      case rel => exact ⟨(x8_2), (wrap64 (x35_2 + 1)), (pF), H', ⟨by have := HJ4.out; have := HK2.out; omega⟩, ⟨by (try simp only [hl8_2]); (with_reducible repeat (first | apply Kd.Q_alloc | apply Kd.Q_drewN | apply Kd.Q_drew)); exact za.out⟩, ⟨qB HB⟩⟩
     rw [if_pos c19] at H
     have c19b0 : ((rd l0 x35_2) == 1) = true := beq_iff_eq.mpr c19
     have c19b1 : ((rd l0 x35_2) != 1) = false := bne_eq_false_iff_eq.mpr c19
     clear c19
     by_cases c20 : x35_2 < (x8_2.length : Int)
     rotate_left
     ·rw [if_neg c20] at H
      exact absurd H (by simp)
     rw [if_pos c20] at H
     have c20b0 : decide (x35_2 < (x8_2.length : Int)) = true := decide_eq_true c20
     (try simp only [hl8_2] at c20b0)
     clear c20
     obtain ⟨zm, zi⟩ : ∃ y_ : List Int, y_ = (x8_2.set (x35_2 : Int).toNat 0) := ⟨_, rfl⟩
     replace H : (spread_Source.l0 k2 l0 zm l0 (l0.length : Int) (wrap64 (x35_2 + 1))) = some (r1, r2) := pH zi H
     have Ny193 := aM zi
     clear zi
     have H' := aM H
     clear H
     have p192 : 0 ≤ (x35_2 : Int) := of_decide_eq_true pD
     have q192 : x35_2 < (l0.length : Int) := of_decide_eq_true pD
     obtain ⟨ad192, e192, hx192_0⟩ := Kd.at_int HR0.out x35_2 p192 q192
     cases e192
     replace hx192_0 := (HB.out.cell (World.block_lt_of_cell? w _ hx192_0)).trans hx192_0
     replace p192 := eq_true p192
     replace q192 := eq_true q192
     have p21 : 0 ≤ (x35_2 : Int) := of_decide_eq_true pD
     have q21 : (x35_2 : Int) < ((x8_2.length : Int) : Int) := of_decide_eq_true pD
     obtain ⟨go21, oo21, co21, zp, zq, gl21, cl21, HG21⟩ := Kd.Q_form za.out (by omega)
     (first | cases zp | (injection zp with ea_ en_ ec_; (first | subst ea_ | (injection ea_ with ea_; subst ea_)); subst ec_; clear en_))
     have GB21 := aM zq
     have GG21 := aM HG21
     clear zq gl21 HG21
     obtain ⟨hx21_0, hf21_0⟩ := Kd.Q_cell 0 za.out (x35_2 : Int) p21 q21
     replace p21 := eq_true p21
     replace q21 := eq_true q21
     have HP22 := Kd.Q_putg za.out (x35_2 : Int) (of_decide_eq_true pD) (by have h_ : (x35_2 : Int) < ((x8_2.length : Int) : Int) := of_decide_eq_true pD; first | exact h_ | (have e_ := (Kd.Q_reads' za.out).1; omega) | simpa using h_) 0
     go_wp2_with (first | ((with_reducible refine gate_store (t := 3) (p := 44) rfl ?_); refine store_event (t := 3) (p := 44) (v := ?vo_w23) (w1 := (wr.setCell ⟨go21, oo21 + (x35_2 : Int).toNat, none⟩ (.int .i64 0))) ?hg ?ho ?hn ?hr ?_; (case ho => rfl); (case hg => rfl); (case hn => rfl); (case hr => first | (go_simp; done) | (go_simp; rfl)); intro w23 hw; have hg : wr.grownBy w23 (some go21) := (by rw [hw]; exact HP22.2); have hp_ : Kd.Q (Kd.int .i64) 3 w23 w.heap.size (fun _ => True) (.slice (some ⟨go21, oo21, none⟩) x8_2.length c15) zm := (by rw [hw, Ny193.out]; exact HP22.1); clear HP22; replace za := aM (hp_); replace HB := aM ((by rw [hw]; exact below_set (HB.out) GB21.out : Below w.heap.size w w23)); clear hg hw hp_))
     (try simp only [← hl8_2])
     go_roundg k2
     case measure => have := HJ4.out; have := HK2.out; omega
     case rel => exact ⟨(zm), (wrap64 (x35_2 + 1)), (pF), H', ⟨by have := HJ4.out; have := HK2.out; omega⟩, ⟨by (try simp only [hl8_2]); (with_reducible repeat (first | apply Kd.Q_alloc | apply Kd.Q_drewN | apply Kd.Q_drew)); exact za.out⟩, ⟨qB HB⟩⟩
end Go.Proofs.Ytmocfgkdclkgoaa.Q
