-- By wip/gprint.py (this session's), out of the kit's print.py.
import Derived.Test.YticcamciaohepaaQx0
namespace Go.Proofs.Yticcamciaohepaa.Q
open Go.RowKit Go.Proofs.YticcamciaohepaaW.PrintWords Go.Proofs.YticcamciaohepaaW.PrintLast Go.Proofs.YticcamciaohepaaW.PrintMore
attribute [local go_sem] max2_int min2_int max_two min_two max_three min_three max_four min_four   -- for this text's walks alone
set_option linter.unusedVariables false
set_option linter.unusedSimpArgs false

/-! ### shape_Check: function 22 (ours) -/
theorem GrW.rd_get (l : List Int) (k : Nat) (h : k < l.length) : rd l (k : Int) = l[k] := by
  simp [rd, List.getD_eq_getElem?_getD, List.getElem?_eq_getElem h]
theorem GrW.rd_pos (l : List Int) (k : Nat) (h : k < l.length) (hp : ∀ x ∈ l, 1 ≤ x) : 1 ≤ rd l (k : Int) := by
  rw [GrW.rd_get l k h]; exact hp _ (List.getElem_mem h)
theorem GrW.chk_8 (l : List Int) (h6 : ¬ 6 < l.length) (k : Nat) (h : k < l.length) (h1 : rd l (k : Int) < 1) : Gr.chk l = 8 := by
  rw [GrW.rd_get l k h] at h1
  unfold Gr.chk
  rw [if_neg h6, if_pos]
  rw [List.any_eq_true]
  exact ⟨l[k], List.getElem_mem h, by simpa using h1⟩
theorem GrW.all_succ (l : List Int) (k : Nat) (h : k < l.length) (ha : ∀ x ∈ l.take k, 1 ≤ x) (h1 : ¬ rd l (k : Int) < 1) : ∀ x ∈ l.take (k + 1), 1 ≤ x := by
  rw [GrW.rd_get l k h] at h1
  intro x hx
  rw [List.take_succ_eq_append_getElem h, List.mem_append] at hx
  rcases hx with hx | hx
  · exact ha x hx
  · simp at hx; omega
theorem GrW.prod_take_rd (l : List Int) (k : Nat) (h : k < l.length) : Gr.prod (l.take (k + 1)) = Gr.prod (l.take k) * rd l (k : Int) := by
  rw [GrW.rd_get l k h]; exact Gr.prod_take_succ l k h
theorem GrW.any_false (l : List Int) (hp : ∀ x ∈ l, 1 ≤ x) : (l.any fun x => decide (x < 1)) = false := by
  rw [List.any_eq_false]
  intro x hx
  have := hp x hx
  simp; omega
theorem GrW.chk_0 (l : List Int) (h6 : ¬ 6 < l.length) (hp : ∀ x ∈ l, 1 ≤ x) (h : Gr.prod l ≤ 64) : Gr.chk l = 0 := by
  unfold Gr.chk
  rw [if_neg h6, GrW.any_false l hp, if_neg (by simp), if_neg (by omega)]
theorem GrW.chk_12 (l : List Int) (h6 : ¬ 6 < l.length) (hp : ∀ x ∈ l, 1 ≤ x) (k : Nat) (h : k < l.length) (h2 : 64 / Gr.prod (l.take k) < rd l (k : Int)) : Gr.chk l = 12 := by
  have h1 := Gr.prod_pos (l.take k) (fun x hx => hp x (List.mem_of_mem_take hx))
  have h3 : 64 < rd l (k : Int) * Gr.prod (l.take k) := (Int.ediv_lt_iff_lt_mul (by omega)).1 h2
  have h4 := Gr.prod_take_le l hp (k + 1)
  rw [GrW.prod_take_rd l k h, Int.mul_comm] at h4
  unfold Gr.chk
  rw [if_neg h6, GrW.any_false l hp, if_neg (by simp), if_pos (by omega)]
theorem GrW.mul_le_of_div (l : List Int) (k : Nat) (h1 : 1 ≤ Gr.prod (l.take k)) (h : rd l (k : Int) ≤ 64 / Gr.prod (l.take k)) : Gr.prod (l.take k) * rd l (k : Int) ≤ 64 := by
  have := (Int.le_ediv_iff_mul_le (by omega)).1 h
  rw [Int.mul_comm]; exact this

def shape_Check.f (l0 : List Int) : Option Int := some (Gr.chk l0)
set_option maxHeartbeats 400000 in
set_option maxRecDepth 100000 in
theorem shape_Check.calls (A0 : Option Addr) (c0 : Nat) (l0 : List Int) (r : Int) (w : World) (hr0 : Kd.C (Kd.int .i64) w A0 l0.length l0) (hc0 : l0.length ≤ c0) (h : shape_Check.f l0 = some r) :
    Calls Try.prog 22 #[.slice A0 l0.length c0] w fun e w' => e = .returned (.int .i64 r) ∧ Drawn0 w w' := by
  have HR0 := Aside0.mk hr0
  clear hr0 hc0
  obtain rfl := Option.some.inj h
  clear h
  by_cases h6 : 6 < l0.length
  · have h6b : decide (6 < l0.length) = true := decide_eq_true h6
    have h6c : decide (6 < (l0.length : Int)) = true := decide_eq_true (by omega)
    have hr : Gr.chk l0 = 9 := by simp [Gr.chk, h6]
    have HH := Aside0.mk hr
    clear hr
    go_enter Try.func22, Try.ntmps22
    go_wp2
    go_step3
    go_wp2
    try rw [Exit.noGoto_ret]
    go_ret
    exact ⟨by rw [HH.out]; rfl, Drawn0.refl _⟩
  · have h6b : decide (6 < l0.length) = false := decide_eq_false h6
    have h6c : decide (6 < (l0.length : Int)) = false := decide_eq_false (by omega)
    have hlen : (l0.length : Int) ≤ 6 := by omega
    go_enter Try.func22, Try.ntmps22
    go_wp2
    go_step3
    go_wp2
    go_loop [13] (fun i => ∃ k : Nat, k ≤ l0.length ∧ i = .int .i64 k ∧ Aside0 (∀ x ∈ l0.take k, 1 ≤ x)) (fun i => l0.length - (intOf i).toNat)
    case atStart => exact ⟨0, by omega, rfl, ⟨by simp⟩⟩
    case round =>
      obtain ⟨k, hk, rfl, HA⟩ := hrel
      by_cases hlt : k < l0.length
      · have hb : decide ((k : Int) < (l0.length : Int)) = true := decide_eq_true (by omega)
        obtain ⟨ad, e, hx⟩ := Kd.at_int HR0.out (k : Int) (by omega) (by omega)
        cases e
        rw [Int.toNat_natCast] at hx
        by_cases h1 : rd l0 (k : Int) < 1
        · have h1b : decide (rd l0 (k : Int) < 1) = true := decide_eq_true h1
          have HH : Aside0 (Gr.chk l0 = 8) := Aside0.mk (GrW.chk_8 l0 h6 k hlt h1)
          go_wp2
          try rw [Exit.noGoto_ret]
          go_ret
          exact ⟨by rw [HH.out]; rfl, Drawn0.refl _⟩
        · have h1b : decide (rd l0 (k : Int) < 1) = false := decide_eq_false h1
          have HA1 := Aside0.mk (GrW.all_succ l0 k hlt HA.out h1)
          go_wp2
          go_round
          case measure => simp [intOf]; omega
          case rel => exact ⟨k + 1, by omega, by go_num, HA1⟩
      · have hb : decide ((k : Int) < (l0.length : Int)) = false := decide_eq_false (by omega)
        have HP : Aside0 (∀ x ∈ l0, 1 ≤ x) := ⟨by have := HA.out; rwa [List.take_of_length_le (by omega)] at this⟩
        clear HA
        go_wp2
        go_step3
        go_wp2
        go_loop [5, 22] (fun n i => ∃ k : Nat, k ≤ l0.length ∧ i = .int .i64 k ∧ n = .int .i64 (Gr.prod (l0.take k)) ∧ Gr.prod (l0.take k) ≤ 64) (fun n i => l0.length - (intOf i).toNat)
        case atStart => exact ⟨0, by omega, rfl, rfl, by simp [Gr.prod]⟩
        case round =>
          obtain ⟨k, hk, rfl, rfl, h64⟩ := hrel
          have hp1 := Gr.prod_pos (l0.take k) (fun x hx => HP.out x (List.mem_of_mem_take hx))
          by_cases hlt : k < l0.length
          · have hb : decide ((k : Int) < (l0.length : Int)) = true := decide_eq_true (by omega)
            obtain ⟨ad, e, hx⟩ := Kd.at_int HR0.out (k : Int) (by omega) (by omega)
            cases e
            rw [Int.toNat_natCast] at hx
            have hs := Aside0.mk (GrW.prod_take_rd l0 k hlt)
            have hx1 : 1 ≤ rd l0 (k : Int) := GrW.rd_pos l0 k hlt HP.out
            by_cases h1 : rd l0 (k : Int) = 1
            · have h1b : (rd l0 (k : Int) == 1) = true := by rw [h1]; rfl
              have hs2 : Aside0 (Gr.prod (l0.take (k + 1)) = Gr.prod (l0.take k)) := Aside0.mk (by rw [hs.out, h1]; omega)
              clear h1
              go_wp2
              go_round
              case measure => simp [intOf]; omega
              case rel => exact ⟨k + 1, by omega, by go_num, by rw [hs2.out], by rw [hs2.out]; exact h64⟩
            · have h1b : (rd l0 (k : Int) == 1) = false := beq_eq_false_iff_ne.mpr h1
              by_cases h2 : 64 / Gr.prod (l0.take k) < rd l0 (k : Int)
              · have h2b : decide (64 / Gr.prod (l0.take k) < rd l0 (k : Int)) = true := decide_eq_true h2
                have HH : Aside0 (Gr.chk l0 = 12) := Aside0.mk (GrW.chk_12 l0 h6 HP.out k hlt h2)
                go_wp2
                try rw [Exit.noGoto_ret]
                go_ret
                exact ⟨by rw [HH.out]; rfl, Drawn0.refl _⟩
              · have h2b : decide (64 / Gr.prod (l0.take k) < rd l0 (k : Int)) = false := decide_eq_false h2
                have h3 := GrW.mul_le_of_div l0 k hp1 (by omega : rd l0 (k : Int) ≤ 64 / Gr.prod (l0.take k))
                have h4 : 0 ≤ Gr.prod (l0.take k) * rd l0 (k : Int) := Int.mul_nonneg (by omega) (by omega)
                go_wp2
                go_round
                case measure => simp [intOf]; omega
                case rel => exact ⟨k + 1, by omega, by go_num, by rw [hs.out], by rw [hs.out]; exact h3⟩
          · have hb : decide ((k : Int) < (l0.length : Int)) = false := decide_eq_false (by omega)
            have HH : Aside0 (Gr.chk l0 = 0) := Aside0.mk (GrW.chk_0 l0 h6 HP.out (by rwa [List.take_of_length_le (by omega)] at h64))
            go_wp2
            try rw [Exit.noGoto_ret]
            go_ret
            exact ⟨by rw [HH.out]; rfl, Drawn0.refl _⟩

end Go.Proofs.Yticcamciaohepaa.Q
