/- The reader: a list, a truth. -/
import Derived.Test.YtkohdojiockejaaQxfPlainBytes
import Derived.Test.YtkohdojiockejaaQxfLaw45Many
import Derived.Test.YtkohdojiockejaaQxfRef45Encode
import Derived.Test.YtkohdojiockejaaPackBits
import Derived.Test.YtkohdojiockejaaPackW0
import Derived.Test.YtkohdojiockejaaPackR0
import Derived.Test.YtkohdojiockejaaPackR1
namespace Go.Proofs.Ytkohdojiockejaa.Q
open Go.RowKit Go.Proofs.YtkohdojiockejaaW.PrintWords Go.Proofs.YtkohdojiockejaaW.PrintLast Go.Proofs.YtkohdojiockejaaW.PrintMore
attribute [local go_sem] max2_int min2_int max_two min_two max_three min_three max_four min_four
set_option linter.unusedVariables false
set_option linter.unusedSimpArgs false
namespace Pk
/-- What is read: a value and the rest, or an error's code. -/
inductive Rd (α : Type) where
  | ok (x : α) (l : List Int)
  | bad (k : Int)
def Rd.next {α β : Type} : Rd α → (α → List Int → Rd β) → Rd β
  | .ok x l, f => f x l
  | .bad k, _ => .bad k
@[simp] theorem next_ok {α β : Type} (x : α) (l : List Int) (f : α → List Int → Rd β) : (Rd.ok x l).next f = f x l := rfl
@[simp] theorem next_bad {α β : Type} (k : Int) (f : α → List Int → Rd β) : (Rd.bad k : Rd α).next f = .bad k := rfl
def rw_ (bs : List Int) : Rd Int := match rdW 10 0 1 bs with
  | some z => .ok z.1 z.2
  | none => .bad 2
def rn (bs : List Int) : Rd Int := match rdN bs with
  | some z => .ok z.1 z.2
  | none => .bad 2
def rm (most : Int) (bs : List Int) : Rd Int := match rdN bs with
  | some z => if z.1 < 0 then .bad 2 else if most < z.1 then .bad 3 else .ok z.1 z.2
  | none => .bad 2
def rns : Nat → List Int → Rd (List Int)
  | 0, bs => .ok [] bs
  | k + 1, bs => (rn bs).next fun n l => (rns k l).next fun ns l' => .ok (n :: ns) l'
def rl (bs : List Int) : Rd (List Int) := (rm 256 bs).next fun n l => rns n.toNat l
def rb : List Int → Rd Bool
  | [] => .bad 2
  | b :: l => if 1 < b then .bad 2 else .ok (decide (b = 1)) l
/-- What a reading ends with. -/
def PR {α : Type} (W w : World) (gs : Nat) (Ret : World → α → Value → Prop) (r : Rd α) (e : Ending) (w' : World) : Prop := match r with
  | .ok x l => ∃ v, e = .returned v ∧ Ret w' x v ∧ Sr W w' gs l ∧ Fq gs w w'
  | .bad k => Stops k W w e w'
theorem word.rd (gs : Nat) (bs : List Int) (W w : World) (h : Sr W w gs bs) : Calls Try.prog 34 #[.pointer (some ⟨gs, 0, none⟩)] w (PR W w gs (fun _ x v => v = .int .u64 x) (rw_ bs)) := by
  refine (rword.calls gs bs W w h).mono ?_
  unfold rw_ PW PR
  cases rdW 10 0 1 bs with
  | none => exact fun e w' h => h
  | some z => exact fun e w' h => ⟨_, h.1, rfl, h.2.1, h.2.2⟩
theorem number.rd (gs : Nat) (bs : List Int) (W w : World) (h : Sr W w gs bs) : Calls Try.prog 31 #[.pointer (some ⟨gs, 0, none⟩)] w (PR W w gs (fun _ x v => v = .int .i64 x) (rn bs)) := by
  refine (rnumber.calls gs bs W w h).mono ?_
  unfold rn PW PR
  cases rdN bs with
  | none => exact fun e w' h => h
  | some z => exact fun e w' h => ⟨_, h.1, rfl, h.2.1, h.2.2⟩
theorem many.rd (gs : Nat) (most : Int) (bs : List Int) (W w : World) (h : Sr W w gs bs) : Calls Try.prog 20 #[.pointer (some ⟨gs, 0, none⟩), .int .i64 most] w (PR W w gs (fun _ x v => v = .int .i64 x) (rm most bs)) := by
  refine (many.calls gs most bs W w h).mono ?_
  unfold rm PM PR
  cases rdN bs with
  | none => exact fun e w' h => h
  | some z =>
    obtain ⟨n, l⟩ := z
    dsimp only
    split
    · exact fun e w' h => h
    split
    · exact fun e w' h => h
    · exact fun e w' h => ⟨_, h.1, rfl, h.2.1, h.2.2⟩
theorem rm_range {most : Int} {bs : List Int} {n : Int} {l : List Int} (h : rm most bs = .ok n l) : 0 ≤ n ∧ n ≤ most := by
  unfold rm at h
  cases hr : rdN bs with
  | none => rw [hr] at h; cases h
  | some z =>
    rw [hr] at h
    dsimp only at h
    split at h
    · cases h
    split at h
    · cases h
    · cases h
      omega
theorem R_fr {α : Type} {d : Kd α} {e b : Nat} {ok : Nat → Prop} {v : Value} {xs : List α} {Q : List Nat} {w w' : World} (h : d.R e w b ok v xs) (hf : Fr Q w w') (hQ : ∀ q ∈ e :: d.E, q ∉ Q) : d.R e w' b ok v xs :=
  Kd.R_mono (Kd.R_move (Kd.R_bound h) (fun k hk => by
    obtain ⟨q, hq, cells, hc⟩ := hk.2.2.2
    exact hf.2 k cells q hc (hQ q hq))) (fun k hk => hk.1)
theorem bel_low {B B' : Nat} {w0 w w' : World} (h : Below B w0 w) (h' : Below B' w w') (hle : B ≤ B') : Below B w0 w' :=
  ⟨h'.os.trans h.os, h'.tape.trans h.tape, h'.output.trans h.output, Nat.le_trans h.size h'.size, fun k hk => (h'.block k (Nat.lt_of_lt_of_le hk hle)).trans (h.block k hk)⟩
theorem Fq.low {gs : Nat} {w w1 w2 : World} (h : Fq gs w w1) (h' : Below w.heap.size w1 w2) : Fq gs w w2 :=
  ⟨⟨Nat.le_trans h.fr.1 h'.size, fun k cs q hk hq => (h'.block k (blk_lt hk)).trans (h.fr.2 k cs q hk hq)⟩, ⟨Nat.le_trans h.fo.1 h'.size, fun k hk hg => (h'.block k hk).trans (h.fo.2 k hk hg)⟩⟩
theorem Sr.row {α : Type} {d : Kd α} {e b B : Nat} {ok : Nat → Prop} {v : Value} {xs : List α} {W w w1 : World} {gs : Nat} {bs : List Int} (h : Sr W w gs bs) (hr : d.R e w b ok v xs) (hg : w.grownBy w1 v.ownBlock) (hb : Below B w w1) (hle : W.heap.size ≤ B) (h5 : e ≠ 5) (h58 : e ≠ 58) : Sr W w1 gs bs :=
  h.fr (Q := [e]) (Fr.row hr hg (by simp)) (by simp; exact Ne.symm h5) (by simp; exact Ne.symm h58) (bel_low h.bel hb hle)
set_option maxHeartbeats 16000000 in
set_option maxRecDepth 100000 in
theorem list.rd (gs : Nat) (bs : List Int) (W w : World) (h : Sr W w gs bs) : Calls Try.prog 32 #[.pointer (some ⟨gs, 0, none⟩)] w (PR W w gs (fun w' x v => Kd.R (Kd.int .i64) 3 w' w.heap.size (fun _ => True) v x) (rl bs)) := by
 have hc := many.rd gs 256 bs W w h
 have hW := h.bel.size
 clear h
 unfold rl
 cases hr : rm 256 bs with
 | bad k =>
  rw [hr] at hc
  have HC := aM hc
  clear hc hr
  go_enter Try.func32, Try.ntmps32
  go_wp2_with (first | (go_at_call 20; refine HC.out.mono ?_; rintro e w1 ⟨rfl, h1, h2⟩; exact ⟨rfl, rfl, h1, h2⟩))
 | ok n l =>
  rw [hr] at hc
  rw [next_ok]
  have HN := aM (rm_range hr)
  have HC := aM hc
  clear hc hr
  obtain ⟨m, rfl⟩ : ∃ m : Nat, n = (m : Int) := ⟨n.toNat, by have := HN.out.1; omega⟩
  rw [Int.toNat_natCast]
  have HM : Aside0 (m ≤ 256) := ⟨by have := HN.out.2; omega⟩
  clear HN
  obtain ⟨r, hr⟩ : ∃ r, rns m l = r := ⟨_, rfl⟩
  rw [hr]
  have HR := aM hr
  have HW := aM hW
  clear hr hW
  go_enter Try.func32, Try.ntmps32
  go_wp2_with (first | (go_at_call 20; refine HC.out.mono ?_; rintro e w1 ⟨_, rfl, rfl, h1, h2⟩; have HS := aM h1; have HF := aM h2; clear h1 h2))
  go_loopg [3, 6] m (fun kq v3 v6 w' => ∃ (i : Nat) (xs cs : List Int), v6 = .int .i64 (i : Int) ∧ Aside0 (i + kq = m) ∧ Aside0 (xs.length = i) ∧ Aside0 ((rns kq cs).next (fun ys l => .ok (xs ++ ys) l) = r) ∧ Aside0 (Sr W w' gs cs) ∧ Aside0 (Fq gs w w') ∧ Aside0 (Kd.R (Kd.int .i64) 3 w' w.heap.size (fun _ => True) v3 xs))
  case atStart => exact ⟨0, [], l, rfl, ⟨by omega⟩, ⟨rfl⟩, ⟨by rw [← HR.out]; cases rns m l <;> rfl⟩, HS, HF, ⟨pN⟩⟩
  case round =>
   clear HS HF HC HR
   obtain ⟨i, xs, cs, rfl, HI, HL, HR, HS, HF, HX⟩ := hrel
   cases gk with
   | zero =>
    have hin : i = m := by have := HI.out; omega
    subst hin
    have d1 : decide ((i : Int) < (i : Int)) = false := decide_eq_false (by omega)
    have d2 : decide (i < i) = false := decide_eq_false (by omega)
    obtain rfl : r = .ok xs cs := by have := HR.out; rw [rns, next_ok, List.append_nil] at this; exact this.symm
    clear HR
    go_wp2
    go_ret
    exact ⟨_, rfl, HX.out, HS.out, HF.out⟩
   | succ kq =>
    have d1 : decide ((i : Int) < (m : Int)) = true := decide_eq_true (by have := HI.out; omega)
    have d2 : decide (i < m) = true := decide_eq_true (by have := HI.out; omega)
    have hc := number.rd gs cs W
    have HR' := HR.out
    rw [rns] at HR'
    cases hn : rn cs with
    | bad k =>
     rw [hn] at hc HR'
     obtain rfl : r = .bad k := HR'.symm
     clear HR' HR hn
     go_wp2_with (first | (go_at_call 31; refine (hc _ HS.out).mono ?_; rintro e w2 ⟨rfl, h1, h2⟩; exact ⟨rfl, rfl, h1, HF.out.fr.trans h2⟩))
    | ok y l2 =>
     rw [hn, next_ok] at HR'
     rw [hn] at hc
     have HR2 := aM HR'
     clear HR' HR hn
     go_wp2_with (first
      | (go_at_call 31; refine (hc _ HS.out).mono ?_; rintro e w2 ⟨_, rfl, rfl, h1, h2⟩; replace HX := aM (R_fr HX.out h2.fr (by decide)); replace HS := aM h1; replace HF := aM (HF.out.trans h2); clear h1 h2)
      | ((with_reducible refine gate_builtin (b := .append) (xs := #[.tmp 8, .tmp 11]) rfl ?_); at_builtin; refine Kd.R_append (Kd.int .i64) (w0 := w2) w.heap.size rfl (.tmp 8) (.tmp 11) 40 3 (.int .i64 0) 8 rfl Try.underlying40 info3 rfl (by decide) (by omega) u3 xs y [.int .i64 y] (fun _ => True) (fun _ => False) rfl rfl rfl (fun _ hk => hk.elim) (fun _ _ => trivial) (pR HX.out) (Below.refl _ _) HF.out.fr.1 ?aL ?_; (case aL => have := HL.out; have := HI.out; have := HM.out; omega); intro v5 w5 ho hb hg hat; have HS5 := aM (HS.out.row HX.out hg hb HW.out (by decide) (by decide)); have HF5 := aM (HF.out.low hb); have HX5 := aM ho; clear ho hb hg hat))
     go_roundg kq
     case measure => omega
     case rel => exact ⟨i + 1, xs ++ [y], l2, by first | rfl | (rw [w64o (by omega) (by have := HI.out; have := HM.out; omega)]; rfl), ⟨by have := HI.out; omega⟩, ⟨by rw [List.length_append, HL.out]; rfl⟩, ⟨by rw [← HR2.out]; cases rns kq l2 <;> simp⟩, HS5, HF5, HX5⟩
set_option maxHeartbeats 16000000 in
set_option maxRecDepth 100000 in
theorem truth.rd (gs : Nat) (bs : List Int) (W w : World) (h : Sr W w gs bs) : Calls Try.prog 33 #[.pointer (some ⟨gs, 0, none⟩)] w (PR W w gs (fun _ x v => v = .bool x) (rb bs)) := by
 have HS := aM h
 clear h
 have hu54 := Try.underlying54
 cases bs with
 | nil =>
  show Calls _ _ _ _ (Stops 2 W w)
  go_enter Try.func33, Try.ntmps33
  go_wp2_with (first | (go_at_call 42; (with_reducible refine (next_none gs W _ HS.out).mono ?_); rintro e w1 ⟨rfl, h1, h2⟩; exact ⟨rfl, rfl, h1, h2⟩))
 | cons b l =>
  rw [rb]
  by_cases hb : 1 < b
  ·rw [if_pos hb]
   show Calls _ _ _ _ (Stops 2 W w)
   have d1 : decide (b > 1) = true := decide_eq_true hb
   have d2 : decide (1 < b) = true := decide_eq_true hb
   clear hb
   go_enter Try.func33, Try.ntmps33
   go_wp2_with (first | (go_at_call 42; (with_reducible refine (next_some gs b l W _ HS.out).mono ?_); rintro e w1 ⟨rfl, h1, h2⟩; replace HS := aM h1; have HF := aM h2; clear h1 h2))
   exact ⟨rfl, rfl, HS.out.bel, HF.out.fr⟩
  ·rw [if_neg hb]
   have d1 : decide (b > 1) = false := decide_eq_false hb
   have d2 : decide (1 < b) = false := decide_eq_false hb
   clear hb
   go_enter Try.func33, Try.ntmps33
   go_wp2_with (first | (go_at_call 42; (with_reducible refine (next_some gs b l W _ HS.out).mono ?_); rintro e w1 ⟨rfl, h1, h2⟩; replace HS := aM h1; have HF := aM h2; clear h1 h2))
   go_ret
   exact ⟨_, rfl, rfl, HS.out, HF.out⟩
end Pk
end Go.Proofs.Ytkohdojiockejaa.Q
