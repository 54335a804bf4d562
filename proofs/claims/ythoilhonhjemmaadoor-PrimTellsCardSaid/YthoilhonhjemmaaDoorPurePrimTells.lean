/- The law PrimTells: the properties of any primitive are as specified; what the listed table holds is a condition that the card ties to the program's text. -/
import Derived.Test.YthoilhonhjemmaaDoorQx0
import Derived.Test.YthoilhonhjemmaaDoorQxfLaw30PrimTells
import Derived.Test.YthoilhonhjemmaaDoorQxfPrimArity
import Derived.Test.YthoilhonhjemmaaDoorQxfPrimChoices
import Derived.Test.YthoilhonhjemmaaDoorQxfPrimClass
import Derived.Test.YthoilhonhjemmaaDoorQxfPrimFlat
import Derived.Test.YthoilhonhjemmaaDoorQxfPrimInexact
import Derived.Test.YthoilhonhjemmaaDoorQxfPrimIs
import Derived.Test.YthoilhonhjemmaaDoorQxfPrimNeeds
import Derived.Test.YthoilhonhjemmaaDoorQxfPrimPicks
import Derived.Test.YthoilhonhjemmaaDoorQxfPrimWord
import Derived.Test.YthoilhonhjemmaaDoorQxfRef30Arity
import Derived.Test.YthoilhonhjemmaaDoorQxfRef30Choices
import Derived.Test.YthoilhonhjemmaaDoorQxfRef30Class
import Derived.Test.YthoilhonhjemmaaDoorQxfRef30Flat
import Derived.Test.YthoilhonhjemmaaDoorQxfRef30Inexact
import Derived.Test.YthoilhonhjemmaaDoorQxfRef30Needs
import Derived.Test.YthoilhonhjemmaaDoorQxfRef30Picks
import Derived.Test.YthoilhonhjemmaaDoorQxfRef30Word
import Derived.Test.YthoilhonhjemmaaDoorRows
import Derived.OpenShut
import Derived.LaidMore
import Derived.FnData
import Derived.ChangeArms
namespace Go.Proofs.YthoilhonhjemmaaDoor.Pure
open Go.RowKit Go.Proofs.YthoilhonhjemmaaDoor.Q Go.Proofs.YthoilhonhjemmaaDoorW.PrintWords Go.Proofs.YthoilhonhjemmaaDoorW.PrintLast
set_option linter.unusedVariables false
set_option linter.unusedSimpArgs false

theorem prim_Is_of (op : Int) : prim_Is.f op = some (decide (1 ≤ op ∧ op ≤ 40)) := by
  rw [prim_Is.f]
  by_cases h : op ≥ 1
  · rw [if_pos h]; congr 1; exact decide_eq_decide.2 ⟨fun e => ⟨h, e⟩, fun e => e.2⟩
  · rw [if_neg h]; rw [decide_eq_false (fun e => h e.1)]
theorem forty {P : Int → Prop} (op : Int) (h : 1 ≤ op ∧ op ≤ 40) (hP : ∀ i : Fin 40, P ((i.val : Int) + 1)) : P op := by
  obtain ⟨m, hm⟩ := Int.eq_ofNat_of_zero_le (show 0 ≤ op - 1 by omega)
  have := hP ⟨m, by omega⟩
  rw [show (((⟨m, by omega⟩ : Fin 40).val : Nat) : Int) + 1 = op by show (m : Int) + 1 = op; omega] at this
  exact this
def arity (op : Int) : Int := if 1 ≤ op ∧ op ≤ 40 then (if (17 ≤ op ∧ op ≤ 23) ∨ op = 32 ∨ op = 40 then 2 else if 24 ≤ op ∧ op ≤ 26 then 3 else 1) else 0
def cl (op : Int) : Int := if 1 ≤ op ∧ op ≤ 40 then (if op ≤ 26 then 1 else if op ≤ 31 then 2 else if op = 32 then 3 else if op ≤ 37 then 4 else 5) else 0
theorem arity_p (k : Nat) (op : Int) : prim_Arity.f (k + 2) op = some (arity op) := by
  by_cases h : 1 ≤ op ∧ op ≤ 40
  · have e : prim_Arity.f (k + 2) op = prim_Arity.f 2 op := rfl
    rw [e]
    exact forty (P := fun op => prim_Arity.f 2 op = some (arity op)) op h (by decide +kernel)
  · rw [prim_Arity.f, prim_Is_of, decide_eq_false h, Option.bind_some, if_neg (by simp)]
    unfold arity; rw [if_neg h]
theorem arity_r (k : Nat) (op : Int) : gradineref30_Arity.f (k + 2) op = some (arity op) := by
  by_cases h : 1 ≤ op ∧ op ≤ 40
  · have e : gradineref30_Arity.f (k + 2) op = gradineref30_Arity.f 2 op := rfl
    rw [e]
    exact forty (P := fun op => gradineref30_Arity.f 2 op = some (arity op)) op h (by decide +kernel)
  · unfold arity
    rw [if_neg h, gradineref30_Arity.f]
    by_cases h1 : op < 1
    · rw [if_pos h1, gradineref30_Arity.j0, if_pos rfl]
    · rw [if_neg h1, decide_eq_true (show op > 40 by omega), gradineref30_Arity.j0, if_pos rfl]
theorem class_p (op : Int) : prim_Class.f op = some (cl op) := by
  by_cases h : 1 ≤ op ∧ op ≤ 40
  · exact forty (P := fun op => prim_Class.f op = some (cl op)) op h (by decide +kernel)
  · rw [prim_Class.f, prim_Is_of, decide_eq_false h, Option.bind_some, if_neg (by simp)]
    unfold cl; rw [if_neg h]
theorem class_r (k : Nat) (op : Int) : gradineref30_Class.f (k + 1) op = some (cl op) := by
  by_cases h : 1 ≤ op ∧ op ≤ 40
  · have e : gradineref30_Class.f (k + 1) op = gradineref30_Class.f 1 op := rfl
    rw [e]
    exact forty (P := fun op => gradineref30_Class.f 1 op = some (cl op)) op h (by decide +kernel)
  · unfold cl
    rw [if_neg h, gradineref30_Class.f]
    by_cases h1 : op < 1
    · rw [if_pos h1, gradineref30_Class.j0, if_pos rfl]
    · rw [if_neg h1, decide_eq_true (show op > 40 by omega), gradineref30_Class.j0, if_pos rfl]
theorem word_r (k : Nat) (op : Int) : gradineref30_Word.f (k + 1) op = some (gword op) := by
  have e : gradineref30_Word.f (k + 1) op = gradineref30_Word.f 1 op := rfl
  rw [e]
  by_cases h : 1 ≤ op ∧ op ≤ 40
  · exact forty (P := fun op => gradineref30_Word.f 1 op = some (gword op)) op h (by decide +kernel)
  · have e2 : gword op = ⟨#[]⟩ := if_neg h
    rw [e2]
    unfold gradineref30_Word.f
    simp only [Option.bind_some]
    by_cases h1 : op < 1
    · rw [if_pos h1]; rfl
    · rw [if_neg h1, decide_eq_true (show op > 40 by omega)]; rfl
def cho (op : Int) : Int := if op = 15 then 3 else if op = 4 ∨ op = 6 ∨ op = 16 ∨ op = 21 ∨ op = 22 ∨ op = 24 then 2 else 0
theorem cho_p (k : Nat) (op : Int) : prim_Choices.f (k + 1) op = some (cho op) := by
  unfold cho
  by_cases h1 : op = 4
  · subst h1; rfl
  by_cases h2 : op = 6
  · subst h2; rfl
  by_cases h3 : op = 16
  · subst h3; rfl
  by_cases h4 : op = 21
  · subst h4; rfl
  by_cases h5 : op = 22
  · subst h5; rfl
  rw [prim_Choices.f, if_neg h1, if_neg h2, if_neg h3, if_neg h4, if_neg h5, prim_Choices.j0]
  by_cases h6 : op = 24
  · subst h6; rfl
  rw [if_neg (by simpa using h6)]
  by_cases h7 : op = 15
  · rw [if_pos h7, if_pos h7]
  · rw [if_neg h7, if_neg h7, if_neg (by simp [h1, h2, h3, h4, h5, h6])]
theorem cho_r (op : Int) : gradineref30_Choices.f op = some (cho op) := by
  unfold cho gradineref30_Choices.f
  by_cases h7 : op = 15
  · rw [if_pos h7, if_pos h7]
  rw [if_neg h7, if_neg h7]
  by_cases h1 : op = 4
  · subst h1; rfl
  by_cases h2 : op = 6
  · subst h2; rfl
  by_cases h3 : op = 16
  · subst h3; rfl
  by_cases h4 : op = 21
  · subst h4; rfl
  by_cases h5 : op = 22
  · subst h5; rfl
  by_cases h6 : op = 24
  · subst h6; rfl
  rw [if_neg h1, if_neg h2, if_neg h3, if_neg h4, if_neg h5, if_neg h6, if_neg (by simp [h1, h2, h3, h4, h5, h6])]
theorem picks (k : Nat) (op : Int) : prim_Picks.f (k + 1) op = gradineref30_Picks.f op ∧ ∃ b, gradineref30_Picks.f op = some b := by
  rw [prim_Picks.f, gradineref30_Picks.f, cho_p, cho_r]
  refine ⟨rfl, ?_⟩
  simp only [Option.bind_some]
  split
  · exact ⟨_, rfl⟩
  · split <;> exact ⟨_, rfl⟩
theorem flat (op : Int) : prim_Flat.f op = gradineref30_Flat.f op ∧ ∃ b, gradineref30_Flat.f op = some b := by
  refine ⟨rfl, ?_⟩
  rw [gradineref30_Flat.f]
  split
  · exact ⟨_, rfl⟩
  · split <;> exact ⟨_, rfl⟩
theorem inexact (op : Int) : prim_Inexact.f op = gradineref30_Inexact.f op ∧ ∃ b, gradineref30_Inexact.f op = some b := by
  refine ⟨rfl, ?_⟩
  rw [gradineref30_Inexact.f]
  split <;> exact ⟨_, rfl⟩
def nd (op n which : Int) : Bool :=
  if which < 0 ∨ which > arity op ∨ arity op = 0 then false
  else if which = arity op then decide (op = 2 ∨ (9 ≤ op ∧ op ≤ 11) ∨ op = 7 ∨ op = 20)
  else if op = 12 then decide (n ≠ 0 ∧ n ≠ 1) else if op = 20 then decide (which = 1) else if op = 25 then decide (which < 2)
  else decide (op = 3 ∨ op = 8 ∨ op = 19 ∨ op = 26 ∨ op = 32)
theorem forty_or (op : Int) (h : 1 ≤ op ∧ op ≤ 40) : op = 1 ∨ op = 2 ∨ op = 3 ∨ op = 4 ∨ op = 5 ∨ op = 6 ∨ op = 7 ∨ op = 8 ∨ op = 9 ∨ op = 10 ∨ op = 11 ∨ op = 12 ∨ op = 13 ∨ op = 14 ∨ op = 15 ∨ op = 16 ∨ op = 17 ∨ op = 18 ∨ op = 19 ∨ op = 20 ∨ op = 21 ∨ op = 22 ∨ op = 23 ∨ op = 24 ∨ op = 25 ∨ op = 26 ∨ op = 27 ∨ op = 28 ∨ op = 29 ∨ op = 30 ∨ op = 31 ∨ op = 32 ∨ op = 33 ∨ op = 34 ∨ op = 35 ∨ op = 36 ∨ op = 37 ∨ op = 38 ∨ op = 39 ∨ op = 40 := by omega
theorem needs_p (k : Nat) (op n b c d e f g i : Int) (j : Bool) (l : List Int) (which : Int) : prim_Needs.f (k + 9) op n b c d e f g i j l which = some (nd op n which) := by
  rw [prim_Needs.f, show k + 9 = (k + 7) + 2 from rfl, arity_p, Option.bind_some]
  by_cases h0 : which < 0
  · rw [if_pos h0, show (k + 7) + 2 = (k + 8) + 1 from rfl, prim_Needs.j0, if_pos rfl]
    unfold nd; rw [if_pos (.inl h0)]
  rw [if_neg h0]
  by_cases h1 : which > arity op
  · rw [if_pos h1, show (k + 7) + 2 = (k + 8) + 1 from rfl, prim_Needs.j0, if_pos rfl]
    unfold nd; rw [if_pos (.inr (.inl h1))]
  rw [if_neg h1]
  by_cases h2 : arity op = 0
  · rw [h2, show (k + 7) + 2 = (k + 8) + 1 from rfl, prim_Needs.j0, if_pos (show ((0 : Int) == 0) = true from rfl)]
    unfold nd; rw [if_pos (.inr (.inr h2))]
  have hop : 1 ≤ op ∧ op ≤ 40 := by
    by_cases hh : 1 ≤ op ∧ op ≤ 40
    · exact hh
    · exact absurd (by unfold arity; rw [if_neg hh]) h2
  have e : nd op n which = if which = arity op then decide (op = 2 ∨ (9 ≤ op ∧ op ≤ 11) ∨ op = 7 ∨ op = 20)
      else if op = 12 then decide (n ≠ 0 ∧ n ≠ 1) else if op = 20 then decide (which = 1) else if op = 25 then decide (which < 2)
      else decide (op = 3 ∨ op = 8 ∨ op = 19 ∨ op = 26 ∨ op = 32) := by
    unfold nd; rw [if_neg (by simp [h0, h1, h2])]
  rw [e]
  clear e
  rcases forty_or op hop with rfl | rfl | rfl | rfl | rfl | rfl | rfl | rfl | rfl | rfl | rfl | rfl | rfl | rfl | rfl | rfl | rfl | rfl | rfl | rfl | rfl | rfl | rfl | rfl | rfl | rfl | rfl | rfl | rfl | rfl | rfl | rfl | rfl | rfl | rfl | rfl | rfl | rfl | rfl | rfl
  all_goals
    simp only [show (k + 7) + 2 = (k + 5 + 1 + 1 + 1) + 1 from rfl, prim_Needs.j0, prim_Needs.j1, prim_Needs.j2, prim_Needs.j3]
    simp (decide := true) [arity] at h1 h2 ⊢
  all_goals first
    | omega
    | (rcases (show which = 0 ∨ which = 1 ∨ which = 2 ∨ which = 3 by omega) with rfl | rfl | rfl | rfl <;> first | rfl | (exfalso; omega) | (by_cases hn : n = 0 <;> by_cases hm : n = 1 <;> first | (exfalso; omega) | (simp [hn, hm]; done)))
theorem needs_r (k : Nat) (op n which : Int) : gradineref30_Needs.f (k + 9) op n which = some (nd op n which) := by
  rw [gradineref30_Needs.f, show k + 9 = (k + 7) + 2 from rfl, arity_r]
  simp only [Option.bind_some]
  by_cases h0 : which < 0
  · rw [if_pos h0, show (k + 7) + 2 = (k + 8) + 1 from rfl, gradineref30_Needs.j0, if_pos rfl]
    unfold nd; rw [if_pos (.inl h0)]
  rw [if_neg h0]
  by_cases h1 : which > arity op
  · rw [if_pos h1, show (k + 7) + 2 = (k + 8) + 1 from rfl, gradineref30_Needs.j0, if_pos rfl]
    unfold nd; rw [if_pos (.inr (.inl h1))]
  rw [if_neg h1]
  by_cases h2 : arity op = 0
  · rw [h2, show (k + 7) + 2 = (k + 8) + 1 from rfl, gradineref30_Needs.j0, if_pos (show ((0 : Int) == 0) = true from rfl)]
    unfold nd; rw [if_pos (.inr (.inr h2))]
  have hop : 1 ≤ op ∧ op ≤ 40 := by
    by_cases hh : 1 ≤ op ∧ op ≤ 40
    · exact hh
    · exact absurd (by unfold arity; rw [if_neg hh]) h2
  have e : nd op n which = if which = arity op then decide (op = 2 ∨ (9 ≤ op ∧ op ≤ 11) ∨ op = 7 ∨ op = 20)
      else if op = 12 then decide (n ≠ 0 ∧ n ≠ 1) else if op = 20 then decide (which = 1) else if op = 25 then decide (which < 2)
      else decide (op = 3 ∨ op = 8 ∨ op = 19 ∨ op = 26 ∨ op = 32) := by
    unfold nd; rw [if_neg (by simp [h0, h1, h2])]
  rw [e]
  clear e
  have ha := arity_r (k + 6) op
  rcases forty_or op hop with rfl | rfl | rfl | rfl | rfl | rfl | rfl | rfl | rfl | rfl | rfl | rfl | rfl | rfl | rfl | rfl | rfl | rfl | rfl | rfl | rfl | rfl | rfl | rfl | rfl | rfl | rfl | rfl | rfl | rfl | rfl | rfl | rfl | rfl | rfl | rfl | rfl | rfl | rfl | rfl
  all_goals
    simp only [show (k + 7) + 2 = (k + 6 + 2) + 1 from rfl, gradineref30_Needs.j0, ha, Option.bind_some]
    simp (decide := true) [arity] at h1 h2 ⊢
  all_goals first
    | omega
    | (rcases (show which = 0 ∨ which = 1 ∨ which = 2 ∨ which = 3 by omega) with rfl | rfl | rfl | rfl <;> first | rfl | (exfalso; omega) | (by_cases hn : n = 0 <;> by_cases hm : n = 1 <;> first | (exfalso; omega) | (simp [hn, hm]; done)))
theorem cl_pos (op : Int) : decide (cl op > 0) = decide (1 ≤ op ∧ op ≤ 40) := by
  unfold cl
  by_cases h : 1 ≤ op ∧ op ≤ 40
  · rw [if_pos h, decide_eq_true h]
    apply decide_eq_true
    repeat' split
    all_goals decide
  · rw [if_neg h, decide_eq_false h]; rfl
theorem PrimTells (op n b c d e f g i : Int) (j : Bool) (l : List Int) (which : Int) : gradinelaw30_PrimTells.f 12 op n b c d e f g i j l which = some true := by
  obtain ⟨f1, fb, f2⟩ := flat op
  obtain ⟨i1, ib, i2⟩ := inexact op
  obtain ⟨p1, pb, p2⟩ := picks 9 op
  have hn := needs_p 2 op n b c d e f g i j l which
  have hr := needs_r 2 op n which
  have hc := cho_p 9 op
  have j1 : gradinelaw30_PrimTells.j1 11 op false = some true := by
    rw [gradinelaw30_PrimTells.j1, if_neg (by simp), hc, Option.bind_some, cho_r, Option.bind_some, if_pos rfl, p1, p2, Option.bind_some, Option.bind_some, if_pos (by simp)]
    rfl
  have j0 : gradinelaw30_PrimTells.j0 12 op which false n b c d e f g i j l = some true := by
    rw [gradinelaw30_PrimTells.j0, if_neg (by simp), f1, f2, Option.bind_some, Option.bind_some, if_neg (by simp), i1, i2, Option.bind_some, Option.bind_some, if_neg (by simp), hn, hr, Option.bind_some, Option.bind_some, bne_self_eq_false]
    exact j1
  rw [gradinelaw30_PrimTells.f, prim_Is_of, Option.bind_some, class_r 11 op, Option.bind_some, cl_pos, bne_self_eq_false, if_neg (by simp), prim_Word.f, Option.bind_some, word_r 11 op, Option.bind_some, if_pos rfl, arity_p 10 op, arity_r 10 op, Option.bind_some, Option.bind_some, if_pos rfl, class_p, Option.bind_some, Option.bind_some, bne_self_eq_false]
  exact j0
theorem gWords : Tryd.prog.globalNamed "gradine/prim.words" = some 0 := by kernel_rfl
theorem tWords : (Tryd.prog.globals[0]?).map (·.type) = some 33 := by kernel_rfl
theorem datum {H : Type} : (Rows.laid_gradine_prim_words : DataW H) = .agg (WD.map fun s => .lit (.string s.data.toList)) := rfl
/-- What the condition gives: the table's cells. -/
theorem glob_of {W : World} (h : laidMetH Tryd.prog [("gradine/prim.words", Rows.laid_gradine_prim_words)] W) : Glob W := by
  rw [MakeChecks.laidMetH_plain _ _ _ (by kernel_rfl)] at h
  obtain ⟨ps, ⟨g0, t0, cs0, f0, p0, q0, hg0, ht0, hv0, hd0, _, _⟩, _, _⟩ := h
  obtain rfl := Option.some.inj (gWords.symm.trans hg0)
  obtain rfl := Option.some.inj (tWords.symm.trans ht0)
  obtain ⟨xs, m1, rfl, hx1, hlen, hn, hel⟩ := DataW.trod_array Tryd.underlying33 hd0
  have c9 : Tryd.prog.cellsOf 9 = 1 := by kernel_rfl
  rw [datum] at hx1
  simp only [Prod.mk.injEq, DataW.agg.injEq] at hx1
  intro i hi
  have h1 := hel i hi
  have hix : i < xs.length := by omega
  rw [List.getElem?_eq_getElem hix, c9, Nat.mul_one] at h1
  obtain ⟨s, hs, hx, _⟩ := DataW.trod_string Tryd.underlying9 h1
  have hc : cs0.toList[i]? = some (.string s) := by
    have := congrArg (fun l : List Value => l[0]?) hs
    simpa using this
  have hw : i < WD.length := by rw [show WD.length = 41 from rfl]; exact hi
  have e := congrArg (fun l => l[i]?) hx1.1
  simp only [List.getElem?_map, List.getElem?_eq_getElem hix, List.getElem?_eq_getElem hw, Option.map_some, Option.some.injEq, hx, DataW.lit.injEq, Lit.string.injEq] at e
  have es : WD[i] = s := Go.WideShapes.bytes_inj e
  rw [World.var?_cell hg0 hv0 i]
  have ew : wd i = s := by unfold wd; rw [List.getD_eq_getElem?_getD, List.getElem?_eq_getElem hw, Option.getD_some, es]
  rw [ew]
  simpa using hc
theorem PrimTells_walk (w : World) (hg : Glob w) (op : Int) (_ : (Lit.int .i64 op).wf = true) (n : Int) (_ : (Lit.int .i64 n).wf = true) (b : Int) (_ : (Lit.int .i64 b).wf = true) (c : Int) (_ : (Lit.int .i64 c).wf = true) (d : Int) (_ : (Lit.int .i64 d).wf = true)
    (e : Int) (_ : (Lit.int .i64 e).wf = true) (f : Int) (_ : (Lit.int .i64 f).wf = true) (g : Int) (_ : (Lit.int .i64 g).wf = true) (i : Int) (_ : (Lit.int .i64 i).wf = true) (j : Bool)
    (A : Option Addr) (c' : Nat) (l : List Int) (hr : Kd.C (Kd.int .i64) w A l.length l) (hc : l.length ≤ c') (_ : ∀ x ∈ l, (Lit.int .i64 x).wf = true) (which : Int) (_ : (Lit.int .i64 which).wf = true) :
    Calls Tryd.prog 4 #[.int .i64 op, .agg #[.int .i64 n, .int .i64 b, .int .i64 c, .int .i64 d, .int .i64 e, .int .i64 f, .int .i64 g, .int .i64 i, .bool j, .slice A l.length c'], .int .i64 which] w fun e w' => e = .returned (.bool true) ∧ Below w.heap.size w w' :=
  gradinelaw30_PrimTells.calls 12 op n b c d e f g i j A c' l which w hg hr hc (PrimTells op n b c d e f g i j l which)
end Go.Proofs.YthoilhonhjemmaaDoor.Pure
