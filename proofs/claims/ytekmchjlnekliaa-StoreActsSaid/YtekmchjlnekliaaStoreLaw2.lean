/- The store against its reference, plainly. -/
import Derived.Test.YtekmchjlnekliaaQxfBankCopied
import Derived.Test.YtekmchjlnekliaaQxfBankCopy
import Derived.Test.YtekmchjlnekliaaQxfLaw24Many
import Derived.Test.YtekmchjlnekliaaQxfPlainLong
import Derived.Test.YtekmchjlnekliaaQxfPlainWide
import Derived.Test.YtekmchjlnekliaaQxfRef07Same
import Derived.Test.YtekmchjlnekliaaQxfRef07Words
import Derived.Test.YtekmchjlnekliaaQxfRef18All
import Derived.Test.YtekmchjlnekliaaQxfRef18Same
import Derived.Test.YtekmchjlnekliaaQxfRef19Has
import Derived.Test.YtekmchjlnekliaaQxfStoreCopies
import Derived.Test.YtekmchjlnekliaaStoreNew
import Derived.Test.YtekmchjlnekliaaStoreGet
import Derived.Test.YtekmchjlnekliaaStorePut
import Derived.Test.YtekmchjlnekliaaStoreNil
import Derived.Test.YtekmchjlnekliaaStoreLaw
import Derived.Test.YtekmchjlnekliaaStoreRef0
import Derived.Test.YtekmchjlnekliaaStoreRef1
namespace Go.Proofs.Ytekmchjlnekliaa.Q
open Go.RowKit Go.Proofs.YtekmchjlnekliaaW.PrintWords Go.Proofs.YtekmchjlnekliaaW.PrintLast Go.Proofs.YtekmchjlnekliaaW.PrintMore
set_option linter.unusedVariables false
set_option linter.unusedSimpArgs false
namespace St
theorem has_it {l : List Int} (hl : l.length ≤ 1000000) (c : Int) : ∀ (q i k : Nat), i + q = l.length → q < k → ∃ b, gradineref19_Has.l0 k l c (l.length : Int) (i : Int) = some b ∧ (b = true ↔ ∃ j, i ≤ j ∧ j < l.length ∧ rd l (j : Int) = c)
  | 0, i, k + 1, h, hk => ⟨false, by rw [gradineref19_Has.l0, if_neg (by omega)], by constructor; (intro h; cases h); (rintro ⟨j, h1, h2, _⟩; omega)⟩
  | q + 1, i, k + 1, h, hk => by
    rw [gradineref19_Has.l0, if_pos (by omega), if_pos (by omega), if_pos (by omega), wsucc (by omega)]
    by_cases c1 : rd l (i : Int) = c
    · exact ⟨true, if_pos c1, fun _ => ⟨i, by omega, by omega, c1⟩, fun _ => rfl⟩
    obtain ⟨b, hb, hs⟩ := has_it hl c q (i + 1) k (by omega) (by omega)
    refine ⟨b, (if_neg c1).trans hb, hs.trans ⟨?_, ?_⟩⟩
    · rintro ⟨j, h1, h2, h3⟩; exact ⟨j, by omega, h2, h3⟩
    · rintro ⟨j, h1, h2, h3⟩
      refine ⟨j, ?_, h2, h3⟩
      by_cases e : j = i
      · subst e; exact absurd h3 c1
      · omega
theorem has_iff {l : List Int} (k : Nat) (hl : l.length ≤ 1000000) (hk : l.length < k) (c : Int) : gradineref19_Has.f k l c = some true ↔ ∃ j, j < l.length ∧ rd l (j : Int) = c := by
  obtain ⟨b, hb, hs⟩ := has_it hl c l.length 0 k (by omega) hk
  have hb' : gradineref19_Has.f k l c = some b := hb
  rw [hb', Option.some.injEq, hs]
  exact ⟨fun ⟨j, _, h2, h3⟩ => ⟨j, h2, h3⟩, fun ⟨j, h2, h3⟩ => ⟨j, Nat.zero_le _, h2, h3⟩⟩
theorem rd_take {l : List Int} {i m : Nat} (h : m < i) : rd (l.take i) (m : Int) = rd l (m : Int) := by
  unfold rd
  rw [List.getD_eq_getElem?_getD, List.getD_eq_getElem?_getD, Int.toNat_natCast, List.getElem?_take_of_lt h]
theorem a1_eq {l1 : List Int} (hl : l1.length ≤ 100) (hr : ∀ j, j < l1.length → 0 ≤ rd l1 (j : Int) ∧ (rd l1 (j : Int)).toNat < 64) : ∀ (q i : Nat) (s : List Bool), i + q = l1.length → s.length = 64 → (∀ c, c < 64 → (s.getD c false = true ↔ ∃ m, m < i ∧ (rd l1 (m : Int)).toNat = c)) → Rf.put.a1 l1 q i = store_Put.a1 l1 q i s
  | 0, i, s, h, hs, hm => rfl
  | q + 1, i, s, h, hs, hm => by
    have hi := hr i (by omega)
    have ht : (l1.take i).length = i := by simp; omega
    have e1 := has_iff (l := l1.take i) 200 (by omega) (by omega) (rd l1 (i : Int))
    have e2 := hm _ hi.2
    have e : gradineref19_Has.f 200 (l1.take i) (rd l1 (i : Int)) = some true ↔ s.getD (rd l1 (i : Int)).toNat false = true := by
      rw [e1, e2, ht]
      constructor
      · rintro ⟨j, h1, h2⟩; rw [rd_take h1] at h2; exact ⟨j, h1, by rw [h2]⟩
      · rintro ⟨j, h1, h2⟩; refine ⟨j, h1, ?_⟩; rw [rd_take h1]; have hj := hr j (by omega); clear e1 e2; omega
    rw [Rf.put.a1, store_Put.a1]
    by_cases c : s.getD (rd l1 (i : Int)).toNat false = true
    · rw [if_pos (e.2 c), if_pos c]
    · rw [if_neg (fun h => c (e.1 h)), if_neg c]
      refine a1_eq hl hr q (i + 1) _ (by omega) (by simpa using hs) (fun c' hc' => ?_)
      by_cases e' : (rd l1 (i : Int)).toNat = c'
      · subst e'
        rw [List.getD_eq_getElem?_getD, List.getElem?_set_self (by omega)]
        exact ⟨fun _ => ⟨i, by omega, rfl⟩, fun _ => rfl⟩
      · rw [List.getD_eq_getElem?_getD, List.getElem?_set_ne e', ← List.getD_eq_getElem?_getD, hm _ hc']
        constructor
        · rintro ⟨m, h1, h2⟩; exact ⟨m, by omega, h2⟩
        · rintro ⟨m, h1, h2⟩
          refine ⟨m, ?_, h2⟩
          by_cases em : m = i
          · subst em; exact absurd h2 e'
          · omega
theorem put_eq {V : List S43} {l1 : List Int} {l2 : List S43} (hl : l1.length ≤ 100) (h64 : V.length ≤ 64) : (if l1.length = l2.length then (if store_Put.a0 V.length l1 l1.length 0 = true then (if Rf.put.a1 l1 l1.length 0 = true then ((0 : Int), store_Put.a2 l1 l2 l1.length 0 V) else (16, V)) else (11, V)) else (1, V)) = store_Put.f V l1 l2 := by
  rw [store_Put.f]
  by_cases h0 : store_Put.a0 V.length l1 l1.length 0 = true
  · have hr := fun j (a : j < l1.length) => store_Put.a0_all h0 j (Nat.zero_le _) (by omega)
    rw [a1_eq hl (fun j hj => ⟨(hr j hj).1, by have := hr j hj; omega⟩) l1.length 0 bfs (by omega) (by simp [bfs]) (fun c hc => by
      have : bfs.getD c false = false := by
        rw [List.getD_eq_getElem?_getD]
        unfold bfs
        rw [List.getElem?_replicate, if_pos hc]
        rfl
      rw [this]
      exact ⟨(fun h => by cases h), (fun ⟨m, h, _⟩ => by omega)⟩)]
  · rw [if_neg h0, if_neg h0]
theorem same_k {x : S43} (h : sw x) {k : Nat} (hk : 12 ≤ k) : gradineref18_Same.f k x.f0.f0 x.f0.f1 x.f0.f2 x.f1 x.f2 x.f0.f0 x.f0.f1 x.f0.f2 x.f1 x.f2 = some true := by
  have wf : ∀ {l : List Int}, l.length ≤ 9 → gradineref07_Words.f k l l = some true := fun {l} h => by
    rw [gradineref07_Words.f, if_pos rfl]
    exact words_l (by omega) l.length 0 k (by omega) (by omega)
  rw [gradineref18_Same.f, if_pos rfl, if_pos rfl, gradineref07_Same.f, if_pos (by simp), wf h.1, wf h.2]
  rfl
theorem all_l {l : List S43} (hl : l.length ≤ 1000000) (hs : ∀ x ∈ l, sw x) : ∀ (q i k : Nat), i + q = l.length → q + 13 ≤ k → gradineref18_All.l0 k l l (l.length : Int) (i : Int) = some true
  | 0, i, k + 1, h, hk => by rw [gradineref18_All.l0, if_neg (by omega)]
  | q + 1, i, k + 1, h, hk => by
    have hx : sw (rd_T43 l (i : Int)) := by rw [rd43 (show i < l.length by omega)]; exact hs _ (List.getElem_mem _)
    rw [gradineref18_All.l0, if_pos (by omega), if_pos (by omega), if_pos (by omega), if_pos (by omega), same_k hx (by omega), wsucc (by omega)]
    exact all_l hl hs q (i + 1) k (by omega) (by omega)
theorem all_f {l : List S43} (k : Nat) (hl : l.length ≤ 1000000) (hs : ∀ x ∈ l, sw x) (hk : l.length + 13 ≤ k) : gradineref18_All.f k l l = some true := by
  rw [gradineref18_All.f, if_pos rfl]
  exact all_l hl hs l.length 0 k (by omega) hk
theorem getg_l {V : List S43} {l1 : List Int} (hV : ∀ x ∈ V, sw x) (hl : l1.length ≤ 1000000) : ∀ (q i k : Nat) (o : List S43), i + q = l1.length → q < k → o.length ≤ i → store_Get.l0 k V l1 o (i : Int) = some (Rf.get.g V l1 q i o)
  | 0, i, k + 1, o, h, hk, ho => by rw [store_Get.l0, if_neg (by omega)]; rfl
  | q + 1, i, k + 1, o, h, hk, ho => by
    rw [store_Get.l0, Rf.get.g, if_pos (by omega), if_pos (by omega)]
    by_cases c1 : rd l1 (i : Int) < 0
    · rw [if_pos c1, if_pos c1]
    rw [if_neg c1, if_neg c1]
    by_cases c2 : (V.length : Int) ≤ rd l1 (i : Int)
    · rw [if_pos c2, if_pos c2]
    rw [if_neg c2, if_neg c2]
    have hx : sw (rd_T43 V (rd l1 (i : Int))) := by
      have := rd43 (l := V) (i := (rd l1 (i : Int)).toNat) (by omega)
      rw [Int.toNat_of_nonneg (by omega)] at this
      rw [this]; exact hV _ (List.getElem_mem _)
    rw [bcopy _ _ _ _ _ (by have := hx.1; omega) (by have := hx.2; omega), wsucc (by omega)]
    refine (if_pos (by omega)).trans ?_
    exact getg_l hV hl q (i + 1) k _ (by omega) (by omega) (by simp; omega)
theorem getg_f {V : List S43} {l1 : List Int} (k : Nat) (hV : ∀ x ∈ V, sw x) (hl : l1.length ≤ 1000000) (hk : l1.length < k) : store_Get.f k V l1 = some (Rf.get.g V l1 l1.length 0 []) := getg_l hV hl l1.length 0 k [] (by omega) hk (Nat.le_refl _)
theorem getg_all {V : List S43} {l1 : List Int} (hV : ∀ x ∈ V, sw x) : ∀ (q i : Nat) (o : List S43), (∀ x ∈ o, sw x) → (∀ x ∈ (Rf.get.g V l1 q i o).1, sw x) ∧ (Rf.get.g V l1 q i o).1.length ≤ o.length + q
  | 0, i, o, h => ⟨h, by show o.length ≤ _; omega⟩
  | q + 1, i, o, h => by
    rw [Rf.get.g]
    by_cases c1 : rd l1 (i : Int) < 0
    · rw [if_pos c1]; exact ⟨fun x hx => by simp at hx, by simp⟩
    rw [if_neg c1]
    by_cases c2 : (V.length : Int) ≤ rd l1 (i : Int)
    · rw [if_pos c2]; exact ⟨fun x hx => by simp at hx, by simp⟩
    rw [if_neg c2]
    have hx : sw (rd_T43 V (rd l1 (i : Int))) := by
      have := rd43 (l := V) (i := (rd l1 (i : Int)).toNat) (by omega)
      rw [Int.toNat_of_nonneg (by omega)] at this
      rw [this]; exact hV _ (List.getElem_mem _)
    have r := getg_all (l1 := l1) hV q (i + 1) (o ++ [rd_T43 V (rd l1 (i : Int))]) (fun y hy => (List.mem_append.1 hy).elim (h y) (fun e => by rw [List.mem_singleton.1 e]; exact hx))
    exact ⟨r.1, by have := r.2; simp at this; omega⟩
theorem rd25 {l : List S25} {i : Nat} (h : i < l.length) : rd_T25 l (i : Int) = l[i] := by
  unfold rd_T25
  rw [List.getD_eq_getElem?_getD, Int.toNat_natCast, List.getElem?_eq_getElem h]; rfl
theorem wsuccL {i n : Nat} (h : i < n) (hn : n ≤ 9223372036854775807) : wrap64 ((i : Int) + 1) = ((i + 1 : Nat) : Int) := by
  rw [w64o (by omega) (by omega)]; rfl
theorem many_l {l : List S25} (hl : l.length ≤ 9223372036854775807) : ∀ (q i k : Nat), i + q = l.length → q + 200 ≤ k → ∃ b, gradinelaw24_many.l0 k l (l.length : Int) (i : Int) = some b ∧ (b = false → l.length ≤ 40 ∧ ∀ j, i ≤ j → j < l.length → (rd_T25 l (j : Int)).f1.length ≤ 100 ∧ (rd_T25 l (j : Int)).f2.length ≤ 100 ∧ ∀ x ∈ (rd_T25 l (j : Int)).f2, sw x)
  | 0, i, k + 1, h, hk => ⟨decide ((l.length : Int) > 40), by rw [gradinelaw24_many.l0, if_neg (by omega)], fun hb => ⟨by have := of_decide_eq_false hb; omega, fun j h1 h2 => by omega⟩⟩
  | q + 1, i, k + 1, h, hk => by
    rw [gradinelaw24_many.l0, if_pos (by omega), if_pos (by omega), if_pos (by omega), wsuccL (n := l.length) (by omega) hl]
    by_cases c1 : ((rd_T25 l (i : Int)).f1.length : Int) > 100
    · exact ⟨true, if_pos c1, fun h => by cases h⟩
    by_cases c2 : ((rd_T25 l (i : Int)).f2.length : Int) > 100
    · exact ⟨true, (if_neg c1).trans (if_pos c2), fun h => by cases h⟩
    obtain ⟨b, h1, h2⟩ := wide_f (l := (rd_T25 l (i : Int)).f2) k (by omega) (by omega)
    obtain ⟨b', h1', h2'⟩ := many_l hl q (i + 1) k (by omega) (by omega)
    rw [if_neg c1, if_neg c2, h1]
    cases b with
    | true => exact ⟨true, rfl, fun h => by cases h⟩
    | false =>
      refine ⟨b', h1', fun hf => ⟨(h2' hf).1, fun j a1 a2 => ?_⟩⟩
      by_cases e : j = i
      · subst e; exact ⟨by omega, by omega, h2 rfl⟩
      · exact (h2' hf).2 j (by omega) a2
theorem many_f2 {l : List S25} (hl : l.length ≤ 9223372036854775807) : ∃ b, gradinelaw24_many.f (l.length + 300) l = some b ∧ (b = false → l.length ≤ 40 ∧ ∀ j, j < l.length → (rd_T25 l (j : Int)).f1.length ≤ 100 ∧ (rd_T25 l (j : Int)).f2.length ≤ 100 ∧ ∀ x ∈ (rd_T25 l (j : Int)).f2, sw x) := by
  obtain ⟨b, h1, h2⟩ := many_l hl l.length 0 (l.length + 300) (by omega) (by omega)
  exact ⟨b, h1, fun h => ⟨(h2 h).1, fun j hj => (h2 h).2 j (by omega) hj⟩⟩
end St
end Go.Proofs.Ytekmchjlnekliaa.Q
