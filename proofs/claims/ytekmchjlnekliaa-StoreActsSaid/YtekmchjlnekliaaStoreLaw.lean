/- The store, plainly: what Put, Get, Wide, many, Has, Same answer. -/
import Derived.Test.YtekmchjlnekliaaQxfBankCopied
import Derived.Test.YtekmchjlnekliaaQxfBankCopy
import Derived.Test.YtekmchjlnekliaaQxfLaw24Many
import Derived.Test.YtekmchjlnekliaaQxfPlainLong
import Derived.Test.YtekmchjlnekliaaQxfPlainWide
import Derived.Test.YtekmchjlnekliaaQxfRef07Same
import Derived.Test.YtekmchjlnekliaaQxfRef07Words
import Derived.Test.YtekmchjlnekliaaQxfRef18All
import Derived.Test.YtekmchjlnekliaaQxfRef18Same
import Derived.Test.YtekmchjlnekliaaQxfRef19Has
import Derived.Test.YtekmchjlnekliaaQxfStoreCopies
import Derived.Test.YtekmchjlnekliaaStoreNew
import Derived.Test.YtekmchjlnekliaaStoreGet
import Derived.Test.YtekmchjlnekliaaStorePut
namespace Go.Proofs.Ytekmchjlnekliaa.Q
open Go.RowKit Go.Proofs.YtekmchjlnekliaaW.PrintWords Go.Proofs.YtekmchjlnekliaaW.PrintLast Go.Proofs.YtekmchjlnekliaaW.PrintMore
set_option linter.unusedVariables false
set_option linter.unusedSimpArgs false
namespace St
def sw (x : S43) : Prop := x.f0.f1.length ≤ 9 ∧ x.f0.f2.length ≤ 9
theorem wsucc {i : Nat} (h : i ≤ 1000000) : wrap64 ((i : Int) + 1) = ((i + 1 : Nat) : Int) := by
  rw [w64o (by omega) (by omega)]; rfl
theorem rd43 {l : List S43} {i : Nat} (h : i < l.length) : rd_T43 l (i : Int) = l[i] := by
  unfold rd_T43
  rw [List.getD_eq_getElem?_getD, Int.toNat_natCast, List.getElem?_eq_getElem h]; rfl
theorem sw_of {l : List S43} (h : ∀ j, 0 ≤ j → j < l.length → sw (rd_T43 l (j : Int))) : ∀ x ∈ l, sw x := fun x hx => by
  obtain ⟨j, hj, rfl⟩ := List.getElem_of_mem hx
  have := h j (by omega) hj
  rwa [rd43 hj] at this
theorem wide_some {l : List S43} (hl : l.length ≤ 1000000) : ∀ (q i k : Nat), i + q = l.length → q < k → ∃ b, gradineplain_Wide.l0 k l 9 (l.length : Int) (i : Int) = some b ∧ (b = false → ∀ j, i ≤ j → j < l.length → sw (rd_T43 l (j : Int)))
  | 0, i, k + 1, h, hk => ⟨false, by rw [gradineplain_Wide.l0, if_neg (by omega)], fun _ j h1 h2 => by omega⟩
  | q + 1, i, k + 1, h, hk => by
    rw [gradineplain_Wide.l0, if_pos (by omega), if_pos (by omega), if_pos (by omega), wsucc (by omega)]
    obtain ⟨b, hb, hs⟩ := wide_some hl q (i + 1) k (by omega) (by omega)
    rw [hb]
    unfold gradineplain_Long.f
    by_cases c1 : ((rd_T43 l (i : Int)).f0.f1.length : Int) > 9
    · exact ⟨true, by rw [if_pos c1]; rfl, fun h => by cases h⟩
    by_cases c2 : ((rd_T43 l (i : Int)).f0.f2.length : Int) > 9
    · exact ⟨true, by rw [if_neg c1, decide_eq_true c2]; rfl, fun h => by cases h⟩
    refine ⟨b, by rw [if_neg c1, decide_eq_false c2]; rfl, fun hf j h1 h2 => ?_⟩
    by_cases e : j = i
    · subst e; exact ⟨by omega, by omega⟩
    · exact hs hf j (by omega) h2
theorem wide_f {l : List S43} (k : Nat) (hl : l.length ≤ 1000000) (hk : l.length < k) : ∃ b, gradineplain_Wide.f k l 9 = some b ∧ (b = false → ∀ x ∈ l, sw x) := by
  obtain ⟨b, h1, h2⟩ := wide_some hl l.length 0 k (by omega) hk
  exact ⟨b, h1, fun h => sw_of (h2 h)⟩
theorem many_f (a : Bool) (l1 : List Int) (l2 : List S43) : ∃ b, gradinelaw24_many.f 200 [(⟨a, l1, l2⟩ : S25)] = some b ∧ (b = false → l1.length ≤ 100 ∧ l2.length ≤ 100 ∧ ∀ x ∈ l2, sw x) := by
  have e1 : wrap64 ((0 : Int) + 1) = 1 := w64o (by omega) (by omega)
  have e2 : gradinelaw24_many.l0 199 [(⟨a, l1, l2⟩ : S25)] 1 1 = some false := by rw [gradinelaw24_many.l0]; rfl
  show ∃ b, gradinelaw24_many.l0 (199 + 1) [(⟨a, l1, l2⟩ : S25)] 1 0 = some b ∧ _
  rw [gradinelaw24_many.l0, if_pos (by omega), if_pos (by omega), if_pos (by simp), e1, e2]
  by_cases c1 : (l1.length : Int) > 100
  · exact ⟨true, if_pos c1, fun h => by cases h⟩
  by_cases c2 : (l2.length : Int) > 100
  · exact ⟨true, (if_neg c1).trans (if_pos c2), fun h => by cases h⟩
  obtain ⟨b, h1, h2⟩ := wide_f (l := l2) 199 (by omega) (by omega)
  refine ⟨b, (if_neg c1).trans ((if_neg c2).trans ?_), fun h => ⟨by omega, by omega, h2 h⟩⟩
  show (gradineplain_Wide.f 199 l2 9).bind _ = _
  rw [h1]
  cases b <;> rfl
theorem eta43 (x : S43) : (⟨⟨x.f0.f0, x.f0.f1, x.f0.f2⟩, x.f1, x.f2⟩ : S43) = x := rfl
theorem cdrop {l : List S43} {i : Nat} (h : i < l.length) : rd_T43 l (i : Int) :: l.drop (i + 1) = l.drop i := by rw [rd43 h]; exact List.getElem_cons_drop h
theorem copies_l {l : List S43} (hl : l.length ≤ 1000000) (hs : ∀ x ∈ l, sw x) : ∀ (q i k : Nat) (o : List S43), i + q = l.length → q < k → o.length = i → store_copies.l0 k o l (l.length : Int) (i : Int) = some (o ++ l.drop i)
  | 0, i, k + 1, o, h, hk, ho => by rw [store_copies.l0, if_neg (by omega), List.drop_eq_nil_of_le (by omega), List.append_nil]
  | q + 1, i, k + 1, o, h, hk, ho => by
    have hx : sw (rd_T43 l (i : Int)) := by rw [rd43 (show i < l.length by omega)]; exact hs _ (List.getElem_mem _)
    rw [store_copies.l0, if_pos (by omega), if_pos (by omega), if_pos (by omega), bcopy _ _ _ _ _ (by have := hx.1; omega) (by have := hx.2; omega), wsucc (by omega)]
    refine (if_pos (by omega)).trans ?_
    rw [copies_l hl hs q (i + 1) k _ (by omega) (by omega) (by simp [ho])]
    rw [eta43, List.append_assoc, List.singleton_append, cdrop (by omega)]
theorem copies_f {l : List S43} (k : Nat) (hl : l.length ≤ 1000000) (hs : ∀ x ∈ l, sw x) (hk : l.length < k) : store_copies.f k l = some l := by
  have := copies_l hl hs l.length 0 k [] (by omega) hk rfl
  simpa [store_copies.f] using this
def idx (n : Nat) : List Int := (List.range n).map Int.ofNat
theorem idx_len (n : Nat) : (idx n).length = n := by simp [idx]
theorem idx_succ (n : Nat) : idx (n + 1) = idx n ++ [(n : Int)] := by simp [idx, List.range_succ]
theorem rd_idx {n i : Nat} (h : i < n) : rd (idx n) (i : Int) = (i : Int) := by
  unfold rd; simp [idx, List.getD_eq_getElem?_getD, h]
theorem get_l {V : List S43} (hl : V.length ≤ 1000000) (hs : ∀ x ∈ V, sw x) : ∀ (q i k : Nat) (o : List S43), i + q = V.length → q < k → o.length = i → store_Get.l0 k V (idx V.length) o (i : Int) = some (o ++ V.drop i, 0)
  | 0, i, k + 1, o, h, hk, ho => by rw [store_Get.l0, idx_len, if_neg (by omega), List.drop_eq_nil_of_le (by omega), List.append_nil]
  | q + 1, i, k + 1, o, h, hk, ho => by
    have hx : sw (rd_T43 V (i : Int)) := by rw [rd43 (show i < V.length by omega)]; exact hs _ (List.getElem_mem _)
    rw [store_Get.l0, idx_len, if_pos (by omega), if_pos (by omega), rd_idx (show i < V.length by omega), if_neg (by omega), if_neg (by omega), bcopy _ _ _ _ _ (by have := hx.1; omega) (by have := hx.2; omega), wsucc (by omega)]
    refine (if_pos (by omega)).trans ?_
    rw [get_l hl hs q (i + 1) k _ (by omega) (by omega) (by simp [ho])]
    rw [eta43, List.append_assoc, List.singleton_append, cdrop (by omega)]
theorem get_f {V : List S43} (k : Nat) (hl : V.length ≤ 1000000) (hs : ∀ x ∈ V, sw x) (hk : V.length < k) : store_Get.f k V (idx V.length) = some (V, 0) := by
  have := get_l hl hs V.length 0 k [] (by omega) hk rfl
  simpa [store_Get.f] using this
theorem has_l {l : List Int} (hl : l.length ≤ 1000000) (c : Int) : ∀ (q i k : Nat), i + q = l.length → q < k → ∃ b, gradineref19_Has.l0 k l c (l.length : Int) (i : Int) = some b ∧ (b = false → ∀ j, i ≤ j → j < l.length → rd l (j : Int) ≠ c)
  | 0, i, k + 1, h, hk => ⟨false, by rw [gradineref19_Has.l0, if_neg (by omega)], fun _ j h1 h2 => by omega⟩
  | q + 1, i, k + 1, h, hk => by
    rw [gradineref19_Has.l0, if_pos (by omega), if_pos (by omega), if_pos (by omega), wsucc (by omega)]
    by_cases c1 : rd l (i : Int) = c
    · exact ⟨true, if_pos c1, fun h => by cases h⟩
    obtain ⟨b, hb, hs⟩ := has_l hl c q (i + 1) k (by omega) (by omega)
    refine ⟨b, (if_neg c1).trans hb, fun hf j h1 h2 => ?_⟩
    by_cases e : j = i
    · subst e; exact c1
    · exact hs hf j (by omega) h2
theorem has_f {l : List Int} (k : Nat) (hl : l.length ≤ 1000000) (hk : l.length < k) (c : Int) : ∃ b, gradineref19_Has.f k l c = some b ∧ (b = false → ∀ j, j < l.length → rd l (j : Int) ≠ c) := by
  obtain ⟨b, h1, h2⟩ := has_l hl c l.length 0 k (by omega) hk
  exact ⟨b, h1, fun h j hj => h2 h j (by omega) hj⟩
theorem words_l {l : List Int} (hl : l.length ≤ 1000000) : ∀ (q i k : Nat), i + q = l.length → q < k → gradineref07_Words.l0 k l l (l.length : Int) (i : Int) = some true
  | 0, i, k + 1, h, hk => by rw [gradineref07_Words.l0, if_neg (by omega)]
  | q + 1, i, k + 1, h, hk => by
    rw [gradineref07_Words.l0, if_pos (by omega), if_pos (by omega), if_pos (by omega), if_pos (by omega), if_pos rfl, wsucc (by omega)]
    exact words_l hl q (i + 1) k (by omega) (by omega)
theorem words_f {l : List Int} (h : l.length ≤ 9) : gradineref07_Words.f 12 l l = some true := by
  rw [gradineref07_Words.f, if_pos rfl]
  exact words_l (by omega) l.length 0 12 (by omega) (by omega)
theorem same_f {x : S43} (h : sw x) : gradineref18_Same.f 12 x.f0.f0 x.f0.f1 x.f0.f2 x.f1 x.f2 x.f0.f0 x.f0.f1 x.f0.f2 x.f1 x.f2 = some true := by
  rw [gradineref18_Same.f, if_pos rfl, if_pos rfl, gradineref07_Same.f, if_pos (by simp), words_f h.1, words_f h.2]
  rfl
theorem a1_apart {l1 : List Int} : ∀ {q i : Nat} {s : List Bool}, s.length = 64 → (∀ j, i ≤ j → j < i + q → (rd l1 (j : Int)).toNat < 64) → store_Put.a1 l1 q i s = true → ∀ j, i ≤ j → j < i + q → s.getD (rd l1 (j : Int)).toNat false = false ∧ ∀ m, i ≤ m → m < j → (rd l1 (m : Int)).toNat ≠ (rd l1 (j : Int)).toNat
  | 0, i, s, hs, hr, h, j, h1, h2 => by omega
  | q + 1, i, s, hs, hr, h, j, h1, h2 => by
    rw [store_Put.a1] at h
    split at h
    · cases h
    rename_i hn
    have hn' := Bool.eq_false_iff.mpr hn
    by_cases e : j = i
    · subst e; exact ⟨hn', fun m a b => by omega⟩
    obtain ⟨g1, g2⟩ := a1_apart (by simpa using hs) (fun j a b => hr j (by omega) (by omega)) h j (by omega) (by omega)
    have hv := hr i (by omega) (by omega)
    have hne : (rd l1 (i : Int)).toNat ≠ (rd l1 (j : Int)).toNat := fun e_ => by
      rw [← e_, List.getD_eq_getElem?_getD, List.getElem?_set_self (by omega)] at g1
      simp at g1
    refine ⟨?_, fun m a b => ?_⟩
    · rw [List.getD_eq_getElem?_getD, List.getElem?_set_ne hne, ← List.getD_eq_getElem?_getD] at g1; exact g1
    · by_cases em : m = i
      · subst em; exact hne
      · exact g2 m (by omega) b
theorem a2_len {l1 : List Int} {l2 : List S43} : ∀ (q i : Nat) (V : List S43), (store_Put.a2 l1 l2 q i V).length = V.length
  | 0, i, V => rfl
  | q + 1, i, V => by rw [store_Put.a2, a2_len q (i + 1)]; simp
theorem a2_other {l1 : List Int} {l2 : List S43} (c : Nat) : ∀ (q i : Nat) (V : List S43), (∀ j, i ≤ j → j < i + q → (rd l1 (j : Int)).toNat ≠ c) → (store_Put.a2 l1 l2 q i V)[c]? = V[c]?
  | 0, i, V, h => rfl
  | q + 1, i, V, h => by rw [store_Put.a2, a2_other c q (i + 1) _ (fun j a b => h j (by omega) (by omega)), List.getElem?_set_ne (h i (by omega) (by omega))]
theorem a2_put {l1 : List Int} {l2 : List S43} : ∀ (q i : Nat) (V : List S43), (∀ j, i ≤ j → j < i + q → ∀ m, i ≤ m → m < j → (rd l1 (m : Int)).toNat ≠ (rd l1 (j : Int)).toNat) → ∀ j, i ≤ j → j < i + q → (rd l1 (j : Int)).toNat < V.length → (store_Put.a2 l1 l2 q i V)[(rd l1 (j : Int)).toNat]? = some (rd_T43 l2 (j : Int))
  | 0, i, V, h, j, h1, h2, hv => by omega
  | q + 1, i, V, h, j, h1, h2, hv => by
    rw [store_Put.a2]
    by_cases e : j = i
    · subst e
      rw [a2_other _ q (j + 1) _ (fun m a b => (h m (by omega) (by omega) j (by omega) (by omega)).symm), List.getElem?_set_self hv]
    · exact a2_put q (i + 1) _ (fun j a b m c d => h j (by omega) (by omega) m (by omega) d) j (by omega) (by omega) (by simpa using hv)
theorem a2_all {l1 : List Int} {l2 : List S43} {p : S43 → Prop} (h2 : ∀ j, j < l2.length → p (rd_T43 l2 (j : Int))) : ∀ (q i : Nat) (V : List S43), i + q ≤ l2.length → (∀ x ∈ V, p x) → ∀ x ∈ store_Put.a2 l1 l2 q i V, p x
  | 0, i, V, h, hV, x, hx => hV x hx
  | q + 1, i, V, h, hV, x, hx => by
    rw [store_Put.a2] at hx
    exact a2_all h2 q (i + 1) _ (by omega) (fun y hy => (List.mem_or_eq_of_mem_set hy).elim (hV y) (fun e => e ▸ h2 i (by omega))) x hx
/-- What Put leaves. -/
theorem put_f {V : List S43} {l1 : List Int} {l2 : List S43} (h64 : V.length ≤ 64) (hV : ∀ x ∈ V, sw x) (h2 : ∀ x ∈ l2, sw x) : ∃ (E : Int) (U : List S43), store_Put.f V l1 l2 = (E, U) ∧ U.length = V.length ∧ (∀ x ∈ U, sw x) ∧ (E ≠ 0 → U = V) ∧
    (E = 0 → l1.length = l2.length ∧ (∀ j, j < l1.length → 0 ≤ rd l1 (j : Int) ∧ rd l1 (j : Int) < (V.length : Int) ∧ rd_T43 U (rd l1 (j : Int)) = rd_T43 l2 (j : Int)) ∧ ∀ i, i < V.length → (∀ j, j < l1.length → rd l1 (j : Int) ≠ (i : Int)) → rd_T43 U (i : Int) = rd_T43 V (i : Int)) := by
  rw [store_Put.f]
  by_cases hl : l1.length = l2.length
  rotate_left
  · rw [if_neg hl]; exact ⟨1, V, rfl, rfl, hV, fun _ => rfl, fun h => by cases h⟩
  rw [if_pos hl]
  by_cases h0 : store_Put.a0 V.length l1 l1.length 0 = true
  rotate_left
  · rw [if_neg h0]; exact ⟨11, V, rfl, rfl, hV, fun _ => rfl, fun h => by cases h⟩
  rw [if_pos h0]
  by_cases h1 : store_Put.a1 l1 l1.length 0 bfs = true
  rotate_left
  · rw [if_neg h1]; exact ⟨16, V, rfl, rfl, hV, fun _ => rfl, fun h => by cases h⟩
  rw [if_pos h1]
  have hr := fun j (a : j < l1.length) => store_Put.a0_all h0 j (Nat.zero_le _) (by omega)
  have hd := a1_apart (by simp [bfs]) (fun j _ b => by have := hr j (by omega); omega) h1
  refine ⟨0, _, rfl, a2_len _ _ _, a2_all (fun j hj => by rw [rd43 hj]; exact h2 _ (List.getElem_mem _)) _ _ _ (by omega) hV, fun h => absurd rfl h, fun _ => ⟨hl, fun j hj => ?_, fun i hi hn => ?_⟩⟩
  · refine ⟨(hr j hj).1, (hr j hj).2, ?_⟩
    show List.getD _ _ _ = _
    rw [List.getD_eq_getElem?_getD, a2_put _ _ _ (fun j _ b => (hd j (by omega) b).2) j (by omega) (by omega) (by have := hr j hj; omega)]
    rfl
  · show List.getD _ _ _ = List.getD _ _ _
    rw [List.getD_eq_getElem?_getD, List.getD_eq_getElem?_getD, Int.toNat_natCast, a2_other i _ _ _ (fun j _ b e => hn j (by omega) (by have := hr j (by omega); omega))]
end St
end Go.Proofs.Ytekmchjlnekliaa.Q
