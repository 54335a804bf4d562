/- Texts of the proof of TensorActs, part 3: what functions of the program compute, and that they compute it. -/
import Derived.Test.YtmhikecbajkonaaWordsMore
import Derived.LaidEqlPtr
import Derived.Test.YtmhikecbajkonaaKTensorActs2
namespace Go.Proofs.Ytmhikecbajkonaa.Q
open Go.RowKit Go.Proofs.YtmhikecbajkonaaW.PrintWords Go.Proofs.YtmhikecbajkonaaW.PrintLast Go.Proofs.YtmhikecbajkonaaW.PrintMore
set_option linter.unusedVariables false
set_option linter.unusedSimpArgs false
namespace St
theorem has_it {l : List Int} (hl : l.length ≤ 1000000) (c : Int) : ∀ (q i k : Nat), i + q = l.length → q < k → ∃ b, gradineref19_Has.l0 k l c (l.length : Int) (i : Int) = some b ∧ (b = true ↔ ∃ j, i ≤ j ∧ j < l.length ∧ rd l (j : Int) = c)
  | 0, i, k + 1, h, hk => ⟨false, by rw [gradineref19_Has.l0, if_neg (by omega)], by constructor; (intro h; cases h); (rintro ⟨j, h1, h2, _⟩; omega)⟩
  | q + 1, i, k + 1, h, hk => by
    rw [gradineref19_Has.l0, if_pos (by omega), if_pos (by omega), if_pos (by omega), wsucc (by omega)]
    by_cases c1 : rd l (i : Int) = c
    · exact ⟨true, if_pos c1, fun _ => ⟨i, by omega, by omega, c1⟩, fun _ => rfl⟩
    obtain ⟨b, hb, hs⟩ := has_it hl c q (i + 1) k (by omega) (by omega)
    refine ⟨b, (if_neg c1).trans hb, hs.trans ⟨?_, ?_⟩⟩
    · rintro ⟨j, h1, h2, h3⟩; exact ⟨j, by omega, h2, h3⟩
    · rintro ⟨j, h1, h2, h3⟩
      refine ⟨j, ?_, h2, h3⟩
      by_cases e : j = i
      · subst e; exact absurd h3 c1
      · omega
theorem has_iff {l : List Int} (k : Nat) (hl : l.length ≤ 1000000) (hk : l.length < k) (c : Int) : gradineref19_Has.f k l c = some true ↔ ∃ j, j < l.length ∧ rd l (j : Int) = c := by
  obtain ⟨b, hb, hs⟩ := has_it hl c l.length 0 k (by omega) hk
  have hb' : gradineref19_Has.f k l c = some b := hb
  rw [hb', Option.some.injEq, hs]
  exact ⟨fun ⟨j, _, h2, h3⟩ => ⟨j, h2, h3⟩, fun ⟨j, h2, h3⟩ => ⟨j, Nat.zero_le _, h2, h3⟩⟩
theorem rd_take {l : List Int} {i m : Nat} (h : m < i) : rd (l.take i) (m : Int) = rd l (m : Int) := by
  unfold rd
  rw [List.getD_eq_getElem?_getD, List.getD_eq_getElem?_getD, Int.toNat_natCast, List.getElem?_take_of_lt h]
theorem a1_eq {l1 : List Int} (hl : l1.length ≤ 100) (hr : ∀ j, j < l1.length → 0 ≤ rd l1 (j : Int) ∧ (rd l1 (j : Int)).toNat < 64) : ∀ (q i : Nat) (s : List Bool), i + q = l1.length → s.length = 64 → (∀ c, c < 64 → (s.getD c false = true ↔ ∃ m, m < i ∧ (rd l1 (m : Int)).toNat = c)) → Rf.put.a1 l1 q i = store_Put.a1 l1 q i s
  | 0, i, s, h, hs, hm => rfl
  | q + 1, i, s, h, hs, hm => by
    have hi := hr i (by omega)
    have ht : (l1.take i).length = i := by simp; omega
    have e1 := has_iff (l := l1.take i) 200 (by omega) (by omega) (rd l1 (i : Int))
    have e2 := hm _ hi.2
    have e : gradineref19_Has.f 200 (l1.take i) (rd l1 (i : Int)) = some true ↔ s.getD (rd l1 (i : Int)).toNat false = true := by
      rw [e1, e2, ht]
      constructor
      · rintro ⟨j, h1, h2⟩; rw [rd_take h1] at h2; exact ⟨j, h1, by rw [h2]⟩
      · rintro ⟨j, h1, h2⟩; refine ⟨j, h1, ?_⟩; rw [rd_take h1]; have hj := hr j (by omega); clear e1 e2; omega
    rw [Rf.put.a1, store_Put.a1]
    by_cases c : s.getD (rd l1 (i : Int)).toNat false = true
    · rw [if_pos (e.2 c), if_pos c]
    · rw [if_neg (fun h => c (e.1 h)), if_neg c]
      refine a1_eq hl hr q (i + 1) _ (by omega) (by simpa using hs) (fun c' hc' => ?_)
      by_cases e' : (rd l1 (i : Int)).toNat = c'
      · subst e'
        rw [List.getD_eq_getElem?_getD, List.getElem?_set_self (by omega)]
        exact ⟨fun _ => ⟨i, by omega, rfl⟩, fun _ => rfl⟩
      · rw [List.getD_eq_getElem?_getD, List.getElem?_set_ne e', ← List.getD_eq_getElem?_getD, hm _ hc']
        constructor
        · rintro ⟨m, h1, h2⟩; exact ⟨m, by omega, h2⟩
        · rintro ⟨m, h1, h2⟩
          refine ⟨m, ?_, h2⟩
          by_cases em : m = i
          · subst em; exact absurd h2 e'
          · omega
theorem put_eq {V : List S80} {l1 : List Int} {l2 : List S80} (hl : l1.length ≤ 100) (h64 : V.length ≤ 64) : (if l1.length = l2.length then (if store_Put.a0 V.length l1 l1.length 0 = true then (if Rf.put.a1 l1 l1.length 0 = true then ((0 : Int), store_Put.a2 l1 l2 l1.length 0 V) else (16, V)) else (11, V)) else (1, V)) = store_Put.f V l1 l2 := by
  rw [store_Put.f]
  by_cases h0 : store_Put.a0 V.length l1 l1.length 0 = true
  · have hr := fun j (a : j < l1.length) => store_Put.a0_all h0 j (Nat.zero_le _) (by omega)
    rw [a1_eq hl (fun j hj => ⟨(hr j hj).1, by have := hr j hj; omega⟩) l1.length 0 bfs (by omega) (by simp [bfs]) (fun c hc => by
      have : bfs.getD c false = false := by
        rw [List.getD_eq_getElem?_getD]
        unfold bfs
        rw [List.getElem?_replicate, if_pos hc]
        rfl
      rw [this]
      exact ⟨(fun h => by cases h), (fun ⟨m, h, _⟩ => by omega)⟩)]
  · rw [if_neg h0, if_neg h0]
theorem same_k {x : S80} (h : sw x) {k : Nat} (hk : 12 ≤ k) : gradineref18_Same.f k x.f0.f0 x.f0.f1 x.f0.f2 x.f1 x.f2 x.f0.f0 x.f0.f1 x.f0.f2 x.f1 x.f2 = some true := by
  have wf : ∀ {l : List Int}, l.length ≤ 9 → gradineref07_Words.f k l l = some true := fun {l} h => by
    rw [gradineref07_Words.f, if_pos rfl]
    exact words_l (by omega) l.length 0 k (by omega) (by omega)
  rw [gradineref18_Same.f, if_pos rfl, if_pos rfl, gradineref07_Same.f, if_pos (by simp), wf h.1, wf h.2]
  rfl
theorem all_l {l : List S80} (hl : l.length ≤ 1000000) (hs : ∀ x ∈ l, sw x) : ∀ (q i k : Nat), i + q = l.length → q + 13 ≤ k → gradineref18_All.l0 k l l (l.length : Int) (i : Int) = some true
  | 0, i, k + 1, h, hk => by rw [gradineref18_All.l0, if_neg (by omega)]
  | q + 1, i, k + 1, h, hk => by
    have hx : sw (rd_T80 l (i : Int)) := by rw [rd43 (show i < l.length by omega)]; exact hs _ (List.getElem_mem _)
    rw [gradineref18_All.l0, if_pos (by omega), if_pos (by omega), if_pos (by omega), if_pos (by omega), same_k hx (by omega), wsucc (by omega)]
    exact all_l hl hs q (i + 1) k (by omega) (by omega)
theorem all_f {l : List S80} (k : Nat) (hl : l.length ≤ 1000000) (hs : ∀ x ∈ l, sw x) (hk : l.length + 13 ≤ k) : gradineref18_All.f k l l = some true := by
  rw [gradineref18_All.f, if_pos rfl]
  exact all_l hl hs l.length 0 k (by omega) hk
theorem getg_l {V : List S80} {l1 : List Int} (hV : ∀ x ∈ V, sw x) (hl : l1.length ≤ 1000000) : ∀ (q i k : Nat) (o : List S80), i + q = l1.length → q < k → o.length ≤ i → store_Get.l0 k V l1 o (i : Int) = some (Rf.get.g V l1 q i o)
  | 0, i, k + 1, o, h, hk, ho => by rw [store_Get.l0, if_neg (by omega)]; rfl
  | q + 1, i, k + 1, o, h, hk, ho => by
    rw [store_Get.l0, Rf.get.g, if_pos (by omega), if_pos (by omega)]
    by_cases c1 : rd l1 (i : Int) < 0
    · rw [if_pos c1, if_pos c1]
    rw [if_neg c1, if_neg c1]
    by_cases c2 : (V.length : Int) ≤ rd l1 (i : Int)
    · rw [if_pos c2, if_pos c2]
    rw [if_neg c2, if_neg c2]
    have hx : sw (rd_T80 V (rd l1 (i : Int))) := by
      have := rd43 (l := V) (i := (rd l1 (i : Int)).toNat) (by omega)
      rw [Int.toNat_of_nonneg (by omega)] at this
      rw [this]; exact hV _ (List.getElem_mem _)
    rw [bcopy _ _ _ _ _ (by have := hx.1; omega) (by have := hx.2; omega), wsucc (by omega)]
    refine (if_pos (by omega)).trans ?_
    exact getg_l hV hl q (i + 1) k _ (by omega) (by omega) (by simp; omega)
theorem getg_f {V : List S80} {l1 : List Int} (k : Nat) (hV : ∀ x ∈ V, sw x) (hl : l1.length ≤ 1000000) (hk : l1.length < k) : store_Get.f k V l1 = some (Rf.get.g V l1 l1.length 0 []) := getg_l hV hl l1.length 0 k [] (by omega) hk (Nat.le_refl _)
theorem getg_all {V : List S80} {l1 : List Int} (hV : ∀ x ∈ V, sw x) : ∀ (q i : Nat) (o : List S80), (∀ x ∈ o, sw x) → (∀ x ∈ (Rf.get.g V l1 q i o).1, sw x) ∧ (Rf.get.g V l1 q i o).1.length ≤ o.length + q
  | 0, i, o, h => ⟨h, by show o.length ≤ _; omega⟩
  | q + 1, i, o, h => by
    rw [Rf.get.g]
    by_cases c1 : rd l1 (i : Int) < 0
    · rw [if_pos c1]; exact ⟨fun x hx => by simp at hx, by simp⟩
    rw [if_neg c1]
    by_cases c2 : (V.length : Int) ≤ rd l1 (i : Int)
    · rw [if_pos c2]; exact ⟨fun x hx => by simp at hx, by simp⟩
    rw [if_neg c2]
    have hx : sw (rd_T80 V (rd l1 (i : Int))) := by
      have := rd43 (l := V) (i := (rd l1 (i : Int)).toNat) (by omega)
      rw [Int.toNat_of_nonneg (by omega)] at this
      rw [this]; exact hV _ (List.getElem_mem _)
    have r := getg_all (l1 := l1) hV q (i + 1) (o ++ [rd_T80 V (rd l1 (i : Int))]) (fun y hy => (List.mem_append.1 hy).elim (h y) (fun e => by rw [List.mem_singleton.1 e]; exact hx))
    exact ⟨r.1, by have := r.2; simp at this; omega⟩
end St
end Go.Proofs.Ytmhikecbajkonaa.Q
namespace Go.Proofs.Ytmhikecbajkonaa.Q
open Go.RowKit Go.Proofs.YtmhikecbajkonaaW.PrintWords Go.Proofs.YtmhikecbajkonaaW.PrintLast Go.Proofs.YtmhikecbajkonaaW.PrintMore
attribute [local go_sem] max2_int min2_int max_two min_two max_three min_three max_four min_four
set_option linter.unusedVariables false
set_option linter.unusedSimpArgs false
namespace Sb
theorem put2 (gs gr c : Nat) (V : List S80) (ver : Int) (ok : Nat → Prop) (A1 : Option Addr) (c1 : Nat) (l1 : List Int) (A2 : Option Addr) (c2 : Nat) (l2 : List S80) (E : Int) (U : List S80) (w0 w : World)
  (hst : w.heap[gs]? = some (.cells #[.slice (some ⟨gr, 0, none⟩) V.length c, .int .i64 ver] 89 (0, 0))) (hV : Kd.S k80 80 w w0.heap.size ok (.slice (some ⟨gr, 0, none⟩) V.length c) V) (hok : ∀ k, ok k → k ≠ gs) (hX : w0.heap.size ≤ gs ∧ w0.heap.size ≤ gr ∧ gs ≠ gr) (h64 : V.length ≤ 64) (hn : l1.length ≤ 100) (hB : Below w0.heap.size w0 w) (hr1 : Kd.C (Kd.int .i64) w0 A1 l1.length l1) (hr2 : Kd.C k80 w0 A2 l2.length l2) (hs : ∀ x ∈ l2, St.sw x) (e_ : store_Put.f V l1 l2 = (E, U)) (hU : U.length = V.length) :
  Calls Try.prog 37 #[.pointer (some ⟨gs, 0, none⟩), .slice A1 l1.length c1, .slice A2 l2.length c2] w fun e w' => e = .returned (.int .i64 E) ∧ w'.heap[gs]? = some (.cells #[.slice (some ⟨gr, 0, none⟩) U.length c, .int .i64 (if E = 0 then wrap64 (ver + 1) else ver)] 89 (0, 0)) ∧ Kd.S k80 80 w' w0.heap.size (fun k => k ≠ gs) (.slice (some ⟨gr, 0, none⟩) U.length c) U ∧ Below w0.heap.size w0 w' ∧ (∀ k, k < w.heap.size → k ≠ gs → k ≠ gr → w'.heap[k]? = w.heap[k]?) := by
  have h_ := store_Put.calls gs gr c V ver ok A1 c1 l1 A2 c2 l2 w0 w hst hV hok hX.1 hX.2.1 hX.2.2 h64 (by omega) hB (fun w' b _ => Kd.C_below hr1 b) (fun w' b _ => Kd.C_below hr2 b) (fun hp ad e => by
    obtain ⟨ad', _, _, _, _, e', h0, _⟩ := at_T80 hr2 0 (by omega) (by omega)
    rw [e] at e'
    cases e'
    have h1 := World.block_lt_of_cell? w0 _ h0
    rw [show ((ad.add ((0 : Int).toNat * 5))).block = ad.block by unfold Addr.add; split <;> rfl] at h1
    have := hX.2.1
    omega) (fun x hx => ⟨by have := (hs x hx).1; omega, by have := (hs x hx).2; omega⟩)
  rw [e_] at h_
  refine h_.mono (fun e w' h => ⟨h.1, ?_, ?_, h.2.2.2.1, h.2.2.2.2⟩)
  · rw [hU]; exact h.2.1
  · rw [hU]; exact h.2.2.1
/-- What both have, ahead of a round. -/
structure Inv (W w : World) (gs gr c gf : Nat) (V : List S80) (ver : Int) (A : Option Addr) (c' : Nat) : Prop where
  atS : w.heap[gs]? = some (.cells #[.slice (some ⟨gr, 0, none⟩) V.length c, .int .i64 ver] 89 (0, 0))
  row : Kd.S k80 80 w W.heap.size (fun k => k ≠ gs) (.slice (some ⟨gr, 0, none⟩) V.length c) V
  atF : w.heap[gf]? = some (.cells #[.slice A V.length c', .int .i64 ver] 38 (0, 0))
  ref : Rf.V W w (fun k => k ≠ gs ∧ k ≠ gr ∧ k ≠ gf) (.slice A V.length c') V
  bel : Below W.heap.size W w
theorem Inv.step {W w w1 : World} {gs gr c gf : Nat} {V : List S80} {ver : Int} {A : Option Addr} {c' : Nat} (h : Inv W w gs gr c gf V ver A c') (hb : Below w.heap.size w w1) : Inv W w1 gs gr c gf V ver A c' := ⟨blk_below h.atS hb, Kd.S_below h.row hb, blk_below h.atF hb, Rf.V_below h.ref hb, below_step h.bel hb⟩
theorem Inv.refC {W w : World} {gs gr c gf : Nat} {V : List S80} {ver : Int} {A : Option Addr} {c' : Nat} (h : Inv W w gs gr c gf V ver A c') : Kd.C (kE W) w A V.length V := (Rf.V_reads h.ref h.bel).2.2
theorem Inv.C {W w : World} {gs gr c gf : Nat} {V : List S80} {ver : Int} {A : Option Addr} {c' : Nat} (h : Inv W w gs gr c gf V ver A c') : Kd.C k80 w (some ⟨gr, 0, none⟩) V.length V := (Kd.S_reads' h.row).2.2
theorem Inv.ne {W w : World} {gs gr c gf : Nat} {V : List S80} {ver : Int} {A : Option Addr} {c' : Nat} (h : Inv W w gs gr c gf V ver A c') (h1 : 1 ≤ V.length) : gs ≠ gf ∧ gr ≠ gf ∧ gs ≠ gr := by
  obtain ⟨cs, hc⟩ := Kd.S_typed h.row gr (by simp [Value.ownBlock])
  have hf := h.atF
  have hg := h.atS
  exact ⟨(fun e => by rw [e] at hg; rw [hf] at hg; cases hg), (fun e => by rw [e] at hc; rw [hf] at hc; cases hc), (fun e => by rw [e] at hg; rw [hc] at hg; cases hg)⟩
/-- Behind the store's Put and the reference's. -/
theorem Inv.put {W w w1 w2 : World} {gs gr c gf : Nat} {V U : List S80} {ver ver' E : Int} {A : Option Addr} {c' : Nat} {e : Ending} (h : Inv W w gs gr c gf V ver A c') (h1 : 1 ≤ V.length) (hU : U.length = V.length) (hgs : W.heap.size ≤ gs) (hgr : W.heap.size ≤ gr) (hgf : W.heap.size ≤ gf)
  (hs : w1.heap[gs]? = some (.cells #[.slice (some ⟨gr, 0, none⟩) U.length c, .int .i64 ver'] 89 (0, 0))) (hS : Kd.S k80 80 w1 W.heap.size (fun k => k ≠ gs) (.slice (some ⟨gr, 0, none⟩) U.length c) U) (hb : Below W.heap.size W w1) (hf : ∀ k, k < w.heap.size → k ≠ gs → k ≠ gr → w1.heap[k]? = w.heap[k]?)
  (hv : ver' = if E = 0 then wrap64 (ver + 1) else ver) (hp : Rf.PP W w1 gf A c' V ver E U e w2) : e = .returned (.int .i64 E) ∧ ∃ A2 c2, Inv W w2 gs gr c gf U ver' A2 c2 := by
  obtain ⟨n1, n2, n3⟩ := h.ne h1
  have hgf1 := (hf gf (blk_lt h.atF) n1.symm n2.symm).trans h.atF
  rcases hp with ⟨he, ⟨hE, rfl, hb2⟩ | ⟨hE, A2, c2, k1, k2, k3, k4, k5⟩⟩
  · subst hv
    rw [if_neg hE] at hs ⊢
    refine ⟨he, A, c', Inv.step ⟨hs, hS, hgf1, Rf.V_step h.ref (fun k hk hl => hf k hl hk.1 hk.2.1), hb⟩ hb2⟩
  · subst hv
    rw [if_pos hE] at hs ⊢
    have hlr : gr < w1.heap.size := Kd.S_lt hS gr (by simp [Value.ownBlock])
    rw [← hU] at k1 k2
    exact ⟨he, A2, c2, (k5 gs (blk_lt hs) n1).trans hs, Kd.S_mono (Kd.S_step (Kd.S_types hS hgf1 (by decide)) (fun k hk hl => k5 k hl hk.2)) (fun _ hk => hk.1), k1, Or.inr (Kd.R_lower (Kd.R_mono (Kd.R_bound (Kd.S_R k2)) (fun k hk => by have h_ := hk.2.1; have a := blk_lt hs; have b := blk_lt hgf1; exact ⟨by omega, by omega, by omega⟩)) hb.size), k3⟩
end Sb
end Go.Proofs.Ytmhikecbajkonaa.Q
namespace Go.Proofs.Ytmhikecbajkonaa.Q
open Go.RowKit Go.Proofs.YtmhikecbajkonaaW.PrintWords Go.Proofs.YtmhikecbajkonaaW.PrintLast Go.Proofs.YtmhikecbajkonaaW.PrintMore
attribute [local go_sem] max2_int min2_int max_two min_two max_three min_three max_four min_four
set_option linter.unusedVariables false
set_option linter.unusedSimpArgs false
namespace Tn
/-- A tensor: its store, and its view. -/
def Ten (w : World) (b gt gs : Nat) (o : Int) (d s : List Int) : Prop := ∃ Ad cd As cs, w.heap[gt]? = some (.cells #[.pointer (some ⟨gs, 0, none⟩), .int .i64 o, .slice Ad d.length cd, .slice As s.length cs] 68 (0, 0)) ∧ Kd.R (Kd.int .i64) 3 w b (fun _ => True) (.slice Ad d.length cd) d ∧ Kd.R (Kd.int .i64) 3 w b (fun _ => True) (.slice As s.length cs) s
theorem Ten.below {w w1 : World} {b gt gs : Nat} {o : Int} {d s : List Int} (h : Ten w b gt gs o d s) (hb : Below w.heap.size w w1) : Ten w1 b gt gs o d s := by
  obtain ⟨Ad, cd, As, cs, h1, h2, h3⟩ := h
  exact ⟨Ad, cd, As, cs, blk_below h1 hb, Kd.R_below h2 hb, Kd.R_below h3 hb⟩
theorem Ten.st {w : World} {b gt gs : Nat} {o : Int} {d s : List Int} (h : Ten w b gt gs o d s) : w.cell? ⟨gt, 0, none⟩ = some (.pointer (some ⟨gs, 0, none⟩)) := by
  obtain ⟨Ad, cd, As, cs, h1, h2, h3⟩ := h
  exact (blk_cell h1 0).trans rfl
/-- What a tensor's view reads as, where it lies. -/
theorem Ten.view {w : World} {b gt gs : Nat} {o : Int} {d s : List Int} (h : Ten w b gt gs o d s) : ∃ Ad cd As cs, w.heap[gt]? = some (.cells #[.pointer (some ⟨gs, 0, none⟩), .int .i64 o, .slice Ad d.length cd, .slice As s.length cs] 68 (0, 0)) ∧ Kd.C (Kd.int .i64) w Ad d.length d ∧ d.length ≤ cd ∧ Kd.C (Kd.int .i64) w As s.length s ∧ s.length ≤ cs := by
  obtain ⟨Ad, cd, As, cs, h1, h2, h3⟩ := h
  exact ⟨Ad, cd, As, cs, h1, (Kd.R_reads' h2).2.2, (Kd.R_reads' h2).2.1, (Kd.R_reads' h3).2.2, (Kd.R_reads' h3).2.1⟩
theorem pS {P : Program} {ops : Array Oper} {Q : Exit → Act → World → Prop} {md : Region.Mode} {S : World → Prop} {ds : List Nat} {T : Bool × List (List Nat × List Nat)} {i : Nat} {N : Option Tmp} {oi : Oper} {fuel : Nat} {l : Array Bool} {a a' : Act} {w : World} (l' : Array Bool) (hi : ops[i]? = some oi) (hN : oi.dst = N) (hT : rtab md ops = T) (h : wpAnyLast P md ops Q S ds fuel l' a' w) (hc : anyT T l.toList l'.toList i = true := by kernel_rfl) (hQ : ∀ c a w, Q (.panic c) (a.put oi.dst undef) w → Q (.panic c) a w := by exact fun _ _ _ h => h)
  (hy : Region.wanted oi (yielded ops a.tmps) = false := by rfl) (ha : a.put N undef = a' := by simp only [Act.put, List.setIfInBounds_toArray, List.set_cons_zero, List.set_cons_succ, i64_w, i32_w]; rfl) : wpAnyLast P md ops Q S ds (fuel + 1) l a w := pure_ l' hi hN (any_of hT hc) hQ (Or.inr ⟨hy, rfl⟩) ha h
theorem info89 : (Try.prog.info? 89).map (·.size) = some 2 := by kernel_rfl
theorem eql64_same (a : Addr) (w : World) : (binOp .eql 64 (.pointer (some a)) (.pointer (some a))).run Try.prog w = .ok (.bool true) w := by
  obtain ⟨j, hj, _⟩ := Option.map_eq_some_iff.1 info89
  exact run_eql_ptr_same w a Try.underlying64 hj
theorem eql64_other {a b : Nat} {w : World} {ca cb : Array Value} (hne : a ≠ b) (ha : w.heap[a]? = some (.cells ca 89 (0, 0))) (hb : w.heap[b]? = some (.cells cb 89 (0, 0))) : (binOp .eql 64 (.pointer (some ⟨a, 0, none⟩)) (.pointer (some ⟨b, 0, none⟩))).run Try.prog w = .ok (.bool false) w := by
  obtain ⟨j, hj, hs⟩ := Option.map_eq_some_iff.1 info89
  exact run_eql_ptr_other w Try.underlying64 hj (by omega) (fun e => hne (by injection e)) ha hb
theorem ptr_ne {a b : Nat} (h : a ≠ b) : ((⟨a, 0, none⟩ : Addr) = ⟨b, 0, none⟩) = False := eq_false (fun e => h (by injection e))
def wi.T1 : Bool × List (List Nat × List Nat) := (true, [([], []), ([0], [0]), ([1], [1]), ([2], [2]), ([3, 2], [2, 3]), ([2, 4], [2, 4]), ([5, 2], [5]), ([6], [6]), ([7, 6], [6, 7]), ([8, 6], [6, 8]), ([9, 6], [6, 9]), ([6], [6]), ([11, 6], [6, 11]), ([12, 6], [6, 12]), ([13, 6], [6, 13]), ([10, 14, 6], [6, 10, 14]), ([6, 15], [6, 15]), ([16, 6, 0, 1, 2, 3, 4, 5, 6, 7, 8, 9, 10, 11, 12, 13, 14, 15, 16], [16])])
def wi.B1 : List Nat := [0, 1, 3, 7, 15, 31, 63, 127, 255, 511, 1023, 127, 2175, 6271, 14463, 32767, 65535, 131071]
theorem wi.tab1 : rtab .any (opsOf Try.f13 1) = wi.T1 := by kernel_rfl
theorem wi.bits1 : waitsOk wi.T1.2 wi.B1 = true := by kernel_rfl
set_option maxHeartbeats 8000000 in
set_option maxRecDepth 100000 in
theorem with_nl (v : Value) (w : World) : Calls Try.prog 13 #[.pointer none, v] w fun e w' => e = .returned (.bool false) ∧ Below w.heap.size w w' := by
 have HB := aM (Below.refl w.heap.size w)
 go_enter Try.func13, Try.ntmps13
 go_wp2
 replace HB := aM (below_drew1 HB.out)
 refine start_ (n := 18) (S := fun w' => True) (ds := []) (bm 18 0) (by kernel_rfl) rfl rfl (trivial) (fun hHeld => ?_); refine with_tabW wi.tab1 wi.bits1 (fun HT_ HW_ => ?_)
 refine pP (i := 0) (N := some 5) (bm 18 1) rfl rfl HT_.out ?_
 refine pP (i := 1) (N := some 6) (bm 18 3) rfl rfl HT_.out ?_
 refine pP (i := 2) (N := some 7) (bm 18 7) rfl rfl HT_.out ?_
 refine pS (i := 3) (N := some 8) (bm 18 15) rfl rfl HT_.out ?_
 refine pS (i := 4) (N := some 9) (bm 18 31) rfl rfl HT_.out ?_
 refine pP (i := 5) (N := some 10) (bm 18 63) rfl rfl HT_.out ?_
 refine pP (i := 6) (N := some 11) (bm 18 127) rfl rfl HT_.out ?_
 refine pS (i := 7) (N := some 12) (bm 18 255) rfl rfl HT_.out ?_
 refine pS (i := 8) (N := some 13) (bm 18 511) rfl rfl HT_.out ?_
 refine pS (i := 9) (N := some 14) (bm 18 1023) rfl rfl HT_.out ?_
 refine pS (i := 10) (N := some 15) (bm 18 2047) rfl rfl HT_.out ?_
 refine pS (i := 11) (N := some 16) (bm 18 4095) rfl rfl HT_.out ?_
 refine pS (i := 12) (N := some 17) (bm 18 8191) rfl rfl HT_.out ?_
 refine pS (i := 13) (N := some 18) (bm 18 16383) rfl rfl HT_.out ?_
 refine pS (i := 14) (N := some 19) (bm 18 32767) rfl rfl HT_.out ?_
 refine pS (i := 15) (N := some 20) (bm 18 65535) rfl rfl HT_.out ?_
 refine pP (i := 16) (N := some 21) (bm 18 131071) rfl rfl HT_.out ?_
 refine pP (i := 17) (N := some 4) (bm 18 262143) rfl rfl HT_.out ?_
 refine done_ (done_of HT_.out (by kernel_rfl)) ?_
 clear hHeld HT_ HW_
 go_wp2
 go_ret
 exact ⟨pE, qB HB⟩
set_option maxHeartbeats 8000000 in
set_option maxRecDepth 100000 in
theorem with_nr (g : Nat) (w : World) : Calls Try.prog 13 #[.pointer (some ⟨g, 0, none⟩), .pointer none] w fun e w' => e = .returned (.bool false) ∧ Below w.heap.size w w' := by
 have HB := aM (Below.refl w.heap.size w)
 go_enter Try.func13, Try.ntmps13
 go_wp2
 replace HB := aM (below_drew1 HB.out)
 refine start_ (n := 18) (S := fun w' => True) (ds := []) (bm 18 0) (by kernel_rfl) rfl rfl (trivial) (fun hHeld => ?_); refine with_tabW wi.tab1 wi.bits1 (fun HT_ HW_ => ?_)
 refine pP (i := 0) (N := some 5) (bm 18 1) rfl rfl HT_.out ?_
 refine pP (i := 1) (N := some 6) (bm 18 3) rfl rfl HT_.out ?_
 refine pP (i := 2) (N := some 7) (bm 18 7) rfl rfl HT_.out ?_
 refine pP (i := 3) (N := some 8) (bm 18 15) rfl rfl HT_.out ?_
 refine pP (i := 4) (N := some 9) (bm 18 31) rfl rfl HT_.out ?_
 refine pP (i := 5) (N := some 10) (bm 18 63) rfl rfl HT_.out ?_
 refine pP (i := 6) (N := some 11) (bm 18 127) rfl rfl HT_.out ?_
 refine pS (i := 7) (N := some 12) (bm 18 255) rfl rfl HT_.out ?_
 refine pS (i := 8) (N := some 13) (bm 18 511) rfl rfl HT_.out ?_
 refine pS (i := 9) (N := some 14) (bm 18 1023) rfl rfl HT_.out ?_
 refine pS (i := 10) (N := some 15) (bm 18 2047) rfl rfl HT_.out ?_
 refine pS (i := 11) (N := some 16) (bm 18 4095) rfl rfl HT_.out ?_
 refine pS (i := 12) (N := some 17) (bm 18 8191) rfl rfl HT_.out ?_
 refine pS (i := 13) (N := some 18) (bm 18 16383) rfl rfl HT_.out ?_
 refine pS (i := 14) (N := some 19) (bm 18 32767) rfl rfl HT_.out ?_
 refine pS (i := 15) (N := some 20) (bm 18 65535) rfl rfl HT_.out ?_
 refine pP (i := 16) (N := some 21) (bm 18 131071) rfl rfl HT_.out ?_
 refine pP (i := 17) (N := some 4) (bm 18 262143) rfl rfl HT_.out ?_
 refine done_ (done_of HT_.out (by kernel_rfl)) ?_
 clear hHeld HT_ HW_
 go_wp2
 go_ret
 exact ⟨pE, qB HB⟩
set_option maxHeartbeats 8000000 in
set_option maxRecDepth 100000 in
theorem with_yes (g g' gs : Nat) (w : World) (h1 : w.cell? ⟨g, 0, none⟩ = some (.pointer (some ⟨gs, 0, none⟩))) (h2 : w.cell? ⟨g', 0, none⟩ = some (.pointer (some ⟨gs, 0, none⟩))) : Calls Try.prog 13 #[.pointer (some ⟨g, 0, none⟩), .pointer (some ⟨g', 0, none⟩)] w fun e w' => e = .returned (.bool true) ∧ Below w.heap.size w w' := by
 have H1 := aM h1
 have H2 := aM h2
 clear h1 h2
 have he := eql64_same ⟨gs, 0, none⟩
 have HB := aM (Below.refl w.heap.size w)
 go_enter Try.func13, Try.ntmps13
 go_wp2
 replace HB := aM (below_drew1 HB.out)
 refine start_ (n := 18) (S := fun w' => w'.cell? ⟨g, 0, none⟩ = some (.pointer (some ⟨gs, 0, none⟩)) ∧ w'.cell? ⟨g', 0, none⟩ = some (.pointer (some ⟨gs, 0, none⟩))) (ds := []) (bm 18 0) (by kernel_rfl) rfl rfl ⟨H1.out, H2.out⟩ (fun hHeld => ?_); refine with_tabW wi.tab1 wi.bits1 (fun HT_ HW_ => ?_)
 refine pP (i := 0) (N := some 5) (bm 18 1) rfl rfl HT_.out ?_
 refine pP (i := 1) (N := some 6) (bm 18 3) rfl rfl HT_.out ?_
 refine pP (i := 2) (N := some 7) (bm 18 7) rfl rfl HT_.out ?_
 refine pP (i := 3) (N := some 8) (bm 18 15) rfl rfl HT_.out ?_
 refine pP (i := 4) (N := some 9) (bm 18 31) rfl rfl HT_.out ?_
 refine pP (i := 5) (N := some 10) (bm 18 63) rfl rfl HT_.out ?_
 refine pP (i := 6) (N := some 11) (bm 18 127) rfl rfl HT_.out ?_
 refine pP (i := 7) (N := some 12) (bm 18 255) rfl rfl HT_.out ?_
 refine pP (i := 8) (N := some 13) (bm 18 511) rfl rfl HT_.out ?_
 refine pP (i := 9) (N := some 14) (bm 18 1023) rfl rfl HT_.out ?_
 refine pP (i := 11) (N := some 16) (bm 18 3071) rfl rfl HT_.out ?_
 refine pP (i := 12) (N := some 17) (bm 18 7167) rfl rfl HT_.out ?_
 refine pP (i := 13) (N := some 18) (bm 18 15359) rfl rfl HT_.out ?_
 refine pT (i := 10) (N := some 15) (bm 18 16383) rfl rfl HT_.out HW_.out hHeld (by rintro w' ⟨s0, s1⟩; go_simp; with_reducible rfl) ?_
 refine pT (i := 14) (N := some 19) (bm 18 32767) rfl rfl HT_.out HW_.out hHeld (by rintro w' ⟨s0, s1⟩; go_simp; with_reducible rfl) ?_
 refine pP (i := 15) (N := some 20) (bm 18 65535) rfl rfl HT_.out ?_
 refine pP (i := 16) (N := some 21) (bm 18 131071) rfl rfl HT_.out ?_
 refine pP (i := 17) (N := some 4) (bm 18 262143) rfl rfl HT_.out ?_
 refine done_ (done_of HT_.out (by kernel_rfl)) ?_
 clear hHeld HT_ HW_
 go_wp2
 go_ret
 exact ⟨pE, qB HB⟩
set_option maxHeartbeats 8000000 in
set_option maxRecDepth 100000 in
theorem with_no (g g' gs gs' : Nat) (cs cs' : Array Value) (w : World) (hne : gs ≠ gs') (h3 : w.heap[gs]? = some (.cells cs 89 (0, 0))) (h4 : w.heap[gs']? = some (.cells cs' 89 (0, 0))) (h1 : w.cell? ⟨g, 0, none⟩ = some (.pointer (some ⟨gs, 0, none⟩))) (h2 : w.cell? ⟨g', 0, none⟩ = some (.pointer (some ⟨gs', 0, none⟩))) : Calls Try.prog 13 #[.pointer (some ⟨g, 0, none⟩), .pointer (some ⟨g', 0, none⟩)] w fun e w' => e = .returned (.bool false) ∧ Below w.heap.size w w' := by
 have H1 := aM h1
 have H2 := aM h2
 have H3 := aM h3
 have H4 := aM h4
 clear h1 h2 h3 h4
 have HN := aM hne
 clear hne
 have HB := aM (Below.refl w.heap.size w)
 go_enter Try.func13, Try.ntmps13
 go_wp2
 replace HB := aM (below_drew1 HB.out)
 refine start_ (n := 18) (S := fun w' => w'.cell? ⟨g, 0, none⟩ = some (.pointer (some ⟨gs, 0, none⟩)) ∧ w'.cell? ⟨g', 0, none⟩ = some (.pointer (some ⟨gs', 0, none⟩)) ∧ w'.heap[gs]? = some (.cells cs 89 (0, 0)) ∧ w'.heap[gs']? = some (.cells cs' 89 (0, 0))) (ds := []) (bm 18 0) (by kernel_rfl) rfl rfl ⟨H1.out, H2.out, H3.out, H4.out⟩ (fun hHeld => ?_); refine with_tabW wi.tab1 wi.bits1 (fun HT_ HW_ => ?_)
 refine pP (i := 0) (N := some 5) (bm 18 1) rfl rfl HT_.out ?_
 refine pP (i := 1) (N := some 6) (bm 18 3) rfl rfl HT_.out ?_
 refine pP (i := 2) (N := some 7) (bm 18 7) rfl rfl HT_.out ?_
 refine pP (i := 3) (N := some 8) (bm 18 15) rfl rfl HT_.out ?_
 refine pP (i := 4) (N := some 9) (bm 18 31) rfl rfl HT_.out ?_
 refine pP (i := 5) (N := some 10) (bm 18 63) rfl rfl HT_.out ?_
 refine pP (i := 6) (N := some 11) (bm 18 127) rfl rfl HT_.out ?_
 refine pP (i := 7) (N := some 12) (bm 18 255) rfl rfl HT_.out ?_
 refine pP (i := 8) (N := some 13) (bm 18 511) rfl rfl HT_.out ?_
 refine pP (i := 9) (N := some 14) (bm 18 1023) rfl rfl HT_.out ?_
 refine pP (i := 11) (N := some 16) (bm 18 3071) rfl rfl HT_.out ?_
 refine pP (i := 12) (N := some 17) (bm 18 7167) rfl rfl HT_.out ?_
 refine pP (i := 13) (N := some 18) (bm 18 15359) rfl rfl HT_.out ?_
 refine pT (i := 10) (N := some 15) (bm 18 16383) rfl rfl HT_.out HW_.out hHeld (by rintro w' ⟨s0, s1, s2, s3⟩; go_simp; with_reducible rfl) ?_
 refine pT (i := 14) (N := some 19) (bm 18 32767) rfl rfl HT_.out HW_.out hHeld (by rintro w' ⟨s0, s1, s2, s3⟩; go_simp; with_reducible rfl) ?_
 refine pT (i := 15) (N := some 20) (bm 18 65535) rfl rfl HT_.out HW_.out hHeld (by rintro w' ⟨s0, s1, s2, s3⟩; have he := eql64_other HN.out s2 s3; go_simp; with_reducible rfl) ?_
 refine pP (i := 16) (N := some 21) (bm 18 131071) rfl rfl HT_.out ?_
 refine pP (i := 17) (N := some 4) (bm 18 262143) rfl rfl HT_.out ?_
 refine done_ (done_of HT_.out (by kernel_rfl)) ?_
 clear hHeld HT_ HW_
 go_wp2
 go_ret
 exact ⟨pE, qB HB⟩
theorem times_nil (w : World) : Calls Try.prog 23 #[.pointer none] w fun e w' => e = .returned (.int .i64 0) ∧ Below w.heap.size w w' := by
 have HB := aM (Below.refl w.heap.size w)
 go_enter Try.func23, Try.ntmps23
 go_wp2
 go_ret
 exact ⟨pE, qB HB⟩
theorem times (b g gs : Nat) (o : Int) (d s : List Int) (v : Value) (ver : Int) (w : World) (h : Ten w b g gs o d s) (hs : w.heap[gs]? = some (.cells #[v, .int .i64 ver] 89 (0, 0))) : Calls Try.prog 23 #[.pointer (some ⟨g, 0, none⟩)] w fun e w' => e = .returned (.int .i64 ver) ∧ Below w.heap.size w w' := by
 have hu68 := Try.underlying68
 have hc := h.st
 have HS := aM hs
 clear h hs
 have HB := aM (Below.refl w.heap.size w)
 go_enter Try.func23, Try.ntmps23
 go_wp2_with (first | (go_at_call 41; (with_reducible refine (store_Version.calls gs _ ver _ HS.out).mono ?_); rintro e w9 ⟨rfl, hb⟩; replace HB := bS (qB HB) hb; clear hb))
 go_ret
 exact ⟨pE, qB HB⟩
end Tn
end Go.Proofs.Ytmhikecbajkonaa.Q
namespace Go.Proofs.Ytmhikecbajkonaa.Q
open Go.RowKit Go.Proofs.YtmhikecbajkonaaW.PrintWords Go.Proofs.YtmhikecbajkonaaW.PrintLast Go.Proofs.YtmhikecbajkonaaW.PrintMore
attribute [local go_sem] max2_int min2_int max_two min_two max_three min_three max_four min_four
set_option linter.unusedVariables false
set_option linter.unusedSimpArgs false
namespace Tn
theorem clone (A : Option Addr) (c : Nat) (l : List Int) (w : World) (hr : Kd.C (Kd.int .i64) w A l.length l) (hc : l.length ≤ c) (hl : l.length ≤ 1000) : Calls Try.prog 34 #[.slice A l.length c] w fun e w' => ∃ A' c', e = .returned (.slice A' l.length c') ∧ Kd.R (Kd.int .i64) 3 w' w.heap.size (fun _ => True) (.slice A' l.length c') l ∧ Below w.heap.size w w' :=
  (slices_Clone_int_int.calls A c l l w hr hc (by unfold slices_Clone_int_int.f; rw [if_pos (by omega)])).mono fun e w' ⟨v, he, hr, hb⟩ => by
    obtain ⟨A', c', rfl⟩ := Kd.R_slice hr
    exact ⟨A', c', he, hr, hb⟩
theorem list (k : Nat) (o : Int) (A1 : Option Addr) (c1 : Nat) (d : List Int) (A2 : Option Addr) (c2 : Nat) (s r : List Int) (w : World) (h1 : Kd.C (Kd.int .i64) w A1 d.length d) (g1 : d.length ≤ c1) (h2 : Kd.C (Kd.int .i64) w A2 s.length s) (g2 : s.length ≤ c2) (h : cells_List.f k o d s = some r) : Calls Try.prog 38 #[.agg #[.int .i64 o, .slice A1 d.length c1, .slice A2 s.length c2]] w fun e w' => ∃ A' c', e = .returned (.slice A' r.length c') ∧ Kd.R (Kd.int .i64) 3 w' w.heap.size (fun _ => True) (.slice A' r.length c') r ∧ Below w.heap.size w w' :=
  (cells_List.calls k o A1 c1 d A2 c2 s r w h1 g1 h2 g2 h).mono fun e w' ⟨v, he, hr, hb⟩ => by
    obtain ⟨A', c', rfl⟩ := Kd.R_slice hr
    exact ⟨A', c', he, hr, hb⟩
def vw.T3 : Bool × List (List Nat × List Nat) := (true, [([], []), ([0], [0]), ([1], [1]), ([2], [2]), ([3], [3]), ([], []), ([5], [5]), ([6], [6]), ([7], [7]), ([8], [8]), ([9], [9]), ([], []), ([11], [11]), ([12], [12]), ([13], [13]), ([14], [14]), ([15, 10], [15]), ([4, 10, 16], [4, 10, 16]), ([17, 16, 0, 1, 2, 3, 4, 5, 6, 7, 8, 9, 10, 11, 12, 13, 14, 15, 16, 17], [17])])
def vw.B3 : List Nat := [0, 1, 3, 7, 15, 0, 32, 96, 224, 480, 992, 0, 2048, 6144, 14336, 30720, 65504, 131071, 262143]
theorem vw.tab3 : rtab .any (opsOf Try.f19 3) = vw.T3 := by kernel_rfl
theorem vw.bits3 : waitsOk vw.T3.2 vw.B3 = true := by kernel_rfl
set_option maxHeartbeats 8000000 in
set_option maxRecDepth 100000 in
theorem view_nil (w : World) : Calls Try.prog 19 #[.pointer none] w fun e w' => e = .returned (.agg #[.int .i64 0, .slice none 0 0, .slice none 0 0]) ∧ Below w.heap.size w w' := by
 have hu43 := Try.underlying43
 have HB := aM (Below.refl w.heap.size w)
 go_enter Try.func19, Try.ntmps19
 go_wp2_with (first | ((with_reducible refine gate_dst (N := 2) rfl ?_); refine box_event ?hg (N := 2) ?hd (cs := #[.int .i64 0, .slice none 0 0, .slice none 0 0]) (t := 43) ?hr ?_; (case hd => rfl); (case hg => rfl); (case hr => first | (go_simp; done) | (go_simp; rfl)); intro gz hg_ w5 hbox hb; have Bgz := aM hbox; have Ggz := gE (w := w) hg_ (qB HB); replace HB := bS (qB HB) hb; have hczs := blk3 Bgz.out; clear hb hbox hg_))
 refine bodyPost_ret (results_cell_row rfl _ _ gz 43 #[.int .i64 0, .slice none 0 0, .slice none 0 0] (0, 0) _ rfl (by first | exact Bgz.out | exact P3 Bgz) Try.underlying43 rfl (by kernel_rfl)) rfl ?_
 exact ⟨pE, qB1 HB Ggz⟩
set_option maxHeartbeats 8000000 in
set_option maxRecDepth 100000 in
theorem view (b g gs : Nat) (o : Int) (d s : List Int) (w : World) (h : Ten w b g gs o d s) (hd : d.length ≤ 1000) (hs : s.length ≤ 1000) : Calls Try.prog 19 #[.pointer (some ⟨g, 0, none⟩)] w fun e w' => ∃ A1 c1 A2 c2, e = .returned (.agg #[.int .i64 o, .slice A1 d.length c1, .slice A2 s.length c2]) ∧ Kd.R (Kd.int .i64) 3 w' w.heap.size (fun _ => True) (.slice A1 d.length c1) d ∧ Kd.R (Kd.int .i64) 3 w' w.heap.size (fun _ => True) (.slice A2 s.length c2) s ∧ Below w.heap.size w w' := by
 have hu43 := Try.underlying43
 have hu68 := Try.underlying68
 obtain ⟨Ad, cd, As, cs, h1, h2, h3, h4, h5⟩ := h.view
 have HT := aM h1
 have HD := aM (And.intro h2 h3)
 have HS := aM (And.intro h4 h5)
 have HL := aM (And.intro hd hs)
 clear h h1 h2 h3 h4 h5 hd hs
 have HB := aM (Below.refl w.heap.size w)
 go_enter Try.func19, Try.ntmps19
 go_wp2_with (first | ((with_reducible refine gate_dst (N := 2) rfl ?_); refine box_event ?hg (N := 2) ?hd (cs := #[.int .i64 0, .slice none 0 0, .slice none 0 0]) (t := 43) ?hr ?_; (case hd => rfl); (case hg => rfl); (case hr => first | (go_simp; done) | (go_simp; rfl)); intro gz hg_ w5 hbox hb; have Bgz := aM hbox; have Ggz := gE (w := w) hg_ (qB HB); replace HB := bS (qB HB) hb; have hczs := blk3 Bgz.out; clear hb hbox hg_))
 replace HB := aM (below_drew1 HB.out)
 clear hczs
 replace Bgz := aM (bD Bgz.out)
 have mv : ∀ {a : Addr} {v : Value}, w.cell? a = some v → w5.drew.cell? a = some v := fun h_ => (HB.out.cell (World.block_lt_of_cell? w _ h_)).trans h_
 have t1 := (blk4 HT.out).2.1
 have t2 := (blk4 HT.out).2.2.1
 have t3 := (blk4 HT.out).2.2.2.1
 have T1 := aM t1
 have T2 := aM t2
 have T3 := aM t3
 clear t1 t2 t3
 refine start_ (n := 19) (S := fun w' => w'.cell? ⟨g, 1, none⟩ = some (.int .i64 o) ∧ w'.cell? ⟨g, 2, none⟩ = some (.slice Ad d.length cd) ∧ w'.cell? ⟨g, 3, none⟩ = some (.slice As s.length cs)) (ds := []) (bm 19 0) (by kernel_rfl) rfl rfl ⟨mv T1.out, mv T2.out, mv T3.out⟩ (fun hHeld => ?_); refine with_tabW vw.tab3 vw.bits3 (fun HT_ HW_ => ?_)
 clear mv
 refine pP (i := 0) (N := some 6) (bm 19 1) rfl rfl HT_.out ?_
 refine pP (i := 1) (N := some 7) (bm 19 3) rfl rfl HT_.out ?_
 refine pP (i := 2) (N := some 8) (bm 19 7) rfl rfl HT_.out ?_
 refine pP (i := 3) (N := some 9) (bm 19 15) rfl rfl HT_.out ?_
 refine pP (i := 5) (N := some 11) (bm 19 47) rfl rfl HT_.out ?_
 refine pP (i := 6) (N := some 12) (bm 19 111) rfl rfl HT_.out ?_
 refine pP (i := 7) (N := some 13) (bm 19 239) rfl rfl HT_.out ?_
 refine pP (i := 8) (N := some 14) (bm 19 495) rfl rfl HT_.out ?_
 refine pP (i := 11) (N := some 17) (bm 19 2543) rfl rfl HT_.out ?_
 refine pP (i := 12) (N := some 18) (bm 19 6639) rfl rfl HT_.out ?_
 refine pP (i := 13) (N := some 19) (bm 19 14831) rfl rfl HT_.out ?_
 refine pP (i := 14) (N := some 20) (bm 19 31215) rfl rfl HT_.out ?_
 refine pT (i := 4) (N := some 10) (bm 19 31231) rfl rfl HT_.out HW_.out hHeld (by rintro w' ⟨s0, s1, s2⟩; go_simp; with_reducible rfl) ?_
 refine pT (i := 9) (N := some 15) (bm 19 31743) rfl rfl HT_.out HW_.out hHeld (by rintro w' ⟨s0, s1, s2⟩; go_simp; with_reducible rfl) ?_
 refine pT (i := 15) (N := some 21) (bm 19 64511) rfl rfl HT_.out HW_.out hHeld (by rintro w' ⟨s0, s1, s2⟩; go_simp; with_reducible rfl) ?_
 refine one_ (i := 10) (N := some 16) (bm 19 65535) rfl rfl (one_of HT_.out (by kernel_rfl)) (by decide) (fun K hK => ?_)
 refine goes_ Try.func34 (by kernel_rfl) rfl #[.slice Ad d.length cd] (by rfl) rfl rfl pA ?_
 with_reducible refine (clone Ad cd d _ (Kd.C_below HD.out.1 (qB HB)) HD.out.2 HL.out.1).mono ?_
 rintro e w6 ⟨xA, xc, rfl, ho, hb⟩
 refine ⟨_, rfl, ?_⟩
 have xR := aM (Kd.R_lower ho (below_size (qB HB)))
 replace HB := bS (qB HB) hb
 replace Bgz := bK Bgz hb
 clear hb ho
 have mv : ∀ {a : Addr} {v : Value}, w.cell? a = some v → w6.cell? a = some v := fun h_ => (HB.out.cell (World.block_lt_of_cell? w _ h_)).trans h_
 refine hK.out _ _ ⟨mv T1.out, mv T2.out, mv T3.out⟩ (fun hHeld => ?_)
 clear hK K
 refine norm_ (a' := ?_) ?_ ?_
 rotate_left
 ·show Act.put _ (some 16) _ = _
  simp only [Act.put, sP, i64_w, i32_w]
  rfl
 refine one_ (i := 16) (N := some 22) (bm 19 131071) rfl rfl (one_of HT_.out (by kernel_rfl)) (by decide) (fun K hK => ?_)
 refine goes_ Try.func34 (by kernel_rfl) rfl #[.slice As s.length cs] (by rfl) rfl rfl pA ?_
 with_reducible refine (clone As cs s _ (Kd.C_below HS.out.1 (qB HB)) HS.out.2 HL.out.2).mono ?_
 rintro e w7 ⟨yA, yc, rfl, ho, hb⟩
 refine ⟨_, rfl, ?_⟩
 have yR := aM (Kd.R_lower ho (below_size (qB HB)))
 replace HB := bS (qB HB) hb
 replace Bgz := bK Bgz hb
 replace xR := aM (Kd.R_below xR.out hb)
 clear hb ho
 have mv : ∀ {a : Addr} {v : Value}, w.cell? a = some v → w7.cell? a = some v := fun h_ => (HB.out.cell (World.block_lt_of_cell? w _ h_)).trans h_
 refine hK.out _ _ ⟨mv T1.out, mv T2.out, mv T3.out⟩ (fun hHeld => ?_)
 clear hK K
 refine norm_ (a' := ?_) ?_ ?_
 rotate_left
 ·show Act.put _ (some 22) _ = _
  simp only [Act.put, sP, i64_w, i32_w]
  rfl
 refine pP (i := 17) (N := some 23) (bm 19 262143) rfl rfl HT_.out ?_
 refine one_ (i := 18) (N := none) (bm 19 524287) rfl rfl (one_of HT_.out (by kernel_rfl)) (by decide) (fun K hK => ?_)
 have hczs := blk3 Bgz.out
 refine skip_ (w1 := ((w7.setCell ⟨gz, 0, none⟩ (.int .i64 o)).setCell ⟨gz, 1, none⟩ (.slice xA d.length xc)).setCell ⟨gz, 2, none⟩ (.slice yA s.length yc)) (by rfl) rfl (by first | (go_simp; done) | (go_simp; rfl)) ?_
 clear hczs
 have B2 := aM (P3 (u0 := .int .i64 o) (u1 := .slice xA d.length xc) (u2 := .slice yA s.length yc) Bgz)
 replace xR := aM (F3 (u0 := .int .i64 o) (u1 := .slice xA d.length xc) (u2 := .slice yA s.length yc) (ok' := fun _ => True) xR Bgz (fun _ _ => trivial))
 replace yR := aM (F3 (u0 := .int .i64 o) (u1 := .slice xA d.length xc) (u2 := .slice yA s.length yc) (ok' := fun _ => True) yR Bgz (fun _ _ => trivial))
 replace HB := aM (qB1 (p := Below w.heap.size w (((w7.setCell ⟨gz, 0, none⟩ (.int .i64 o)).setCell ⟨gz, 1, none⟩ (.slice xA d.length xc)).setCell ⟨gz, 2, none⟩ (.slice yA s.length yc))) HB Ggz)
 have mv : ∀ {a : Addr} {v : Value}, w.cell? a = some v → (((w7.setCell ⟨gz, 0, none⟩ (.int .i64 o)).setCell ⟨gz, 1, none⟩ (.slice xA d.length xc)).setCell ⟨gz, 2, none⟩ (.slice yA s.length yc)).cell? a = some v := fun h_ => (HB.out.cell (World.block_lt_of_cell? w _ h_)).trans h_
 refine hK.out _ _ ⟨mv T1.out, mv T2.out, mv T3.out⟩ (fun hHeld => ?_)
 clear hK K
 refine done_ (done_of HT_.out (by kernel_rfl)) ?_
 clear hHeld HT_ HW_
 go_wp2
 refine bodyPost_ret (results_cell_row rfl _ _ gz 43 #[.int .i64 o, .slice xA d.length xc, .slice yA s.length yc] (0, 0) _ rfl (by exact B2.out) Try.underlying43 rfl (by kernel_rfl)) rfl ?_
 exact ⟨xA, xc, yA, yc, pE, xR.out, yR.out, HB.out⟩
end Tn
end Go.Proofs.Ytmhikecbajkonaa.Q
namespace Go.Proofs.Ytmhikecbajkonaa.Q
open Go.RowKit Go.Proofs.YtmhikecbajkonaaW.PrintWords Go.Proofs.YtmhikecbajkonaaW.PrintLast Go.Proofs.YtmhikecbajkonaaW.PrintMore
attribute [local go_sem] max2_int min2_int max_two min_two max_three min_three max_four min_four
set_option linter.unusedVariables false
set_option linter.unusedSimpArgs false
namespace Tn
/-- What Write leaves. -/
def WrP (W w : World) (gs gr c : Nat) (U : List S80) (ver E : Int) (e : Ending) (w' : World) : Prop := e = .returned (.int .i64 E) ∧ w'.heap[gs]? = some (.cells #[.slice (some ⟨gr, 0, none⟩) U.length c, .int .i64 (if E = 0 then wrap64 (ver + 1) else ver)] 89 (0, 0)) ∧ Kd.S k80 80 w' W.heap.size (fun k => k ≠ gs) (.slice (some ⟨gr, 0, none⟩) U.length c) U ∧ Below W.heap.size W w' ∧ w.heap.size ≤ w'.heap.size ∧ (∀ k, k < w.heap.size → k ≠ gs → k ≠ gr → w'.heap[k]? = w.heap[k]?)
theorem putL (gs gr c : Nat) (V : List S80) (ver : Int) (ok : Nat → Prop) (A1 : Option Addr) (c1 : Nat) (l1 : List Int) (A2 : Option Addr) (c2 : Nat) (l2 : List S80) (E : Int) (U : List S80) (w0 w w1 : World)
  (hst : w.heap[gs]? = some (.cells #[.slice (some ⟨gr, 0, none⟩) V.length c, .int .i64 ver] 89 (0, 0))) (hV : Kd.S k80 80 w w0.heap.size ok (.slice (some ⟨gr, 0, none⟩) V.length c) V) (hok : ∀ k, ok k → k ≠ gs) (hX : w0.heap.size ≤ gs ∧ w0.heap.size ≤ gr ∧ gs ≠ gr) (h64 : V.length ≤ 64) (hn : l1.length ≤ 100) (hB : Below w0.heap.size w0 w) (hB1 : Below w.heap.size w w1) (hr1 : Kd.R (Kd.int .i64) 3 w1 w.heap.size (fun _ => True) (.slice A1 l1.length c1) l1)
  (hr2 : ∀ w', Below w0.heap.size w0 w' → (∀ k, k < w.heap.size → k ≠ gs → k ≠ gr → w'.heap[k]? = w.heap[k]?) → Kd.C k80 w' A2 l2.length l2) (hA2 : 0 < l2.length → ∀ ad, A2 = some ad → ad.block ≠ gr) (hs : ∀ x ∈ l2, St.sw x) (e_ : store_Put.f V l1 l2 = (E, U)) (hU : U.length = V.length) :
  Calls Try.prog 37 #[.pointer (some ⟨gs, 0, none⟩), .slice A1 l1.length c1, .slice A2 l2.length c2] w1 fun e w' => e = .returned (.int .i64 E) ∧ w'.heap[gs]? = some (.cells #[.slice (some ⟨gr, 0, none⟩) U.length c, .int .i64 (if E = 0 then wrap64 (ver + 1) else ver)] 89 (0, 0)) ∧ Kd.S k80 80 w' w0.heap.size (fun k => k ≠ gs) (.slice (some ⟨gr, 0, none⟩) U.length c) U ∧ Below w0.heap.size w0 w' ∧ w.heap.size ≤ w'.heap.size ∧ (∀ k, k < w.heap.size → k ≠ gs → k ≠ gr → w'.heap[k]? = w.heap[k]?) := by
  have hgs := blk_lt hst
  have hgr : gr < w.heap.size := Kd.S_lt hV gr (by simp [Value.ownBlock])
  have h_ := store_Put.calls gs gr c V ver ok A1 c1 l1 A2 c2 l2 w0 w1 (blk_below hst hB1) (Kd.S_below hV hB1) hok hX.1 hX.2.1 hX.2.2 h64 (by omega) (below_step hB hB1) (fun w' b f => (Kd.R_reads' (Kd.R_step (Kd.R_bound hr1) (fun k hk hl => f k hl (by have := hk.2.1; omega) (by have := hk.2.1; omega)))).2.2) (fun w' b f => hr2 w' b (fun k hk n1 n2 => (f k (Nat.lt_of_lt_of_le hk (below_size hB1)) n1 n2).trans (hB1.block k hk))) hA2 (fun x hx => ⟨by have := (hs x hx).1; omega, by have := (hs x hx).2; omega⟩)
  rw [e_] at h_
  refine h_.mono (fun e w' h => ⟨h.1, ?_, ?_, h.2.2.2.1, ?_, fun k hk n1 n2 => (h.2.2.2.2 k (Nat.lt_of_lt_of_le hk (below_size hB1)) n1 n2).trans (hB1.block k hk)⟩)
  · rw [hU]; exact h.2.1
  · rw [hU]; exact h.2.2.1
  · refine Nat.le_of_not_lt fun hlt => ?_
    have n1 : w'.heap.size ≠ gs := fun e1 => by have a := blk_lt h.2.1; omega
    have n2 : w'.heap.size ≠ gr := fun e1 => by have a := Kd.S_lt h.2.2.1 gr (by simp [Value.ownBlock]); omega
    have e2 := (h.2.2.2.2 _ (Nat.lt_of_lt_of_le hlt (below_size hB1)) n1 n2).trans (hB1.block _ hlt)
    rw [Array.getElem?_eq_none (Nat.le_refl _), Array.getElem?_eq_getElem hlt] at e2
    cases e2
def re.T3 : Bool × List (List Nat × List Nat) := (true, [([], []), ([0], [0]), ([1], [1]), ([2], [2]), ([], []), ([4], [4]), ([5], [5]), ([6], [6]), ([7], [7]), ([3, 8, 8], [3, 8]), ([9], [9]), ([10], [10]), ([10], [10]), ([11, 9, 0, 1, 2, 3, 4, 5, 6, 7, 8, 9, 10, 11], [11]), ([12, 13, 0, 1, 2, 3, 4, 5, 6, 7, 8, 9, 10, 11, 12, 13], [12])])
def re.B3 : List Nat := [0, 1, 3, 7, 0, 16, 48, 112, 240, 511, 1023, 2047, 2047, 4095, 16383]
theorem re.tab3 : rtab .any (opsOf Try.f22 3) = re.T3 := by kernel_rfl
theorem re.bits3 : waitsOk re.T3.2 re.B3 = true := by kernel_rfl
def wr.T3 : Bool × List (List Nat × List Nat) := (true, [([], []), ([0], [0]), ([1], [1]), ([2], [2]), ([], []), ([4], [4]), ([5], [5]), ([6], [6]), ([7], [7]), ([], []), ([3, 8, 9, 8], [3, 8, 9]), ([10, 10, 0, 1, 2, 3, 4, 5, 6, 7, 8, 9, 10], [10])])
def wr.B3 : List Nat := [0, 1, 3, 7, 0, 16, 48, 112, 240, 0, 1023, 2047]
theorem wr.tab3 : rtab .any (opsOf Try.f16 3) = wr.T3 := by kernel_rfl
theorem wr.bits3 : waitsOk wr.T3.2 wr.B3 = true := by kernel_rfl
def me.T1 : Bool × List (List Nat × List Nat) := (true, [([], []), ([], []), ([0, 1], [0, 1]), ([2, 2], [2]), ([3], [3]), ([4, 3], [3, 4]), ([5, 3], [3, 5]), ([6, 3], [3, 6]), ([3], [3]), ([8, 3], [3, 8]), ([9, 3], [3, 9]), ([10, 3], [3, 10]), ([7, 11, 3, 3], [3, 7, 11]), ([3, 12], [3, 12]), ([13, 12, 0, 1, 2, 3, 4, 5, 6, 7, 8, 9, 10, 11, 12, 13], [13])])
def me.B1 : List Nat := [0, 0, 3, 7, 15, 31, 63, 127, 15, 271, 783, 1807, 4095, 8191, 16383]
theorem me.tab1 : rtab .any (opsOf Try.f14 1) = me.T1 := by kernel_rfl
theorem me.bits1 : waitsOk me.T1.2 me.B1 = true := by kernel_rfl
set_option maxHeartbeats 8000000 in
set_option maxRecDepth 100000 in
theorem read_nil (w : World) : Calls Try.prog 22 #[.pointer none] w fun e w' => e = .returned (.tuple #[.agg #[.slice none 0 0, .slice none 0 0], .int .i64 21]) ∧ Below w.heap.size w w' := by
 have hu25 := Try.underlying25
 have HB := aM (Below.refl w.heap.size w)
 go_enter Try.func22, Try.ntmps22
 go_wp2_with (first | ((with_reducible refine gate_dst (N := 2) rfl ?_); refine box_event ?hg (N := 2) ?hd (cs := #[.slice none 0 0, .slice none 0 0]) (t := 25) ?hr ?_; (case hd => rfl); (case hg => rfl); (case hr => first | (go_simp; done) | (go_simp; rfl)); intro gz hg_ w5 hbox hb; have Bgz := aM hbox; have Ggz := gE (w := w) hg_ (qB HB); replace HB := bS (qB HB) hb; have hczs := blk2 Bgz.out; clear hb hbox hg_))
 refine bodyPost_ret (results_list (rs := [.cell 2 25, .tmp 3]) rfl (by simp) (.cell gz 25 #[.slice none 0 0, .slice none 0 0] (0, 0) _ rfl (by first | exact Bgz.out | exact blk_put (cs := #[.slice none 0 0, .slice none 0 0]) (blk_put (cs := #[.slice none 0 0, .slice none 0 0]) Bgz.out 0 _ rfl) 1 _ rfl) Try.underlying25 rfl (by kernel_rfl) (.tmp .nil))) rfl ?_
 exact ⟨pE, qB1 HB Ggz⟩
set_option maxHeartbeats 8000000 in
set_option maxRecDepth 100000 in
theorem read (k k2 b g gs c : Nat) (A : Option Addr) (o : Int) (d s : List Int) (V : List S80) (ver : Int) (cl : List Int) (r1 : List S80) (r2 : Int) (w : World) (h : Ten w b g gs o d s) (hst : w.heap[gs]? = some (.cells #[.slice A V.length c, .int .i64 ver] 89 (0, 0))) (hV : Kd.C k80 w A V.length V) (hcl : cells_List.f k o d s = some cl) (hg : store_Get.f k2 V cl = some (r1, r2)) (hd : d.length ≤ 1000) : Calls Try.prog 22 #[.pointer (some ⟨g, 0, none⟩)] w fun e w' => ∃ A1 c1 A2 c2, e = .returned (.tuple #[.agg #[.slice A1 d.length c1, .slice A2 r1.length c2], .int .i64 r2]) ∧ Kd.R (Kd.int .i64) 3 w' w.heap.size (fun _ => True) (.slice A1 d.length c1) d ∧ Kd.S k80 80 w' w.heap.size (fun _ => True) (.slice A2 r1.length c2) r1 ∧ Below w.heap.size w w' := by
 have hu43 := Try.underlying43
 have hu68 := Try.underlying68
 have hu25 := Try.underlying25
 obtain ⟨Ad, cd, As, cs, h1, h2, h3, h4, h5⟩ := h.view
 have HT := aM h1
 have HD := aM (And.intro h2 h3)
 have HS := aM (And.intro h4 h5)
 have HL := aM hd
 have HG := aM hg
 have HCL := aM hcl
 have HST := aM hst
 have HV := aM hV
 clear h h1 h2 h3 h4 h5 hd hg hcl hst hV
 have HB := aM (Below.refl w.heap.size w)
 go_enter Try.func22, Try.ntmps22
 go_wp2_with (first | ((with_reducible refine gate_dst (N := 2) rfl ?_); refine box_event ?hg (N := 2) ?hd (cs := #[.slice none 0 0, .slice none 0 0]) (t := 25) ?hr ?_; (case hd => rfl); (case hg => rfl); (case hr => first | (go_simp; done) | (go_simp; rfl)); intro gz hg_ w5 hbox hb; have Bgz := aM hbox; have Ggz := gE (w := w) hg_ (qB HB); replace HB := bS (qB HB) hb; have hczs := blk2 Bgz.out; clear hb hbox hg_))
 clear hczs
 replace HB := aM (below_drew1 HB.out)
 replace Bgz := aM (bD Bgz.out)
 have mv : ∀ {a : Addr} {v : Value}, w.cell? a = some v → w5.drew.cell? a = some v := fun h_ => (HB.out.cell (World.block_lt_of_cell? w _ h_)).trans h_
 have t0 := (blk4 HT.out).1
 have t1 := (blk4 HT.out).2.1
 have t2 := (blk4 HT.out).2.2.1
 have t3 := (blk4 HT.out).2.2.2.1
 have T0 := aM t0
 have T1 := aM t1
 have T2 := aM t2
 have T3 := aM t3
 clear t0 t1 t2 t3
 refine start_ (n := 15) (S := fun w' => w'.cell? ⟨g, 0, none⟩ = some (.pointer (some ⟨gs, 0, none⟩)) ∧ w'.cell? ⟨g, 1, none⟩ = some (.int .i64 o) ∧ w'.cell? ⟨g, 2, none⟩ = some (.slice Ad d.length cd) ∧ w'.cell? ⟨g, 3, none⟩ = some (.slice As s.length cs)) (ds := []) (bm 15 0) (by kernel_rfl) rfl rfl ⟨mv T0.out, mv T1.out, mv T2.out, mv T3.out⟩ (fun hHeld => ?_); refine with_tabW re.tab3 re.bits3 (fun HT_ HW_ => ?_)
 clear mv
 refine pP (i := 0) (N := some 10) (bm 15 1) rfl rfl HT_.out ?_
 refine pP (i := 1) (N := some 11) (bm 15 3) rfl rfl HT_.out ?_
 refine pP (i := 2) (N := some 12) (bm 15 7) rfl rfl HT_.out ?_
 refine pP (i := 4) (N := some 14) (bm 15 23) rfl rfl HT_.out ?_
 refine pP (i := 5) (N := some 15) (bm 15 55) rfl rfl HT_.out ?_
 refine pP (i := 6) (N := some 16) (bm 15 119) rfl rfl HT_.out ?_
 refine pT (i := 3) (N := some 13) (bm 15 127) rfl rfl HT_.out HW_.out hHeld (by rintro w' ⟨s0, s1, s2, s3⟩; go_simp; with_reducible rfl) ?_
 refine pT (i := 7) (N := some 17) (bm 15 255) rfl rfl HT_.out HW_.out hHeld (by rintro w' ⟨s0, s1, s2, s3⟩; go_simp; with_reducible rfl) ?_
 refine one_ (i := 8) (N := some 18) (bm 15 511) rfl rfl (one_of HT_.out (by kernel_rfl)) (by decide) (fun K hK => ?_)
 refine goes_ Try.func38 (by kernel_rfl) rfl #[.agg #[.int .i64 o, .slice Ad d.length cd, .slice As s.length cs]] (by rfl) rfl rfl pA ?_
 with_reducible refine (list k o Ad cd d As cs s cl _ (Kd.C_below HD.out.1 (qB HB)) HD.out.2 (Kd.C_below HS.out.1 (qB HB)) HS.out.2 HCL.out).mono ?_
 rintro e w6 ⟨xA, xc, rfl, ho, hb⟩
 refine ⟨_, rfl, ?_⟩
 have xR := aM ho
 have HB0 := aM (below_size (qB (p := Below w.heap.size w _) HB))
 replace HB := bS (qB HB) hb
 replace Bgz := bK Bgz hb
 clear ho hb
 have mv : ∀ {a : Addr} {v : Value}, w.cell? a = some v → w6.cell? a = some v := fun h_ => (HB.out.cell (World.block_lt_of_cell? w _ h_)).trans h_
 refine hK.out _ _ ⟨mv T0.out, mv T1.out, mv T2.out, mv T3.out⟩ (fun hHeld => ?_)
 clear hK K
 refine norm_ (a' := ?_) ?_ ?_
 rotate_left
 ·show Act.put _ (some 18) _ = _
  simp only [Act.put, sP, i64_w, i32_w]
  rfl
 refine one_ (i := 9) (N := some 19) (bm 15 1023) rfl rfl (one_of HT_.out (by kernel_rfl)) (by decide) (fun K hK => ?_)
 refine goes_ Try.func40 (by kernel_rfl) rfl #[.pointer (some ⟨gs, 0, none⟩), .slice xA cl.length xc] (by rfl) rfl rfl pA ?_
 with_reducible refine (store_Get.calls k2 gs A c V ver xA xc cl r1 r2 _ (blk_below HST.out HB.out) (Kd.C_below HV.out HB.out) (Kd.R_reads' xR.out).2.2 HG.out).mono ?_
 rintro e w7 ⟨v4, rfl, ho, hb⟩
 refine ⟨_, rfl, ?_⟩
 obtain ⟨yA, yc, ey⟩ := Kd.S_slice ho
 subst ey
 have yS := aM (Kd.S_lower ho (below_size HB.out))
 replace HB := bS (qB HB) hb
 replace Bgz := bK Bgz hb
 clear ho hb
 have mv : ∀ {a : Addr} {v : Value}, w.cell? a = some v → w7.cell? a = some v := fun h_ => (HB.out.cell (World.block_lt_of_cell? w _ h_)).trans h_
 refine hK.out _ _ ⟨mv T0.out, mv T1.out, mv T2.out, mv T3.out⟩ (fun hHeld => ?_)
 clear hK K
 refine norm_ (a' := ?_) ?_ ?_
 rotate_left
 ·show Act.put _ (some 19) _ = _
  simp only [Act.put, sP, i64_w, i32_w]
  rfl
 refine pP (i := 10) (N := some 9) (bm 15 2047) rfl rfl HT_.out ?_
 refine pP (i := 11) (N := some 20) (bm 15 4095) rfl rfl HT_.out ?_
 refine pP (i := 12) (N := some 21) (bm 15 8191) rfl rfl HT_.out ?_
 refine pP (i := 13) (N := some 4) (bm 15 16383) rfl rfl HT_.out ?_
 refine pP (i := 14) (N := some 5) (bm 15 32767) rfl rfl HT_.out ?_
 refine done_ (done_of HT_.out (by kernel_rfl)) ?_
 clear hHeld HT_ HW_
 have t2 := mv T2.out
 clear mv
 go_wp2_with (first | (go_at_call 34; (with_reducible refine (clone Ad cd d _ (Kd.C_below HD.out.1 (qB HB)) HD.out.2 HL.out).mono ?_); rintro e w8 ⟨zA, zc, rfl, ho, hb⟩; have zR := aM (Kd.R_lower ho (below_size (qB HB))); replace yS := aM (Kd.S_below yS.out hb); replace HB := bS (qB HB) hb; replace Bgz := bK Bgz hb; clear hb ho; have hczs := blk2 Bgz.out))
 refine bodyPost_ret (results_list (rs := [.cell 2 25, .tmp 3]) rfl (by simp) (.cell gz 25 #[.slice zA d.length zc, .slice yA r1.length yc] (0, 0) _ rfl (blk_put (cs := #[.slice zA d.length zc, .slice none 0 0]) (blk_put (cs := #[.slice none 0 0, .slice none 0 0]) Bgz.out 0 _ rfl) 1 _ rfl) Try.underlying25 rfl (by kernel_rfl) (.tmp .nil))) rfl ?_
 exact ⟨zA, zc, yA, yc, pE, Kd.R_mono (Kd.R_far (Kd.R_far (Kd.R_types zR.out Bgz.out (by decide)) (p := ⟨gz, 0, none⟩) (fun _ h_ => h_.2) _) (p := ⟨gz, 1, none⟩) (fun _ h_ => h_.2) _) (fun _ _ => trivial), Kd.S_mono (Kd.S_far (Kd.S_far (Kd.S_types yS.out Bgz.out (by decide)) (p := ⟨gz, 0, none⟩) (fun _ h_ => h_.2) _) (p := ⟨gz, 1, none⟩) (fun _ h_ => h_.2) _) (fun _ _ => trivial), qB1 HB Ggz⟩
theorem write_nil (v : Value) (w : World) : Calls Try.prog 16 #[.pointer none, v] w fun e w' => e = .returned (.int .i64 21) ∧ Below w.heap.size w w' := by
 have HB := aM (Below.refl w.heap.size w)
 go_enter Try.func16, Try.ntmps16
 go_wp2
 go_ret
 exact ⟨pE, qB HB⟩
set_option maxHeartbeats 8000000 in
set_option maxRecDepth 100000 in
theorem write (k b g gs gr c : Nat) (o : Int) (d s : List Int) (V : List S80) (ver : Int) (ok : Nat → Prop) (cl : List Int) (A2 : Option Addr) (c2 : Nat) (l2 : List S80) (E : Int) (U : List S80) (W w : World) (h : Ten w b g gs o d s) (hcl : cells_List.f k o d s = some cl) (hst : w.heap[gs]? = some (.cells #[.slice (some ⟨gr, 0, none⟩) V.length c, .int .i64 ver] 89 (0, 0))) (hV : Kd.S k80 80 w W.heap.size ok (.slice (some ⟨gr, 0, none⟩) V.length c) V) (hok : ∀ k, ok k → k ≠ gs) (hX : W.heap.size ≤ gs ∧ W.heap.size ≤ gr ∧ gs ≠ gr) (h64 : V.length ≤ 64) (hn : cl.length ≤ 100) (hB : Below W.heap.size W w)
  (hr2 : ∀ w', Below W.heap.size W w' → (∀ k, k < w.heap.size → k ≠ gs → k ≠ gr → w'.heap[k]? = w.heap[k]?) → Kd.C k80 w' A2 l2.length l2) (hA2 : 0 < l2.length → ∀ ad, A2 = some ad → ad.block ≠ gr) (hs : ∀ x ∈ l2, St.sw x) (e_ : store_Put.f V cl l2 = (E, U)) (hU : U.length = V.length) : Calls Try.prog 16 #[.pointer (some ⟨g, 0, none⟩), .slice A2 l2.length c2] w (WrP W w gs gr c U ver E) := by
 have hu43 := Try.underlying43
 have hu68 := Try.underlying68
 obtain ⟨Ad, cd, As, cs, h1, h2, h3, h4, h5⟩ := h.view
 have HT := aM h1
 have HD := aM (And.intro h2 h3)
 have HS := aM (And.intro h4 h5)
 have HCL := aM hcl
 have HST := aM hst
 have HV := aM (And.intro hV hok)
 have HX := aM (And.intro hX (And.intro h64 hn))
 have HBW := aM hB
 have HR2 := aM (And.intro hr2 hA2)
 have HSW := aM hs
 have EP := aM e_
 have HU := aM hU
 clear h h1 h2 h3 h4 h5 hcl hst hV hok hX h64 hn hB hr2 hA2 hs e_ hU
 have HB := aM (Below.refl w.heap.size w)
 go_enter Try.func16, Try.ntmps16
 go_wp2
 replace HB := aM (below_drew1 HB.out)
 have mv : ∀ {a : Addr} {v : Value}, w.cell? a = some v → w.drew.cell? a = some v := fun h_ => (HB.out.cell (World.block_lt_of_cell? w _ h_)).trans h_
 have t0 := (blk4 HT.out).1
 have t1 := (blk4 HT.out).2.1
 have t2 := (blk4 HT.out).2.2.1
 have t3 := (blk4 HT.out).2.2.2.1
 have T0 := aM t0
 have T1 := aM t1
 have T2 := aM t2
 have T3 := aM t3
 clear t0 t1 t2 t3
 refine start_ (n := 12) (S := fun w' => w'.cell? ⟨g, 0, none⟩ = some (.pointer (some ⟨gs, 0, none⟩)) ∧ w'.cell? ⟨g, 1, none⟩ = some (.int .i64 o) ∧ w'.cell? ⟨g, 2, none⟩ = some (.slice Ad d.length cd) ∧ w'.cell? ⟨g, 3, none⟩ = some (.slice As s.length cs)) (ds := []) (bm 12 0) (by kernel_rfl) rfl rfl ⟨mv T0.out, mv T1.out, mv T2.out, mv T3.out⟩ (fun hHeld => ?_); refine with_tabW wr.tab3 wr.bits3 (fun HT_ HW_ => ?_)
 clear mv
 refine pP (i := 0) (N := some 7) (bm 12 1) rfl rfl HT_.out ?_
 refine pP (i := 1) (N := some 8) (bm 12 3) rfl rfl HT_.out ?_
 refine pP (i := 2) (N := some 9) (bm 12 7) rfl rfl HT_.out ?_
 refine pP (i := 4) (N := some 11) (bm 12 23) rfl rfl HT_.out ?_
 refine pP (i := 5) (N := some 12) (bm 12 55) rfl rfl HT_.out ?_
 refine pP (i := 6) (N := some 13) (bm 12 119) rfl rfl HT_.out ?_
 refine pP (i := 9) (N := some 16) (bm 12 631) rfl rfl HT_.out ?_
 refine pT (i := 3) (N := some 10) (bm 12 639) rfl rfl HT_.out HW_.out hHeld (by rintro w' ⟨s0, s1, s2, s3⟩; go_simp; with_reducible rfl) ?_
 refine pT (i := 7) (N := some 14) (bm 12 767) rfl rfl HT_.out HW_.out hHeld (by rintro w' ⟨s0, s1, s2, s3⟩; go_simp; with_reducible rfl) ?_
 refine one_ (i := 8) (N := some 15) (bm 12 1023) rfl rfl (one_of HT_.out (by kernel_rfl)) (by decide) (fun K hK => ?_)
 refine goes_ Try.func38 (by kernel_rfl) rfl #[.agg #[.int .i64 o, .slice Ad d.length cd, .slice As s.length cs]] (by rfl) rfl rfl pA ?_
 with_reducible refine (list k o Ad cd d As cs s cl _ (Kd.C_below HD.out.1 (qB HB)) HD.out.2 (Kd.C_below HS.out.1 (qB HB)) HS.out.2 HCL.out).mono ?_
 rintro e w6 ⟨xA, xc, rfl, ho, hb⟩
 refine ⟨_, rfl, ?_⟩
 have xR := aM ho
 have HB0 := aM (below_size (qB (p := Below w.heap.size w _) HB))
 replace HB := bS (qB HB) hb
 clear ho hb
 have mv : ∀ {a : Addr} {v : Value}, w.cell? a = some v → w6.cell? a = some v := fun h_ => (HB.out.cell (World.block_lt_of_cell? w _ h_)).trans h_
 refine hK.out _ _ ⟨mv T0.out, mv T1.out, mv T2.out, mv T3.out⟩ (fun hHeld => ?_)
 clear hK K
 refine norm_ (a' := ?_) ?_ ?_
 rotate_left
 ·show Act.put _ (some 15) _ = _
  simp only [Act.put, sP, i64_w, i32_w]
  rfl
 refine one_ (i := 10) (N := some 17) (bm 12 2047) rfl rfl (one_of HT_.out (by kernel_rfl)) (by decide) (fun K hK => ?_)
 refine goes_ Try.func37 (by kernel_rfl) rfl #[.pointer (some ⟨gs, 0, none⟩), .slice xA cl.length xc, .slice A2 l2.length c2] (by rfl) rfl rfl pA ?_
 have P := aM (putL gs gr c V ver ok xA xc cl A2 c2 l2 E U W w w6 HST.out HV.out.1 HV.out.2 HX.out.1 HX.out.2.1 HX.out.2.2 HBW.out HB.out (Kd.R_lower xR.out HB0.out) HR2.out.1 HR2.out.2 HSW.out EP.out HU.out)
 refine P.out.mono ?_
 rintro e w7 ⟨rfl, k1, k2, k3, k4, k5⟩
 refine ⟨_, rfl, ?_⟩
 have KK := aM (And.intro k1 (And.intro k2 (And.intro k3 (And.intro k4 k5))))
 clear k1 k2 k3 k4 k5 P
 have mv' : ∀ {v : Value} {j : Nat}, w.cell? ⟨g, j, none⟩ = some v → w7.cell? ⟨g, j, none⟩ = some v := fun h_ => (World.cell?_of_block (KK.out.2.2.2.2 g (blk_lt HT.out) (fun e_ => by have a := HT.out; rw [e_, HST.out] at a; cases a) (fun e_ => by obtain ⟨q, a⟩ := Kd.S_typed HV.out.1 gr (by simp [Value.ownBlock]); have a2 := HT.out; rw [e_, a] at a2; cases a2))).trans h_
 refine hK.out _ _ ⟨mv' T0.out, mv' T1.out, mv' T2.out, mv' T3.out⟩ (fun hHeld => ?_)
 clear hK K
 refine norm_ (a' := ?_) ?_ ?_
 rotate_left
 ·show Act.put _ (some 17) _ = _
  simp only [Act.put, sP, i64_w, i32_w]
  rfl
 refine pP (i := 11) (N := some 4) (bm 12 4095) rfl rfl HT_.out ?_
 refine done_ (done_of HT_.out (by kernel_rfl)) ?_
 clear hHeld HT_ HW_ mv mv'
 go_wp2
 go_ret
 exact ⟨pE, KK.out⟩
set_option maxHeartbeats 8000000 in
set_option maxRecDepth 100000 in
theorem meets_no (v v' : Value) (w : World) (h : ∀ w1, Below w.heap.size w w1 → Calls Try.prog 13 #[v, v'] w1 fun e w' => e = .returned (.bool false) ∧ Below w1.heap.size w1 w') : Calls Try.prog 14 #[v, v'] w fun e w' => e = .returned (.bool false) ∧ Below w.heap.size w w' := by
 have HW := aM h
 clear h
 have HB := aM (Below.refl w.heap.size w)
 go_enter Try.func14, Try.ntmps14
 go_wp2
 replace HB := aM (below_drew1 HB.out)
 refine start_ (n := 15) (S := fun w' => True) (ds := []) (bm 15 0) (by kernel_rfl) rfl rfl (trivial) (fun hHeld => ?_); refine with_tabW me.tab1 me.bits1 (fun HT_ HW_ => ?_)
 refine pP (i := 0) (N := some 5) (bm 15 1) rfl rfl HT_.out ?_
 refine pP (i := 1) (N := some 6) (bm 15 3) rfl rfl HT_.out ?_
 refine one_ (i := 2) (N := some 7) (bm 15 7) rfl rfl (one_of HT_.out (by kernel_rfl)) (by decide) (fun K hK => ?_)
 refine goes_ Try.func13 (by kernel_rfl) rfl #[v, v'] (by rfl) rfl rfl pA ?_
 refine (HW.out _ (qB HB)).mono ?_
 rintro e w9 ⟨rfl, hb⟩
 refine ⟨_, rfl, ?_⟩
 replace HB := bS (qB HB) hb
 clear hb
 refine hK.out _ _ (trivial) (fun hHeld => ?_)
 clear hK K
 refine norm_ (a' := ?_) ?_ ?_
 rotate_left
 ·show Act.put _ (some 7) _ = _
  simp only [Act.put, sP, i64_w, i32_w]
  rfl
 refine pP (i := 3) (N := some 8) (bm 15 15) rfl rfl HT_.out ?_
 refine pS (i := 4) (N := some 9) (bm 15 31) rfl rfl HT_.out ?_
 refine pS (i := 5) (N := some 10) (bm 15 63) rfl rfl HT_.out ?_
 refine pS (i := 6) (N := some 11) (bm 15 127) rfl rfl HT_.out ?_
 refine pS (i := 7) (N := some 12) (bm 15 255) rfl rfl HT_.out ?_
 refine pS (i := 8) (N := some 13) (bm 15 511) rfl rfl HT_.out ?_
 refine pS (i := 9) (N := some 14) (bm 15 1023) rfl rfl HT_.out ?_
 refine pS (i := 10) (N := some 15) (bm 15 2047) rfl rfl HT_.out ?_
 refine pS (i := 11) (N := some 16) (bm 15 4095) rfl rfl HT_.out ?_
 refine pS (i := 12) (N := some 17) (bm 15 8191) rfl rfl HT_.out ?_
 refine pP (i := 13) (N := some 18) (bm 15 16383) rfl rfl HT_.out ?_
 refine pP (i := 14) (N := some 4) (bm 15 32767) rfl rfl HT_.out ?_
 refine done_ (done_of HT_.out (by kernel_rfl)) ?_
 clear hHeld HT_ HW_
 go_wp2
 go_ret
 exact ⟨pE, qB HB⟩
set_option maxHeartbeats 8000000 in
set_option maxRecDepth 100000 in
theorem meets_yes (k b b' g g' gs : Nat) (o : Int) (d s : List Int) (o' : Int) (d' s' : List Int) (r : Bool) (w : World) (h : Ten w b g gs o d s) (h' : Ten w b' g' gs o' d' s') (hf : cells_Meet.f k o d s o' d' s' = some r) : Calls Try.prog 14 #[.pointer (some ⟨g, 0, none⟩), .pointer (some ⟨g', 0, none⟩)] w fun e w' => e = .returned (.bool r) ∧ Below w.heap.size w w' := by
 have hu43 := Try.underlying43
 have hu68 := Try.underlying68
 have HA := aM (And.intro h.st h'.st)
 obtain ⟨Ad, cd, As, cs, h1, h2, h3, h4, h5⟩ := h.view
 obtain ⟨Bd, bd, Bs, bs, i1, i2, i3, i4, i5⟩ := h'.view
 have HT := aM h1
 have HI := aM i1
 have HD := aM (And.intro h2 (And.intro h3 (And.intro h4 h5)))
 have HE := aM (And.intro i2 (And.intro i3 (And.intro i4 i5)))
 have HF := aM hf
 clear h h' h1 h2 h3 h4 h5 i1 i2 i3 i4 i5 hf
 have HB := aM (Below.refl w.heap.size w)
 go_enter Try.func14, Try.ntmps14
 go_wp2
 replace HB := aM (below_drew1 HB.out)
 have mv : ∀ {a : Addr} {v : Value}, w.cell? a = some v → w.drew.cell? a = some v := fun h_ => (HB.out.cell (World.block_lt_of_cell? w _ h_)).trans h_
 refine start_ (n := 15) (S := fun w' => w'.cell? ⟨g, 1, none⟩ = some (.int .i64 o) ∧ w'.cell? ⟨g, 2, none⟩ = some (.slice Ad d.length cd) ∧ w'.cell? ⟨g, 3, none⟩ = some (.slice As s.length cs) ∧ w'.cell? ⟨g', 1, none⟩ = some (.int .i64 o') ∧ w'.cell? ⟨g', 2, none⟩ = some (.slice Bd d'.length bd) ∧ w'.cell? ⟨g', 3, none⟩ = some (.slice Bs s'.length bs)) (ds := []) (bm 15 0) (by kernel_rfl) rfl rfl ⟨mv (blk4 HT.out).2.1, mv (blk4 HT.out).2.2.1, mv (blk4 HT.out).2.2.2.1, mv (blk4 HI.out).2.1, mv (blk4 HI.out).2.2.1, mv (blk4 HI.out).2.2.2.1⟩ (fun hHeld => ?_); refine with_tabW me.tab1 me.bits1 (fun HT_ HW_ => ?_)
 refine pP (i := 0) (N := some 5) (bm 15 1) rfl rfl HT_.out ?_
 refine pP (i := 1) (N := some 6) (bm 15 3) rfl rfl HT_.out ?_
 refine one_ (i := 2) (N := some 7) (bm 15 7) rfl rfl (one_of HT_.out (by kernel_rfl)) (by decide) (fun K hK => ?_)
 refine goes_ Try.func13 (by kernel_rfl) rfl #[.pointer (some ⟨g, 0, none⟩), .pointer (some ⟨g', 0, none⟩)] (by rfl) rfl rfl pA ?_
 refine (with_yes g g' gs _ (mv HA.out.1) (mv HA.out.2)).mono ?_
 rintro e w9 ⟨rfl, hb⟩
 refine ⟨_, rfl, ?_⟩
 replace HB := bS (qB HB) hb
 clear hb mv
 have mv : ∀ {a : Addr} {v : Value}, w.cell? a = some v → w9.cell? a = some v := fun h_ => (HB.out.cell (World.block_lt_of_cell? w _ h_)).trans h_
 refine hK.out _ _ ⟨mv (blk4 HT.out).2.1, mv (blk4 HT.out).2.2.1, mv (blk4 HT.out).2.2.2.1, mv (blk4 HI.out).2.1, mv (blk4 HI.out).2.2.1, mv (blk4 HI.out).2.2.2.1⟩ (fun hHeld => ?_)
 clear hK K
 refine norm_ (a' := ?_) ?_ ?_
 rotate_left
 ·show Act.put _ (some 7) _ = _
  simp only [Act.put, sP, i64_w, i32_w]
  rfl
 refine pP (i := 3) (N := some 8) (bm 15 15) rfl rfl HT_.out ?_
 refine pP (i := 4) (N := some 9) (bm 15 31) rfl rfl HT_.out ?_
 refine pP (i := 5) (N := some 10) (bm 15 63) rfl rfl HT_.out ?_
 refine pP (i := 6) (N := some 11) (bm 15 127) rfl rfl HT_.out ?_
 refine pP (i := 8) (N := some 13) (bm 15 383) rfl rfl HT_.out ?_
 refine pP (i := 9) (N := some 14) (bm 15 895) rfl rfl HT_.out ?_
 refine pP (i := 10) (N := some 15) (bm 15 1919) rfl rfl HT_.out ?_
 refine pT (i := 7) (N := some 12) (bm 15 2047) rfl rfl HT_.out HW_.out hHeld (by rintro w' ⟨s0, s1, s2, s3, s4, s5⟩; go_simp; with_reducible rfl) ?_
 refine pT (i := 11) (N := some 16) (bm 15 4095) rfl rfl HT_.out HW_.out hHeld (by rintro w' ⟨s0, s1, s2, s3, s4, s5⟩; go_simp; with_reducible rfl) ?_
 refine one_ (i := 12) (N := some 17) (bm 15 8191) rfl rfl (one_of HT_.out (by kernel_rfl)) (by decide) (fun K hK => ?_)
 refine goes_ Try.func35 (by kernel_rfl) rfl #[.agg #[.int .i64 o, .slice Ad d.length cd, .slice As s.length cs], .agg #[.int .i64 o', .slice Bd d'.length bd, .slice Bs s'.length bs]] (by rfl) rfl rfl pA ?_
 with_reducible refine (cells_Meet.calls k o Ad cd d As cs s o' Bd bd d' Bs bs s' r _ (Kd.C_below HD.out.1 HB.out) HD.out.2.1 (Kd.C_below HD.out.2.2.1 HB.out) HD.out.2.2.2 (Kd.C_below HE.out.1 HB.out) HE.out.2.1 (Kd.C_below HE.out.2.2.1 HB.out) HE.out.2.2.2 HF.out).mono ?_
 rintro e w10 ⟨rfl, hb⟩
 refine ⟨_, rfl, ?_⟩
 replace HB := bS (qB HB) hb
 clear hb mv
 have mv : ∀ {a : Addr} {v : Value}, w.cell? a = some v → w10.cell? a = some v := fun h_ => (HB.out.cell (World.block_lt_of_cell? w _ h_)).trans h_
 refine hK.out _ _ ⟨mv (blk4 HT.out).2.1, mv (blk4 HT.out).2.2.1, mv (blk4 HT.out).2.2.2.1, mv (blk4 HI.out).2.1, mv (blk4 HI.out).2.2.1, mv (blk4 HI.out).2.2.2.1⟩ (fun hHeld => ?_)
 clear hK K
 refine norm_ (a' := ?_) ?_ ?_
 rotate_left
 ·show Act.put _ (some 17) _ = _
  simp only [Act.put, sP, i64_w, i32_w]
  rfl
 refine pP (i := 13) (N := some 18) (bm 15 16383) rfl rfl HT_.out ?_
 refine pP (i := 14) (N := some 4) (bm 15 32767) rfl rfl HT_.out ?_
 refine done_ (done_of HT_.out (by kernel_rfl)) ?_
 clear hHeld HT_ HW_
 go_wp2
 go_ret
 exact ⟨pE, qB HB⟩
end Tn
end Go.Proofs.Ytmhikecbajkonaa.Q
namespace Go.Proofs.Ytmhikecbajkonaa.Q
open Go.RowKit Go.Proofs.YtmhikecbajkonaaW.PrintWords Go.Proofs.YtmhikecbajkonaaW.PrintLast Go.Proofs.YtmhikecbajkonaaW.PrintMore
attribute [local go_sem] max2_int min2_int max_two min_two max_three min_three max_four min_four
set_option linter.unusedVariables false
set_option linter.unusedSimpArgs false
namespace Tn
def sh.T3 : Bool × List (List Nat × List Nat) := (true, [([], []), ([], []), ([1], [1]), ([2], [2]), ([3], [3]), ([4], [4]), ([0, 5, 5], [0, 5]), ([6], [6])])
def sh.B3 : List Nat := [0, 0, 2, 6, 14, 30, 63, 127]
theorem sh.tab3 : rtab .any (opsOf Try.f12 3) = sh.T3 := by kernel_rfl
theorem sh.bits3 : waitsOk sh.T3.2 sh.B3 = true := by kernel_rfl
def sh.T5 : Bool × List (List Nat × List Nat) := (true, [([], []), ([0], [0]), ([1], [1]), ([2], [2]), ([], []), ([4], [4]), ([], []), ([6], [6]), ([7], [7]), ([], []), ([9], [9]), ([10, 8], [10]), ([5, 8, 11], [5, 8, 11]), ([3, 12], [3, 12]), ([13], [13]), ([14, 11, 0, 1, 2, 3, 4, 5, 6, 7, 8, 9, 10, 11, 12, 13, 14], [14]), ([15, 0, 1, 2, 3, 4, 5, 6, 7, 8, 9, 10, 11, 12, 13, 14, 15], [])])
def sh.B5 : List Nat := [0, 1, 3, 7, 0, 16, 0, 64, 192, 0, 512, 1984, 4080, 8191, 16383, 32767, 65535]
theorem sh.tab5 : rtab .any (opsOf Try.f12 5) = sh.T5 := by kernel_rfl
theorem sh.bits5 : waitsOk sh.T5.2 sh.B5 = true := by kernel_rfl
def nw.T4 : Bool × List (List Nat × List Nat) := (true, [([], []), ([0], [0]), ([1], [1]), ([], []), ([3], [3]), ([4], [4]), ([2, 5], [2, 5])])
def nw.B4 : List Nat := [0, 1, 3, 0, 8, 24, 63]
theorem nw.tab4 : rtab .any (opsOf Try.f8 4) = nw.T4 := by kernel_rfl
theorem nw.bits4 : waitsOk nw.T4.2 nw.B4 = true := by kernel_rfl
def nw.T6 : Bool × List (List Nat × List Nat) := (true, [([], []), ([0], [0]), ([1], [1]), ([], []), ([3], [3]), ([4, 2], [4]), ([2, 5], [2, 5]), ([6], [6]), ([7, 5, 0, 1, 2, 3, 4, 5, 6, 7], [7]), ([8, 0, 1, 2, 3, 4, 5, 6, 7, 8], [])])
def nw.B6 : List Nat := [0, 1, 3, 0, 8, 31, 63, 127, 255, 511]
theorem nw.tab6 : rtab .any (opsOf Try.f8 6) = nw.T6 := by kernel_rfl
theorem nw.bits6 : waitsOk nw.T6.2 nw.B6 = true := by kernel_rfl
set_option maxHeartbeats 8000000 in
set_option maxRecDepth 100000 in
theorem share_nil (o : Int) (Ad : Option Addr) (cd : Nat) (d : List Int) (As : Option Addr) (cs : Nat) (s : List Int) (w : World) : Calls Try.prog 12 #[.pointer none, .agg #[.int .i64 o, .slice Ad d.length cd, .slice As s.length cs]] w fun e w' => e = .returned (.tuple #[.pointer none, .int .i64 21]) ∧ Below w.heap.size w w' := by
 have hu43 := Try.underlying43
 have HB := aM (Below.refl w.heap.size w)
 go_enter Try.func12, Try.ntmps12
 go_wp2_with (first | ((with_reducible refine gate_dst (N := 3) rfl ?_); refine box_event ?hg (N := 3) ?hd (cs := #[.int .i64 o, .slice Ad d.length cd, .slice As s.length cs]) (t := 43) ?hr ?_; (case hd => rfl); (case hg => rfl); (case hr => first | (go_simp; done) | (go_simp; rfl)); intro gz hg_ w5 hbox hb; have Bgz := aM hbox; have Ggz := gE (w := w) hg_ (qB HB); replace HB := bS (qB HB) hb; have hczs := blk3 Bgz.out; clear hb hbox hg_))
 go_ret2
 exact ⟨pE, qB HB⟩
set_option maxHeartbeats 8000000 in
set_option maxRecDepth 100000 in
theorem share_bad (k b g gs : Nat) (o0 : Int) (d0 s0 : List Int) (A : Option Addr) (n c : Nat) (v : Value) (o : Int) (Ad : Option Addr) (cd : Nat) (d : List Int) (As : Option Addr) (cs : Nat) (s : List Int) (w : World) (h : Ten w b g gs o0 d0 s0) (hst : w.heap[gs]? = some (.cells #[.slice A n c, v] 89 (0, 0))) (hd : Kd.C (Kd.int .i64) w Ad d.length d) (hcd : d.length ≤ cd) (hs : Kd.C (Kd.int .i64) w As s.length s) (hcs : s.length ≤ cs) (hr : view_Right.f k o d s (n : Int) = some false) : Calls Try.prog 12 #[.pointer (some ⟨g, 0, none⟩), .agg #[.int .i64 o, .slice Ad d.length cd, .slice As s.length cs]] w fun e w' => e = .returned (.tuple #[.pointer none, .int .i64 1]) ∧ Below w.heap.size w w' := by
 have hu43 := Try.underlying43
 have hu68 := Try.underlying68
 have HT := aM h.st
 have HD := aM (And.intro hd hcd)
 have HS := aM (And.intro hs hcs)
 have HST := aM hst
 have HR := aM hr
 clear h hd hcd hs hcs hst hr
 have HB := aM (Below.refl w.heap.size w)
 go_enter Try.func12, Try.ntmps12
 go_wp2_with (first | ((with_reducible refine gate_dst (N := 3) rfl ?_); refine box_event ?hg (N := 3) ?hd (cs := #[.int .i64 o, .slice Ad d.length cd, .slice As s.length cs]) (t := 43) ?hr ?_; (case hd => rfl); (case hg => rfl); (case hr => first | (go_simp; done) | (go_simp; rfl)); intro gz hg_ w5 hbox hb; have Bgz := aM hbox; have Ggz := gE (w := w) hg_ (qB HB); replace HB := bS (qB HB) hb; have hczs := blk3 Bgz.out; clear hb hbox hg_))
 clear hczs
 replace HB := aM (below_drew1 HB.out)
 replace Bgz := aM (bD Bgz.out)
 have mv : ∀ {a : Addr} {v : Value}, w.cell? a = some v → w5.drew.cell? a = some v := fun h_ => (HB.out.cell (World.block_lt_of_cell? w _ h_)).trans h_
 refine start_ (n := 8) (S := fun w' => w'.cell? ⟨gz, 0, none⟩ = some (.int .i64 o) ∧ w'.cell? ⟨gz, 1, none⟩ = some (.slice Ad d.length cd) ∧ w'.cell? ⟨gz, 2, none⟩ = some (.slice As s.length cs) ∧ w'.cell? ⟨g, 0, none⟩ = some (.pointer (some ⟨gs, 0, none⟩))) (ds := []) (bm 8 0) (by kernel_rfl) rfl rfl ⟨(blk3 Bgz.out).1, (blk3 Bgz.out).2.1, (blk3 Bgz.out).2.2.1, mv HT.out⟩ (fun hHeld => ?_); refine with_tabW sh.tab3 sh.bits3 (fun HT_ HW_ => ?_)
 refine pP (i := 1) (N := some 9) (bm 8 2) rfl rfl HT_.out ?_
 refine pP (i := 2) (N := some 10) (bm 8 6) rfl rfl HT_.out ?_
 refine pP (i := 3) (N := some 11) (bm 8 14) rfl rfl HT_.out ?_
 refine pT (i := 0) (N := some 8) (bm 8 15) rfl rfl HT_.out HW_.out hHeld (by rintro w' ⟨s0, s1, s2, s3⟩; go_simp; with_reducible rfl) ?_
 refine pT (i := 4) (N := some 12) (bm 8 31) rfl rfl HT_.out HW_.out hHeld (by rintro w' ⟨s0, s1, s2, s3⟩; go_simp; with_reducible rfl) ?_
 refine one_ (i := 5) (N := some 13) (bm 8 63) rfl rfl (one_of HT_.out (by kernel_rfl)) (by decide) (fun K hK => ?_)
 refine goes_ Try.func33 (by kernel_rfl) rfl #[.pointer (some ⟨gs, 0, none⟩)] (by rfl) rfl rfl pA ?_
 with_reducible refine (store_Len.calls gs A n c v _ (blk_below HST.out HB.out)).mono ?_
 rintro e w6 ⟨rfl, hb⟩
 refine ⟨_, rfl, ?_⟩
 replace HB := bS (qB HB) hb
 replace Bgz := bK Bgz hb
 clear hb mv
 have mv : ∀ {a : Addr} {v : Value}, w.cell? a = some v → w6.cell? a = some v := fun h_ => (HB.out.cell (World.block_lt_of_cell? w _ h_)).trans h_
 refine hK.out _ _ ⟨(blk3 Bgz.out).1, (blk3 Bgz.out).2.1, (blk3 Bgz.out).2.2.1, mv HT.out⟩ (fun hHeld => ?_)
 clear hK K
 refine norm_ (a' := ?_) ?_ ?_
 rotate_left
 ·show Act.put _ (some 13) _ = _
  simp only [Act.put, sP, i64_w, i32_w]
  rfl
 refine one_ (i := 6) (N := some 14) (bm 8 127) rfl rfl (one_of HT_.out (by kernel_rfl)) (by decide) (fun K hK => ?_)
 refine goes_ Try.func32 (by kernel_rfl) rfl #[.agg #[.int .i64 o, .slice Ad d.length cd, .slice As s.length cs], .int .i64 n] (by rfl) rfl rfl pA ?_
 with_reducible refine (view_Right.calls k o Ad cd d As cs s n false _ (Kd.C_below HD.out.1 HB.out) HD.out.2 (Kd.C_below HS.out.1 HB.out) HS.out.2 HR.out).mono ?_
 rintro e w7 ⟨rfl, hb⟩
 refine ⟨_, rfl, ?_⟩
 replace HB := bS (qB HB) hb
 replace Bgz := bK Bgz hb
 clear hb mv
 have mv : ∀ {a : Addr} {v : Value}, w.cell? a = some v → w7.cell? a = some v := fun h_ => (HB.out.cell (World.block_lt_of_cell? w _ h_)).trans h_
 refine hK.out _ _ ⟨(blk3 Bgz.out).1, (blk3 Bgz.out).2.1, (blk3 Bgz.out).2.2.1, mv HT.out⟩ (fun hHeld => ?_)
 clear hK K
 refine norm_ (a' := ?_) ?_ ?_
 rotate_left
 ·show Act.put _ (some 14) _ = _
  simp only [Act.put, sP, i64_w, i32_w]
  rfl
 refine pP (i := 7) (N := some 15) (bm 8 255) rfl rfl HT_.out ?_
 refine done_ (done_of HT_.out (by kernel_rfl)) ?_
 clear hHeld HT_ HW_ mv
 go_wp2
 go_ret2
 exact ⟨pE, qB HB⟩
set_option maxHeartbeats 8000000 in
set_option maxRecDepth 100000 in
theorem share_ok (k b g gs : Nat) (o0 : Int) (d0 s0 : List Int) (A : Option Addr) (n c : Nat) (v : Value) (o : Int) (Ad : Option Addr) (cd : Nat) (d : List Int) (As : Option Addr) (cs : Nat) (s : List Int) (w : World) (h : Ten w b g gs o0 d0 s0) (hst : w.heap[gs]? = some (.cells #[.slice A n c, v] 89 (0, 0))) (hd : Kd.C (Kd.int .i64) w Ad d.length d) (hcd : d.length ≤ cd) (hs : Kd.C (Kd.int .i64) w As s.length s) (hcs : s.length ≤ cs) (hr : view_Right.f k o d s (n : Int) = some true) (hdl : d.length ≤ 1000) (hsl : s.length ≤ 1000) : Calls Try.prog 12 #[.pointer (some ⟨g, 0, none⟩), .agg #[.int .i64 o, .slice Ad d.length cd, .slice As s.length cs]] w fun e w' => ∃ gu, e = .returned (.tuple #[.pointer (some ⟨gu, 0, none⟩), .int .i64 0]) ∧ Ten w' w.heap.size gu gs o d s ∧ w.heap.size ≤ gu ∧ Below w.heap.size w w' := by
 have HL := aM (And.intro hdl hsl)
 clear hdl hsl
 have hu43 := Try.underlying43
 have hu68 := Try.underlying68
 have HT := aM h.st
 have HD := aM (And.intro hd hcd)
 have HS := aM (And.intro hs hcs)
 have HST := aM hst
 have HR := aM hr
 clear h hd hcd hs hcs hst hr
 have HB := aM (Below.refl w.heap.size w)
 go_enter Try.func12, Try.ntmps12
 go_wp2_with (first | ((with_reducible refine gate_dst (N := 3) rfl ?_); refine box_event ?hg (N := 3) ?hd (cs := #[.int .i64 o, .slice Ad d.length cd, .slice As s.length cs]) (t := 43) ?hr ?_; (case hd => rfl); (case hg => rfl); (case hr => first | (go_simp; done) | (go_simp; rfl)); intro gz hg_ w5 hbox hb; have Bgz := aM hbox; have Ggz := gE (w := w) hg_ (qB HB); replace HB := bS (qB HB) hb; have hczs := blk3 Bgz.out; clear hb hbox hg_))
 clear hczs
 replace HB := aM (below_drew1 HB.out)
 replace Bgz := aM (bD Bgz.out)
 have mv : ∀ {a : Addr} {v : Value}, w.cell? a = some v → w5.drew.cell? a = some v := fun h_ => (HB.out.cell (World.block_lt_of_cell? w _ h_)).trans h_
 refine start_ (n := 8) (S := fun w' => w'.cell? ⟨gz, 0, none⟩ = some (.int .i64 o) ∧ w'.cell? ⟨gz, 1, none⟩ = some (.slice Ad d.length cd) ∧ w'.cell? ⟨gz, 2, none⟩ = some (.slice As s.length cs) ∧ w'.cell? ⟨g, 0, none⟩ = some (.pointer (some ⟨gs, 0, none⟩))) (ds := []) (bm 8 0) (by kernel_rfl) rfl rfl ⟨(blk3 Bgz.out).1, (blk3 Bgz.out).2.1, (blk3 Bgz.out).2.2.1, mv HT.out⟩ (fun hHeld => ?_); refine with_tabW sh.tab3 sh.bits3 (fun HT_ HW_ => ?_)
 refine pP (i := 1) (N := some 9) (bm 8 2) rfl rfl HT_.out ?_
 refine pP (i := 2) (N := some 10) (bm 8 6) rfl rfl HT_.out ?_
 refine pP (i := 3) (N := some 11) (bm 8 14) rfl rfl HT_.out ?_
 refine pT (i := 0) (N := some 8) (bm 8 15) rfl rfl HT_.out HW_.out hHeld (by rintro w' ⟨s0, s1, s2, s3⟩; go_simp; with_reducible rfl) ?_
 refine pT (i := 4) (N := some 12) (bm 8 31) rfl rfl HT_.out HW_.out hHeld (by rintro w' ⟨s0, s1, s2, s3⟩; go_simp; with_reducible rfl) ?_
 refine one_ (i := 5) (N := some 13) (bm 8 63) rfl rfl (one_of HT_.out (by kernel_rfl)) (by decide) (fun K hK => ?_)
 refine goes_ Try.func33 (by kernel_rfl) rfl #[.pointer (some ⟨gs, 0, none⟩)] (by rfl) rfl rfl pA ?_
 with_reducible refine (store_Len.calls gs A n c v _ (blk_below HST.out HB.out)).mono ?_
 rintro e w6 ⟨rfl, hb⟩
 refine ⟨_, rfl, ?_⟩
 replace HB := bS (qB HB) hb
 replace Bgz := bK Bgz hb
 clear hb mv
 have mv : ∀ {a : Addr} {v : Value}, w.cell? a = some v → w6.cell? a = some v := fun h_ => (HB.out.cell (World.block_lt_of_cell? w _ h_)).trans h_
 refine hK.out _ _ ⟨(blk3 Bgz.out).1, (blk3 Bgz.out).2.1, (blk3 Bgz.out).2.2.1, mv HT.out⟩ (fun hHeld => ?_)
 clear hK K
 refine norm_ (a' := ?_) ?_ ?_
 rotate_left
 ·show Act.put _ (some 13) _ = _
  simp only [Act.put, sP, i64_w, i32_w]
  rfl
 refine one_ (i := 6) (N := some 14) (bm 8 127) rfl rfl (one_of HT_.out (by kernel_rfl)) (by decide) (fun K hK => ?_)
 refine goes_ Try.func32 (by kernel_rfl) rfl #[.agg #[.int .i64 o, .slice Ad d.length cd, .slice As s.length cs], .int .i64 n] (by rfl) rfl rfl pA ?_
 with_reducible refine (view_Right.calls k o Ad cd d As cs s n true _ (Kd.C_below HD.out.1 HB.out) HD.out.2 (Kd.C_below HS.out.1 HB.out) HS.out.2 HR.out).mono ?_
 rintro e w7 ⟨rfl, hb⟩
 refine ⟨_, rfl, ?_⟩
 replace HB := bS (qB HB) hb
 replace Bgz := bK Bgz hb
 clear hb mv
 have mv : ∀ {a : Addr} {v : Value}, w.cell? a = some v → w7.cell? a = some v := fun h_ => (HB.out.cell (World.block_lt_of_cell? w _ h_)).trans h_
 refine hK.out _ _ ⟨(blk3 Bgz.out).1, (blk3 Bgz.out).2.1, (blk3 Bgz.out).2.2.1, mv HT.out⟩ (fun hHeld => ?_)
 clear hK K
 refine norm_ (a' := ?_) ?_ ?_
 rotate_left
 ·show Act.put _ (some 14) _ = _
  simp only [Act.put, sP, i64_w, i32_w]
  rfl
 refine pP (i := 7) (N := some 15) (bm 8 255) rfl rfl HT_.out ?_
 refine done_ (done_of HT_.out (by kernel_rfl)) ?_
 clear hHeld HT_ HW_ mv
 go_wp2
 replace HB := aM (below_drew1 HB.out)
 replace Bgz := aM (bD Bgz.out)
 have mv : ∀ {a : Addr} {v : Value}, w.cell? a = some v → w7.drew.cell? a = some v := fun h_ => (HB.out.cell (World.block_lt_of_cell? w _ h_)).trans h_
 refine start_ (n := 17) (S := fun w' => w'.cell? ⟨gz, 0, none⟩ = some (.int .i64 o) ∧ w'.cell? ⟨gz, 1, none⟩ = some (.slice Ad d.length cd) ∧ w'.cell? ⟨gz, 2, none⟩ = some (.slice As s.length cs) ∧ w'.cell? ⟨g, 0, none⟩ = some (.pointer (some ⟨gs, 0, none⟩))) (ds := []) (bm 17 0) (by kernel_rfl) rfl rfl ⟨(blk3 Bgz.out).1, (blk3 Bgz.out).2.1, (blk3 Bgz.out).2.2.1, mv HT.out⟩ (fun hHeld => ?_); refine with_tabW sh.tab5 sh.bits5 (fun HT_ HW_ => ?_)
 refine pP (i := 0) (N := some 16) (bm 17 1) rfl rfl HT_.out ?_
 refine pP (i := 1) (N := some 17) (bm 17 3) rfl rfl HT_.out ?_
 refine pP (i := 2) (N := some 18) (bm 17 7) rfl rfl HT_.out ?_
 refine pP (i := 4) (N := some 20) (bm 17 23) rfl rfl HT_.out ?_
 refine pP (i := 6) (N := some 22) (bm 17 87) rfl rfl HT_.out ?_
 refine pP (i := 9) (N := some 25) (bm 17 599) rfl rfl HT_.out ?_
 refine pT (i := 3) (N := some 19) (bm 17 607) rfl rfl HT_.out HW_.out hHeld (by rintro w' ⟨s0, s1, s2, s3⟩; go_simp; with_reducible rfl) ?_
 refine pT (i := 5) (N := some 21) (bm 17 639) rfl rfl HT_.out HW_.out hHeld (by rintro w' ⟨s0, s1, s2, s3⟩; go_simp; with_reducible rfl) ?_
 refine pT (i := 7) (N := some 23) (bm 17 767) rfl rfl HT_.out HW_.out hHeld (by rintro w' ⟨s0, s1, s2, s3⟩; go_simp; with_reducible rfl) ?_
 refine pT (i := 10) (N := some 26) (bm 17 1791) rfl rfl HT_.out HW_.out hHeld (by rintro w' ⟨s0, s1, s2, s3⟩; go_simp; with_reducible rfl) ?_
 refine one_ (i := 8) (N := some 24) (bm 17 2047) rfl rfl (one_of HT_.out (by kernel_rfl)) (by decide) (fun K hK => ?_)
 refine goes_ Try.func34 (by kernel_rfl) rfl #[.slice Ad d.length cd] (by rfl) rfl rfl pA ?_
 with_reducible refine (clone Ad cd d _ (Kd.C_below HD.out.1 (qB HB)) HD.out.2 HL.out.1).mono ?_
 rintro e w8 ⟨xA, xc, rfl, ho, hb⟩
 refine ⟨_, rfl, ?_⟩
 have xR := aM (Kd.R_lower ho (below_size (qB HB)))
 replace HB := bS (qB HB) hb
 replace Bgz := bK Bgz hb
 clear hb ho mv
 have mv : ∀ {a : Addr} {v : Value}, w.cell? a = some v → w8.cell? a = some v := fun h_ => (HB.out.cell (World.block_lt_of_cell? w _ h_)).trans h_
 refine hK.out _ _ ⟨(blk3 Bgz.out).1, (blk3 Bgz.out).2.1, (blk3 Bgz.out).2.2.1, mv HT.out⟩ (fun hHeld => ?_)
 clear hK K
 refine norm_ (a' := ?_) ?_ ?_
 rotate_left
 ·show Act.put _ (some 24) _ = _
  simp only [Act.put, sP, i64_w, i32_w]
  rfl
 refine one_ (i := 11) (N := some 27) (bm 17 4095) rfl rfl (one_of HT_.out (by kernel_rfl)) (by decide) (fun K hK => ?_)
 refine goes_ Try.func34 (by kernel_rfl) rfl #[.slice As s.length cs] (by rfl) rfl rfl pA ?_
 with_reducible refine (clone As cs s _ (Kd.C_below HS.out.1 (qB HB)) HS.out.2 HL.out.2).mono ?_
 rintro e w9 ⟨yA, yc, rfl, ho, hb⟩
 refine ⟨_, rfl, ?_⟩
 have yR := aM (Kd.R_lower ho (below_size (qB HB)))
 replace HB := bS (qB HB) hb
 replace Bgz := bK Bgz hb
 replace xR := aM (Kd.R_below xR.out hb)
 clear hb ho mv
 have mv : ∀ {a : Addr} {v : Value}, w.cell? a = some v → w9.cell? a = some v := fun h_ => (HB.out.cell (World.block_lt_of_cell? w _ h_)).trans h_
 refine hK.out _ _ ⟨(blk3 Bgz.out).1, (blk3 Bgz.out).2.1, (blk3 Bgz.out).2.2.1, mv HT.out⟩ (fun hHeld => ?_)
 clear hK K
 refine norm_ (a' := ?_) ?_ ?_
 rotate_left
 ·show Act.put _ (some 27) _ = _
  simp only [Act.put, sP, i64_w, i32_w]
  rfl
 refine pP (i := 12) (N := some 28) (bm 17 8191) rfl rfl HT_.out ?_
 refine pP (i := 13) (N := some 29) (bm 17 16383) rfl rfl HT_.out ?_
 refine one_ (i := 14) (N := some 30) (bm 17 32767) rfl rfl (one_of HT_.out (by kernel_rfl)) (by decide) (fun K hK => ?_)
 refine value_ (w1 := w9.alloc (.cells #[.pointer (some ⟨gs, 0, none⟩), .int .i64 o, .slice xA d.length xc, .slice yA s.length yc] 68 (0, 0))) (v := .pointer (some ⟨w9.heap.size, 0, none⟩)) (by rfl) rfl (by first | (go_simp; done) | (go_simp; rfl)) ?_
 have Lz := aM (below_size HB.out); replace HB := aM (below_alloc HB.out (.cells #[.pointer (some ⟨gs, 0, none⟩), .int .i64 o, .slice xA d.length xc, .slice yA s.length yc] 68 (0, 0)))
 replace Bgz := aM (bA (o' := .cells #[.pointer (some ⟨gs, 0, none⟩), .int .i64 o, .slice xA d.length xc, .slice yA s.length yc] 68 (0, 0)) Bgz.out)
 clear mv
 have mv : ∀ {a : Addr} {v : Value}, w.cell? a = some v → (w9.alloc (.cells #[.pointer (some ⟨gs, 0, none⟩), .int .i64 o, .slice xA d.length xc, .slice yA s.length yc] 68 (0, 0))).cell? a = some v := fun h_ => (HB.out.cell (World.block_lt_of_cell? w _ h_)).trans h_
 refine hK.out _ _ ⟨(blk3 Bgz.out).1, (blk3 Bgz.out).2.1, (blk3 Bgz.out).2.2.1, mv HT.out⟩ (fun hHeld => ?_)
 clear hK K
 refine norm_ (a' := ?_) ?_ ?_
 rotate_left
 ·show Act.put _ (some 30) _ = _
  simp only [Act.put, sP, i64_w, i32_w]
  rfl
 refine pP (i := 15) (N := some 4) (bm 17 65535) rfl rfl HT_.out ?_
 refine pP (i := 16) (N := some 5) (bm 17 131071) rfl rfl HT_.out ?_
 refine done_ (done_of HT_.out (by kernel_rfl)) ?_
 clear hHeld HT_ HW_ mv
 have HN := aM (blk_new w9 (.cells #[.pointer (some ⟨gs, 0, none⟩), .int .i64 o, .slice xA d.length xc, .slice yA s.length yc] 68 (0, 0)))
 have HX := aM (Kd.R_alloc xR.out (.cells #[.pointer (some ⟨gs, 0, none⟩), .int .i64 o, .slice xA d.length xc, .slice yA s.length yc] 68 (0, 0)))
 have HY := aM (Kd.R_alloc yR.out (.cells #[.pointer (some ⟨gs, 0, none⟩), .int .i64 o, .slice xA d.length xc, .slice yA s.length yc] 68 (0, 0)))
 go_wp2
 go_ret2
 exact ⟨w9.heap.size, pE, ⟨xA, xc, yA, yc, HN.out, HX.out, HY.out⟩, Lz.out, qB HB⟩
set_option maxHeartbeats 8000000 in
set_option maxRecDepth 100000 in
theorem new_bad1 (A0 : Option Addr) (c0 : Nat) (d : List Int) (A1 : Option Addr) (c1 : Nat) (l : List S80) (r : Int) (w : World) (hd : Kd.C (Kd.int .i64) w A0 d.length d) (hcd : d.length ≤ c0) (hc : shape_Check.f d = some r) (hr : r ≠ 0) : Calls Try.prog 8 #[.agg #[.slice A0 d.length c0, .slice A1 l.length c1]] w fun e w' => e = .returned (.tuple #[.pointer none, .int .i64 r]) ∧ Below w.heap.size w w' := by
 have HC := aM hc
 have e1 : (r != 0) = true := bne_iff_ne.mpr hr
 have e2 : (r == 0) = false := beq_eq_false_iff_ne.mpr hr
 have e3 : decide (r = 0) = false := decide_eq_false hr
 clear hc hr
 have hu25 := Try.underlying25
 have hu68 := Try.underlying68
 have hu43 := Try.underlying43
 have HD := aM (And.intro hd hcd)
 clear hd hcd
 have HB := aM (Below.refl w.heap.size w)
 go_enter Try.func8, Try.ntmps8
 go_wp2_with (first | ((with_reducible refine gate_dst (N := 1) rfl ?_); refine box_event ?hg (N := 1) ?hd (cs := #[.slice A0 d.length c0, .slice A1 l.length c1]) (t := 25) ?hr ?_; (case hd => rfl); (case hg => rfl); (case hr => first | (go_simp; done) | (go_simp; rfl)); intro gz hg_ w5 hbox hb; have Bgz := aM hbox; have Ggz := gE (w := w) hg_ (qB HB); replace HB := bS (qB HB) hb; have hczs := blk2 Bgz.out; clear hb hbox hg_) | (go_at_call 27; (with_reducible refine (shape_Check.calls A0 c0 d r _ (Kd.C_below HD.out.1 (qB HB)) HD.out.2 HC.out).mono ?_); rintro e w6 ⟨rfl, hb0⟩; have hb := hb0.below; replace HB := bS (qB HB) hb; replace Bgz := bK Bgz hb; clear hb hb0; have hczs := blk2 Bgz.out))
 go_ret2
 exact ⟨pE, qB HB⟩
set_option maxHeartbeats 8000000 in
set_option maxRecDepth 100000 in
theorem new_bad2 (k : Nat) (A0 : Option Addr) (c0 : Nat) (d : List Int) (A1 : Option Addr) (c1 : Nat) (l : List S80) (n : Int) (w : World) (hd : Kd.C (Kd.int .i64) w A0 d.length d) (hcd : d.length ≤ c0) (hc : shape_Check.f d = some 0) (hn : shape_Count.f k d = some n) (hl : (l.length : Int) ≠ n) : Calls Try.prog 8 #[.agg #[.slice A0 d.length c0, .slice A1 l.length c1]] w fun e w' => e = .returned (.tuple #[.pointer none, .int .i64 1]) ∧ Below w.heap.size w w' := by
 have HC := aM hc
 have HN := aM hn
 have e1 : ((l.length : Int) != n) = true := bne_iff_ne.mpr hl
 have e2 : ((l.length : Int) == n) = false := beq_eq_false_iff_ne.mpr hl
 clear hc hn hl
 have hu25 := Try.underlying25
 have hu68 := Try.underlying68
 have hu43 := Try.underlying43
 have HD := aM (And.intro hd hcd)
 clear hd hcd
 have HB := aM (Below.refl w.heap.size w)
 go_enter Try.func8, Try.ntmps8
 go_wp2_with (first | ((with_reducible refine gate_dst (N := 1) rfl ?_); refine box_event ?hg (N := 1) ?hd (cs := #[.slice A0 d.length c0, .slice A1 l.length c1]) (t := 25) ?hr ?_; (case hd => rfl); (case hg => rfl); (case hr => first | (go_simp; done) | (go_simp; rfl)); intro gz hg_ w5 hbox hb; have Bgz := aM hbox; have Ggz := gE (w := w) hg_ (qB HB); replace HB := bS (qB HB) hb; have hczs := blk2 Bgz.out; clear hb hbox hg_) | (go_at_call 27; (with_reducible refine (shape_Check.calls A0 c0 d 0 _ (Kd.C_below HD.out.1 (qB HB)) HD.out.2 HC.out).mono ?_); rintro e w6 ⟨rfl, hb0⟩; have hb := hb0.below; replace HB := bS (qB HB) hb; replace Bgz := bK Bgz hb; clear hb hb0; have hczs := blk2 Bgz.out))
 clear hczs
 replace HB := aM (below_drew1 HB.out)
 replace Bgz := aM (bD Bgz.out)
 refine start_ (n := 7) (S := fun w' => w'.cell? ⟨gz, 0, none⟩ = some (.slice A0 d.length c0) ∧ w'.cell? ⟨gz, 1, none⟩ = some (.slice A1 l.length c1)) (ds := []) (bm 7 0) (by kernel_rfl) rfl rfl ⟨(blk2 Bgz.out).1, (blk2 Bgz.out).2.1⟩ (fun hHeld => ?_); refine with_tabW nw.tab4 nw.bits4 (fun HT_ HW_ => ?_)
 refine pP (i := 0) (N := some 11) (bm 7 1) rfl rfl HT_.out ?_
 refine pP (i := 3) (N := some 14) (bm 7 9) rfl rfl HT_.out ?_
 refine pT (i := 1) (N := some 12) (bm 7 11) rfl rfl HT_.out HW_.out hHeld (by rintro w' ⟨s0, s1⟩; go_simp; with_reducible rfl) ?_
 refine pP (i := 2) (N := some 13) (bm 7 15) rfl rfl HT_.out ?_
 refine pT (i := 4) (N := some 15) (bm 7 31) rfl rfl HT_.out HW_.out hHeld (by rintro w' ⟨s0, s1⟩; go_simp; with_reducible rfl) ?_
 refine one_ (i := 5) (N := some 16) (bm 7 63) rfl rfl (one_of HT_.out (by kernel_rfl)) (by decide) (fun K hK => ?_)
 refine goes_ Try.func28 (by kernel_rfl) rfl #[.slice A0 d.length c0] (by rfl) rfl rfl pA ?_
 with_reducible refine (shape_Count.calls k A0 c0 d n _ (Kd.C_below HD.out.1 HB.out) HD.out.2 HN.out).mono ?_
 rintro e w7 ⟨rfl, hb0⟩
 refine ⟨_, rfl, ?_⟩
 have hb := hb0.below
 replace HB := bS (qB HB) hb
 replace Bgz := bK Bgz hb
 clear hb hb0
 refine hK.out _ _ ⟨(blk2 Bgz.out).1, (blk2 Bgz.out).2.1⟩ (fun hHeld => ?_)
 clear hK K
 refine norm_ (a' := ?_) ?_ ?_
 rotate_left
 ·show Act.put _ (some 16) _ = _
  simp only [Act.put, sP, i64_w, i32_w]
  rfl
 refine pP (i := 6) (N := some 17) (bm 7 127) rfl rfl HT_.out ?_
 refine done_ (done_of HT_.out (by kernel_rfl)) ?_
 clear hHeld HT_ HW_
 go_wp2
 go_ret2
 exact ⟨pE, qB HB⟩
set_option maxHeartbeats 8000000 in
set_option maxRecDepth 100000 in
theorem new_ok (k : Nat) (A0 : Option Addr) (c0 : Nat) (d : List Int) (A1 : Option Addr) (c1 : Nat) (l : List S80) (s : List Int) (V : List S80) (n : Int) (w : World) (hd : Kd.C (Kd.int .i64) w A0 d.length d) (hcd : d.length ≤ c0) (hr : Kd.C k80 w A1 l.length l) (hcl : l.length ≤ c1) (hc : shape_Check.f d = some 0) (hn : shape_Count.f k d = some n) (hl : (l.length : Int) = n) (hw : view_Whole.f k d = some (0, d, s)) (h1 : 1 ≤ l.length) (h64 : l.length ≤ 64) (hv : store_copies.f k l = some V) (hvl : V.length = l.length) : Calls Try.prog 8 #[.agg #[.slice A0 d.length c0, .slice A1 l.length c1]] w fun e w' => ∃ gt gs gr c, e = .returned (.tuple #[.pointer (some ⟨gt, 0, none⟩), .int .i64 0]) ∧ Ten w' w.heap.size gt gs 0 d s ∧ w'.heap[gs]? = some (.cells #[.slice (some ⟨gr, 0, none⟩) V.length c, .int .i64 0] 89 (0, 0)) ∧ Kd.S k80 80 w' w.heap.size (fun k => k ≠ gs) (.slice (some ⟨gr, 0, none⟩) V.length c) V ∧ w.heap.size ≤ gs ∧ w.heap.size ≤ gr ∧ w.heap.size ≤ gt ∧ Below w.heap.size w w' := by
 have HC := aM hc
 have HN := aM hn
 have e1 : ((l.length : Int) != n) = false := bne_eq_false_iff_eq.mpr hl
 have e2 : ((l.length : Int) == n) = true := beq_iff_eq.mpr hl
 have HW := aM hw
 have HL := aM (And.intro hr (And.intro hcl (And.intro h1 h64)))
 have HV := aM hv
 have HVL := aM hvl
 clear hw hr hcl h1 h64 hv hvl
 clear hc hn hl
 have hu25 := Try.underlying25
 have hu68 := Try.underlying68
 have hu43 := Try.underlying43
 have HD := aM (And.intro hd hcd)
 clear hd hcd
 have HB := aM (Below.refl w.heap.size w)
 go_enter Try.func8, Try.ntmps8
 go_wp2_with (first | ((with_reducible refine gate_dst (N := 1) rfl ?_); refine box_event ?hg (N := 1) ?hd (cs := #[.slice A0 d.length c0, .slice A1 l.length c1]) (t := 25) ?hr ?_; (case hd => rfl); (case hg => rfl); (case hr => first | (go_simp; done) | (go_simp; rfl)); intro gz hg_ w5 hbox hb; have Bgz := aM hbox; have Ggz := gE (w := w) hg_ (qB HB); replace HB := bS (qB HB) hb; have hczs := blk2 Bgz.out; clear hb hbox hg_) | (go_at_call 27; (with_reducible refine (shape_Check.calls A0 c0 d 0 _ (Kd.C_below HD.out.1 (qB HB)) HD.out.2 HC.out).mono ?_); rintro e w6 ⟨rfl, hb0⟩; have hb := hb0.below; replace HB := bS (qB HB) hb; replace Bgz := bK Bgz hb; clear hb hb0; have hczs := blk2 Bgz.out))
 clear hczs
 replace HB := aM (below_drew1 HB.out)
 replace Bgz := aM (bD Bgz.out)
 refine start_ (n := 7) (S := fun w' => w'.cell? ⟨gz, 0, none⟩ = some (.slice A0 d.length c0) ∧ w'.cell? ⟨gz, 1, none⟩ = some (.slice A1 l.length c1)) (ds := []) (bm 7 0) (by kernel_rfl) rfl rfl ⟨(blk2 Bgz.out).1, (blk2 Bgz.out).2.1⟩ (fun hHeld => ?_); refine with_tabW nw.tab4 nw.bits4 (fun HT_ HW_ => ?_)
 refine pP (i := 0) (N := some 11) (bm 7 1) rfl rfl HT_.out ?_
 refine pP (i := 3) (N := some 14) (bm 7 9) rfl rfl HT_.out ?_
 refine pT (i := 1) (N := some 12) (bm 7 11) rfl rfl HT_.out HW_.out hHeld (by rintro w' ⟨s0, s1⟩; go_simp; with_reducible rfl) ?_
 refine pP (i := 2) (N := some 13) (bm 7 15) rfl rfl HT_.out ?_
 refine pT (i := 4) (N := some 15) (bm 7 31) rfl rfl HT_.out HW_.out hHeld (by rintro w' ⟨s0, s1⟩; go_simp; with_reducible rfl) ?_
 refine one_ (i := 5) (N := some 16) (bm 7 63) rfl rfl (one_of HT_.out (by kernel_rfl)) (by decide) (fun K hK => ?_)
 refine goes_ Try.func28 (by kernel_rfl) rfl #[.slice A0 d.length c0] (by rfl) rfl rfl pA ?_
 with_reducible refine (shape_Count.calls k A0 c0 d n _ (Kd.C_below HD.out.1 HB.out) HD.out.2 HN.out).mono ?_
 rintro e w7 ⟨rfl, hb0⟩
 refine ⟨_, rfl, ?_⟩
 have hb := hb0.below
 replace HB := bS (qB HB) hb
 replace Bgz := bK Bgz hb
 clear hb hb0
 refine hK.out _ _ ⟨(blk2 Bgz.out).1, (blk2 Bgz.out).2.1⟩ (fun hHeld => ?_)
 clear hK K
 refine norm_ (a' := ?_) ?_ ?_
 rotate_left
 ·show Act.put _ (some 16) _ = _
  simp only [Act.put, sP, i64_w, i32_w]
  rfl
 refine pP (i := 6) (N := some 17) (bm 7 127) rfl rfl HT_.out ?_
 refine done_ (done_of HT_.out (by kernel_rfl)) ?_
 clear hHeld HT_ HW_
 go_wp2
 clear e1 e2
 replace HB := aM (below_drew1 HB.out)
 replace Bgz := aM (bD Bgz.out)
 refine start_ (n := 10) (S := fun w' => w'.cell? ⟨gz, 0, none⟩ = some (.slice A0 d.length c0) ∧ w'.cell? ⟨gz, 1, none⟩ = some (.slice A1 l.length c1)) (ds := []) (bm 10 0) (by kernel_rfl) rfl rfl ⟨(blk2 Bgz.out).1, (blk2 Bgz.out).2.1⟩ (fun hHeld => ?_); refine with_tabW nw.tab6 nw.bits6 (fun HT_ HW_ => ?_)
 refine pP (i := 0) (N := some 18) (bm 10 1) rfl rfl HT_.out ?_
 refine pP (i := 3) (N := some 21) (bm 10 9) rfl rfl HT_.out ?_
 refine pT (i := 1) (N := some 19) (bm 10 11) rfl rfl HT_.out HW_.out hHeld (by rintro w' ⟨s0, s1⟩; go_simp; with_reducible rfl) ?_
 refine pT (i := 4) (N := some 22) (bm 10 27) rfl rfl HT_.out HW_.out hHeld (by rintro w' ⟨s0, s1⟩; go_simp; with_reducible rfl) ?_
 refine one_ (i := 2) (N := some 20) (bm 10 31) rfl rfl (one_of HT_.out (by kernel_rfl)) (by decide) (fun K hK => ?_)
 refine goes_ Try.func29 (by kernel_rfl) rfl #[.slice A1 l.length c1] (by rfl) rfl rfl pA ?_
 with_reducible refine (store_New.calls k A1 c1 l V _ (Kd.C_below HL.out.1 HB.out) HL.out.2.1 HL.out.2.2.1 HL.out.2.2.2 HV.out).mono ?_
 rintro e w8 ⟨gs, v, rfl, hbs, hge, hS, hb⟩
 refine ⟨_, rfl, ?_⟩
 obtain ⟨gr, c, ev, hgr, _, _⟩ := Kd.S_form hS (by have := HVL.out; have := HL.out.2.2.1; omega)
 subst ev
 have BS := aM hbs
 have HX := aM (And.intro (Nat.le_trans (below_size HB.out) hge) (Nat.le_trans (below_size HB.out) hgr))
 have HS := aM (Kd.S_lower hS (below_size HB.out))
 replace HB := bS (qB HB) hb
 replace Bgz := bK Bgz hb
 clear hb hbs hge hS hgr
 refine hK.out _ _ ⟨(blk2 Bgz.out).1, (blk2 Bgz.out).2.1⟩ (fun hHeld => ?_)
 clear hK K
 refine norm_ (a' := ?_) ?_ ?_
 rotate_left
 ·show Act.put _ (some 20) _ = _
  simp only [Act.put, sP, i64_w, i32_w]
  rfl
 refine one_ (i := 5) (N := some 23) (bm 10 63) rfl rfl (one_of HT_.out (by kernel_rfl)) (by decide) (fun K hK => ?_)
 refine goes_ Try.func30 (by kernel_rfl) rfl #[.slice A0 d.length c0] (by rfl) rfl rfl pA ?_
 with_reducible refine (view_Whole.calls k A0 c0 d 0 d s _ (Kd.C_below HD.out.1 HB.out) HD.out.2 HW.out).mono ?_
 rintro e w9 ⟨v1, v2, rfl, h1, h2, hb⟩
 refine ⟨_, rfl, ?_⟩
 obtain ⟨xA, xc, e1⟩ := Kd.R_slice h1
 subst e1
 obtain ⟨yA, yc, e2⟩ := Kd.R_slice h2
 subst e2
 have xR := aM (Kd.R_mono (ok' := fun _ => True) (Kd.R_lower h1 (below_size HB.out)) (fun _ _ => trivial))
 have yR := aM (Kd.R_mono (ok' := fun _ => True) (Kd.R_lower h2 (below_size HB.out)) (fun _ _ => trivial))
 replace HB := bS (qB HB) hb
 replace Bgz := bK Bgz hb
 replace BS := bK BS hb
 replace HS := aM (Kd.S_below HS.out hb)
 clear hb h1 h2
 refine hK.out _ _ ⟨(blk2 Bgz.out).1, (blk2 Bgz.out).2.1⟩ (fun hHeld => ?_)
 clear hK K
 refine norm_ (a' := ?_) ?_ ?_
 rotate_left
 ·show Act.put _ (some 23) _ = _
  simp only [Act.put, sP, i64_w, i32_w]
  rfl
 refine pP (i := 6) (N := some 24) (bm 10 127) rfl rfl HT_.out ?_
 refine one_ (i := 7) (N := some 25) (bm 10 255) rfl rfl (one_of HT_.out (by kernel_rfl)) (by decide) (fun K hK => ?_)
 refine value_ (w1 := w9.alloc (.cells #[.pointer (some ⟨gs, 0, none⟩), .int .i64 0, .slice xA d.length xc, .slice yA s.length yc] 68 (0, 0))) (v := .pointer (some ⟨w9.heap.size, 0, none⟩)) (by rfl) rfl (by first | (go_simp; done) | (go_simp; rfl)) ?_
 have Lz := aM (below_size HB.out)
 replace HB := aM (below_alloc HB.out (.cells #[.pointer (some ⟨gs, 0, none⟩), .int .i64 0, .slice xA d.length xc, .slice yA s.length yc] 68 (0, 0)))
 replace Bgz := aM (bA (o' := (.cells #[.pointer (some ⟨gs, 0, none⟩), .int .i64 0, .slice xA d.length xc, .slice yA s.length yc] 68 (0, 0))) Bgz.out)
 refine hK.out _ _ ⟨(blk2 Bgz.out).1, (blk2 Bgz.out).2.1⟩ (fun hHeld => ?_)
 clear hK K
 refine norm_ (a' := ?_) ?_ ?_
 rotate_left
 ·show Act.put _ (some 25) _ = _
  simp only [Act.put, sP, i64_w, i32_w]
  rfl
 refine pP (i := 8) (N := some 2) (bm 10 511) rfl rfl HT_.out ?_
 refine pP (i := 9) (N := some 3) (bm 10 1023) rfl rfl HT_.out ?_
 refine done_ (done_of HT_.out (by kernel_rfl)) ?_
 clear hHeld HT_ HW_
 have HZ := aM (blk_new w9 (.cells #[.pointer (some ⟨gs, 0, none⟩), .int .i64 0, .slice xA d.length xc, .slice yA s.length yc] 68 (0, 0)))
 have HXR := aM (Kd.R_alloc xR.out (.cells #[.pointer (some ⟨gs, 0, none⟩), .int .i64 0, .slice xA d.length xc, .slice yA s.length yc] 68 (0, 0)))
 have HYR := aM (Kd.R_alloc yR.out (.cells #[.pointer (some ⟨gs, 0, none⟩), .int .i64 0, .slice xA d.length xc, .slice yA s.length yc] 68 (0, 0)))
 replace BS := aM (bA (o' := (.cells #[.pointer (some ⟨gs, 0, none⟩), .int .i64 0, .slice xA d.length xc, .slice yA s.length yc] 68 (0, 0))) BS.out)
 replace HS := aM (Kd.S_alloc HS.out (.cells #[.pointer (some ⟨gs, 0, none⟩), .int .i64 0, .slice xA d.length xc, .slice yA s.length yc] 68 (0, 0)))
 go_wp2
 go_ret2
 exact ⟨w9.heap.size, gs, gr, c, pE, ⟨xA, xc, yA, yc, HZ.out, HXR.out, HYR.out⟩, BS.out, HS.out, HX.out.1, HX.out.2, Lz.out, qB HB⟩
end Tn
end Go.Proofs.Ytmhikecbajkonaa.Q
namespace Go.Proofs.Ytmhikecbajkonaa.Q
open Go.RowKit Go.Proofs.YtmhikecbajkonaaW.PrintWords Go.Proofs.YtmhikecbajkonaaW.PrintLast Go.Proofs.YtmhikecbajkonaaW.PrintMore
attribute [local go_sem] max2_int min2_int max_two min_two max_three min_three max_four min_four
set_option linter.unusedVariables false
set_option linter.unusedSimpArgs false
namespace Tn
theorem Ten.fr {w w' : World} {b gt gs a r : Nat} {o : Int} {d s : List Int} {ca : Array Value} (h : Ten w b gt gs o d s) (hg : w.heap[a]? = some (.cells ca 89 (0, 0))) (hr : ∃ cr, w.heap[r]? = some (.cells cr 80 (0, 0))) (hf : ∀ k, k < w.heap.size → k ≠ a → k ≠ r → w'.heap[k]? = w.heap[k]?) : Ten w' b gt gs o d s := by
  obtain ⟨cr, hr⟩ := hr
  obtain ⟨Ad, cd, As, cs, h1, h2, h3⟩ := h
  have n1 : gt ≠ a := fun e => by rw [e, hg] at h1; cases h1
  have n2 : gt ≠ r := fun e => by rw [e, hr] at h1; cases h1
  have go : ∀ {A : Option Addr} {n c : Nat} {l : List Int}, Kd.R (Kd.int .i64) 3 w b (fun _ => True) (.slice A n c) l → Kd.R (Kd.int .i64) 3 w' b (fun _ => True) (.slice A n c) l := fun h => Kd.R_mono (Kd.R_step (Kd.R_types (Kd.R_types h hg (by decide)) hr (by decide)) (fun k hk hl => hf k hl hk.1.2 hk.2)) (fun _ _ => trivial)
  exact ⟨Ad, cd, As, cs, (hf gt (blk_lt h1) n1 n2).trans h1, go h2, go h3⟩
def vB (b : Int) : S80 := ⟨⟨false, [], []⟩, b, 0⟩
theorem int2C {w : World} {g t : Nat} {b0 b1 : Int} (h : w.heap[g]? = some (.cells #[.int .i64 b0, .int .i64 b1] t (0, 0))) : Kd.C (Kd.int .i64) w (some ⟨g, 0, none⟩) 2 [b0, b1] := by
  refine ⟨rfl, by simp, fun _ => ⟨_, rfl, fun j p hj => ?_⟩⟩
  match j with
  | 0 =>
    obtain rfl : b0 = p := by simpa using hj
    refine ⟨_, rfl, rfl, fun i u hu => ?_⟩
    match i with
    | 0 => obtain rfl := Option.some.inj hu; exact (blk_cell h 0).trans rfl
    | i + 1 => simp at hu
  | 1 =>
    obtain rfl : b1 = p := by simpa using hj
    refine ⟨_, rfl, rfl, fun i u hu => ?_⟩
    match i with
    | 0 => obtain rfl := Option.some.inj hu; exact (blk_cell h 1).trans rfl
    | i + 1 => simp at hu
  | j + 2 => simp at hj
section
variable {P : Program} {ops : Array Oper} {o : Oper} {rest : List Oper} {a : Act} {Q : Exit → Act → World → Prop}
theorem lit {W : World} (hgd : o.guard = none) {N : Tmp} (_hd : o.dst = some N) {cs : Array Value} {t : TypeId} {n : Nat} (hrun : (execOp a.eval o).run P W = .ok (.value (.slice (some ⟨W.heap.size, 0, none⟩) n n)) (W.alloc (.cells cs t (0, 0))))
    (h : ∀ g, g = W.heap.size → ∀ w1, w1.heap[g]? = some (.cells cs t (0, 0)) → Below W.heap.size W w1 → wpList P ops Q rest (a.put o.dst (.slice (some ⟨g, 0, none⟩) n n)) w1) : wpList P ops Q (o :: rest) a W :=
  Kd.event_run hgd hrun (h _ rfl _ (blk_new W _) (below_alloc (Below.refl _ _) _))
end
abbrev La : List S80 := [vB 1, vB 2, vB 3, vB 4]
abbrev Lb : List S80 := [vB 5, vB 6, vB 7, vB 8]
abbrev Lc : List S80 := [vB 5, vB 7, vB 6, vB 8]
theorem sm_vals (a b c d : Int) (w : World) : Calls Try.prog 25 #[.int .u64 a, .int .u64 b, .int .u64 c, .int .u64 d] w fun e w' => ∃ A n, e = .returned (.slice A 4 n) ∧ Kd.S k80 80 w' w.heap.size (fun _ => True) (.slice A 4 n) [vB a, vB b, vB c, vB d] ∧ Below w.heap.size w w' :=
  (gradinelaw25_vals.calls a b c d [vB a, vB b, vB c, vB d] w rfl).mono fun e w' ⟨v, he, hS, hb⟩ => by
    obtain ⟨A, n, rfl⟩ := Kd.S_slice hS
    exact ⟨A, n, he, hS, hb⟩
theorem sm_C {w : World} {base c : Nat} {ok : Nat → Prop} {A : Option Addr} {L : List S80} (hL : L.length = 4) (h : Kd.S k80 80 w base ok (.slice A 4 c) L) : Kd.C k80 w A 4 L ∧ 4 ≤ c := by
  obtain ⟨_, h2, h3⟩ := Kd.S_reads' h
  rw [hL] at h3
  exact ⟨h3, h2⟩
/-- What the first tensor and its store are. -/
structure Sm (W w : World) (gt gs gr c : Nat) (V : List S80) (ver : Int) : Prop where
  t : Ten w W.heap.size gt gs 0 [2, 2] [2, 1]
  st : w.heap[gs]? = some (.cells #[.slice (some ⟨gr, 0, none⟩) 4 c, .int .i64 ver] 89 (0, 0))
  row : Kd.S k80 80 w W.heap.size (fun k => k ≠ gs) (.slice (some ⟨gr, 0, none⟩) 4 c) V
  bel : Below W.heap.size W w
  x : W.heap.size ≤ gs ∧ W.heap.size ≤ gr ∧ gs ≠ gr
theorem Sm.step {W w w1 : World} {gt gs gr c : Nat} {V : List S80} {ver : Int} (h : Sm W w gt gs gr c V ver) (hb : Below w.heap.size w w1) : Sm W w1 gt gs gr c V ver := ⟨h.t.below hb, blk_below h.st hb, Kd.S_below h.row hb, below_step h.bel hb, h.x⟩
theorem sm_new (g9 : Nat) (A1 : Option Addr) (c1 : Nat) (W w : World) (h : w.heap[g9]? = some (.cells #[.int .i64 2, .int .i64 2] 3 (0, 0))) (hr : Kd.C k80 w A1 4 La) (hc : 4 ≤ c1) (hB : Below W.heap.size W w) : Calls Try.prog 8 #[.agg #[.slice (some ⟨g9, 0, none⟩) 2 2, .slice A1 4 c1]] w fun e w' => ∃ gt gs gr c, e = .returned (.tuple #[.pointer (some ⟨gt, 0, none⟩), .int .i64 0]) ∧ Sm W w' gt gs gr c La 0 := by
  refine (new_ok 30 (some ⟨g9, 0, none⟩) 2 [2, 2] A1 c1 La [2, 1] La 4 w (int2C h) (by decide) hr hc (by kernel_rfl) (by kernel_rfl) (by decide) (by kernel_rfl) (by decide) (by decide) (by kernel_rfl) rfl).mono ?_
  rintro e w' ⟨gt, gs, gr, c, rfl, hT, hst, hS, h1, h2, h3, hb⟩
  have hs := below_size hB
  refine ⟨gt, gs, gr, c, rfl, ?_, hst, Kd.S_lower hS hs, below_step hB hb, by omega, by omega, fun e_ => Kd.S_ne hS hst (by decide) (by rw [e_]; simp [Value.ownBlock])⟩
  obtain ⟨Ad, cd, As, cs, q1, q2, q3⟩ := hT
  exact ⟨Ad, cd, As, cs, q1, Kd.R_lower q2 hs, Kd.R_lower q3 hs⟩
theorem sm_share (gt gs gr c g9 g8 : Nat) (V : List S80) (ver : Int) (W w : World) (h : Sm W w gt gs gr c V ver) (h9 : w.heap[g9]? = some (.cells #[.int .i64 2, .int .i64 2] 3 (0, 0))) (h8 : w.heap[g8]? = some (.cells #[.int .i64 1, .int .i64 2] 3 (0, 0))) : Calls Try.prog 12 #[.pointer (some ⟨gt, 0, none⟩), .agg #[.int .i64 0, .slice (some ⟨g9, 0, none⟩) 2 2, .slice (some ⟨g8, 0, none⟩) 2 2]] w fun e w' => ∃ gu, e = .returned (.tuple #[.pointer (some ⟨gu, 0, none⟩), .int .i64 0]) ∧ Ten w' W.heap.size gu gs 0 [2, 2] [1, 2] ∧ Sm W w' gt gs gr c V ver := by
  refine (share_ok 30 W.heap.size gt gs 0 [2, 2] [2, 1] (some ⟨gr, 0, none⟩) 4 c (.int .i64 ver) 0 (some ⟨g9, 0, none⟩) 2 [2, 2] (some ⟨g8, 0, none⟩) 2 [1, 2] w h.t h.st (int2C h9) (by decide) (int2C h8) (by decide) (by kernel_rfl) (by decide) (by decide)).mono ?_
  rintro e w' ⟨gu, rfl, hT, h3, hb⟩
  have hs := below_size h.bel
  obtain ⟨Ad, cd, As, cs, q1, q2, q3⟩ := hT
  exact ⟨gu, rfl, ⟨Ad, cd, As, cs, q1, Kd.R_lower q2 hs, Kd.R_lower q3 hs⟩, h.step hb⟩
theorem sm_put : store_Put.f La [0, 2, 1, 3] Lb = (0, Lc) := by kernel_rfl
theorem sm_write (gt gu gs gr c : Nat) (A2 : Option Addr) (c2 : Nat) (W w w0 : World) (h : Sm W w gt gs gr c La 0) (hu : Ten w W.heap.size gu gs 0 [2, 2] [1, 2]) (hL : Kd.S k80 80 w w0.heap.size (fun _ => True) (.slice A2 4 c2) Lb) (hgs : gs < w0.heap.size) (hgr : gr < w0.heap.size) : Calls Try.prog 16 #[.pointer (some ⟨gu, 0, none⟩), .slice A2 4 c2] w fun e w' => e = .returned (.int .i64 0) ∧ Ten w' W.heap.size gu gs 0 [2, 2] [1, 2] ∧ Sm W w' gt gs gr c Lc 1 := by
  have hr := Kd.S_typed h.row gr (by simp [Value.ownBlock])
  refine (write 30 W.heap.size gu gs gr c 0 [2, 2] [1, 2] La 0 (fun k => k ≠ gs) [0, 2, 1, 3] A2 c2 Lb 0 Lc W w hu (by kernel_rfl) h.st h.row (fun _ h => h) h.x (by decide) (by decide) h.bel (fun w' b f => (Kd.S_reads' (Kd.S_step (Kd.S_bound hL) (fun k hk hl => f k hl (by have := hk.2.1; omega) (by have := hk.2.1; omega)))).2.2) (fun _ ad e => by
    subst e
    obtain ⟨g, n, e1, e2, _, _⟩ := Kd.S_form hL (by decide)
    cases e1
    show g ≠ gr
    omega) (by simp [Lb, vB, St.sw]) sm_put rfl).mono ?_
  rintro e w' ⟨h1, h2, h3, h4, h5, h6⟩
  exact ⟨h1, hu.fr h.st hr h6, h.t.fr h.st hr h6, by have h7 := h2; first | exact h7 | simpa [wrap64, Lc] using h7, h3, h4, h.x⟩
theorem sm_read (gt gs gr c : Nat) (W w : World) (h : Sm W w gt gs gr c Lc 1) : Calls Try.prog 22 #[.pointer (some ⟨gt, 0, none⟩)] w fun e w' => ∃ A1 c1 A2 c2, e = .returned (.tuple #[.agg #[.slice A1 2 c1, .slice A2 4 c2], .int .i64 0]) ∧ Kd.S k80 80 w' w.heap.size (fun _ => True) (.slice A2 4 c2) Lc ∧ Below w.heap.size w w' := by
  refine (read 30 30 W.heap.size gt gs c (some ⟨gr, 0, none⟩) 0 [2, 2] [2, 1] Lc 1 [0, 1, 2, 3] Lc 0 w h.t h.st (Kd.S_reads' h.row).2.2 (by kernel_rfl) (by kernel_rfl) (by decide)).mono ?_
  rintro e w' ⟨A1, c1, A2, c2, rfl, _, hS, hb⟩
  exact ⟨A1, c1, A2, c2, rfl, hS, hb⟩
theorem sm_all (A1 : Option Addr) (c1 : Nat) (A2 : Option Addr) (c2 : Nat) (w : World) (h1 : Kd.C k80 w A1 4 Lc) (g1 : 4 ≤ c1) (h2 : Kd.C k80 w A2 4 Lc) (g2 : 4 ≤ c2) : Calls Try.prog 26 #[.slice A1 4 c1, .slice A2 4 c2] w fun e w' => e = .returned (.bool true) ∧ Below w.heap.size w w' := gradineref18_All.calls 30 A1 c1 Lc A2 c2 Lc true w h1 g1 h2 g2 (by kernel_rfl)
theorem sm_meets (gt gu gs gr c : Nat) (V : List S80) (ver : Int) (W w : World) (h : Sm W w gt gs gr c V ver) (hu : Ten w W.heap.size gu gs 0 [2, 2] [1, 2]) : Calls Try.prog 14 #[.pointer (some ⟨gt, 0, none⟩), .pointer (some ⟨gu, 0, none⟩)] w fun e w' => e = .returned (.bool true) ∧ Below w.heap.size w w' := meets_yes 100 W.heap.size W.heap.size gt gu gs 0 [2, 2] [2, 1] 0 [2, 2] [1, 2] true w h.t hu (by decide +kernel)
def sm.T5 : Bool × List (List Nat × List Nat) := (true, [([], []), ([0], [0]), ([1], [1]), ([2], [2]), ([3, 2], [2, 3]), ([2, 4], [2, 4]), ([5, 2], [5]), ([6], [6]), ([7, 6], [6, 7]), ([6, 8], [6, 8]), ([9, 6], [9]), ([10], [10]), ([11, 10], [10, 11]), ([10, 12], [10, 12]), ([13, 10], [13]), ([14], [14]), ([15, 14], [14, 15]), ([14, 14], [14]), ([16, 17, 17, 14], [14, 16, 17]), ([14, 18], [14, 18]), ([19, 18], [19]), ([20], [20]), ([21, 20, 20], [20, 21]), ([22, 20], [20, 22]), ([20, 23], [20, 23]), ([24, 22], [24]), ([25], [25]), ([25], [25]), ([26, 27, 25, 25], [25, 26, 27]), ([25, 28], [25, 28]), ([29, 28, 0, 1, 2, 3, 4, 5, 6, 7, 8, 9, 10, 11, 12, 13, 14, 15, 16, 17, 18, 19, 20, 21, 22, 23, 24, 25, 26, 27, 28, 29], [29])])
def sm.B5 : List Nat := [0, 1, 3, 7, 15, 31, 63, 127, 255, 511, 1023, 2047, 4095, 8191, 16383, 32767, 65535, 32767, 262143, 524287, 1048575, 2097151, 4194303, 8388607, 16777215, 33554431, 67108863, 67108863, 268435455, 536870911, 1073741823]
theorem sm.tab5 : rtab .any (opsOf Try.f7 5) = sm.T5 := by kernel_rfl
theorem sm.bits5 : waitsOk sm.T5.2 sm.B5 = true := by kernel_rfl
set_option maxHeartbeats 8000000 in
set_option maxRecDepth 100000 in
theorem _root_.Go.Proofs.Ytmhikecbajkonaa.Q.gradinelaw25_same.calls (w : World) : Calls Try.prog 7 #[] w fun e w' => e = .returned (.bool true) ∧ Below w.heap.size w w' := by
 have hu80 := Try.underlying80
 have hu25 := Try.underlying25
 have hu43 := Try.underlying43
 have hu68 := Try.underlying68
 have HB := aM (Below.refl w.heap.size w)
 go_enter Try.func7, Try.ntmps7
 go_upto_region 5 with (first | ((with_reducible refine gate_dst (N := 9) rfl ?_); refine lit ?hg (N := 9) ?hd (cs := #[.int .i64 2, .int .i64 2]) (t := 3) (n := 2) ?hr ?_; (case hd => rfl); (case hg => rfl); (case hr => first | (go_simp; done) | (go_simp; rfl)); intro l9 hg w_l9 hbox hb; have L9 := aM hbox; replace HB := bS (qB HB) hb; clear hg hbox hb) | ((with_reducible refine gate_callee (f := 25) rfl ?_); refine goesL_ (some 10) rfl rfl Try.func25 (by kernel_rfl) rfl #[.int .u64 1, .int .u64 2, .int .u64 3, .int .u64 4] rfl pA ?_; (with_reducible refine (sm_vals 1 2 3 4 _).mono ?_); rintro e w_aa ⟨aaA, aac, rfl, hS, hb⟩; refine ⟨_, rfl, ?_⟩; have aaS := aM hS; replace L9 := bK L9 hb; replace HB := bS (qB HB) hb; clear hS hb) | ((with_reducible refine gate_callee (f := 8) rfl ?_); refine goesL_ (some 12) rfl rfl Try.func8 (by kernel_rfl) rfl #[.agg #[.slice (some ⟨l9, 0, none⟩) 2 2, .slice aaA 4 aac]] rfl pA ?_; (with_reducible refine (sm_new l9 aaA aac w _ L9.out (sm_C rfl aaS.out).1 (sm_C rfl aaS.out).2 (qB HB)).mono ?_); rintro e w_n ⟨gt, gs, gr, c, rfl, hsm⟩; refine ⟨_, rfl, ?_⟩; have SM := aM hsm; clear hsm HB L9 aaS) | ((with_reducible refine gate_dst (N := 17) rfl ?_); refine lit ?hg (N := 17) ?hd (cs := #[.int .i64 2, .int .i64 2]) (t := 3) (n := 2) ?hr ?_; (case hd => rfl); (case hg => rfl); (case hr => first | (go_simp; done) | (go_simp; rfl)); intro l7 hg w_l7 hbox hb; have L7 := aM hbox; replace SM := aM (Sm.step (by first | exact SM.out | exact SM.out.step (by repeat (first | exact Below.refl _ _ | apply below_alloc | apply pw_below_drewN | apply below_drew1))) hb); clear hg hbox hb) | ((with_reducible refine gate_dst (N := 18) rfl ?_); refine lit ?hg (N := 18) ?hd (cs := #[.int .i64 1, .int .i64 2]) (t := 3) (n := 2) ?hr ?_; (case hd => rfl); (case hg => rfl); (case hr => first | (go_simp; done) | (go_simp; rfl)); intro l8 hg w_l8 hbox hb; have L8 := aM hbox; replace L7 := bK L7 hb; replace SM := aM (Sm.step (by first | exact SM.out | exact SM.out.step (by repeat (first | exact Below.refl _ _ | apply below_alloc | apply pw_below_drewN | apply below_drew1))) hb); clear hg hbox hb) | ((with_reducible refine gate_callee (f := 12) rfl ?_); refine goesL_ (some 20) rfl rfl Try.func12 (by kernel_rfl) rfl #[.pointer (some ⟨gt, 0, none⟩), .agg #[.int .i64 0, .slice (some ⟨l7, 0, none⟩) 2 2, .slice (some ⟨l8, 0, none⟩) 2 2]] rfl pA ?_; (with_reducible refine (sm_share gt gs gr c l7 l8 La 0 w _ SM.out L7.out L8.out).mono ?_); rintro e w_s ⟨gu, rfl, hT, hsm⟩; refine ⟨_, rfl, ?_⟩; clear SM L7 L8; have SM := aM hsm; have TU := aM hT; clear hsm hT) | ((with_reducible refine gate_callee (f := 25) rfl ?_); refine goesL_ (some 24) rfl rfl Try.func25 (by kernel_rfl) rfl #[.int .u64 5, .int .u64 6, .int .u64 7, .int .u64 8] rfl pA ?_; (with_reducible refine (sm_vals 5 6 7 8 _).mono ?_); rintro e w_bb ⟨bbA, bbc, rfl, hS, hb⟩; refine ⟨_, rfl, ?_⟩; have bbS := aM hS; have LT := aM (And.intro (blk_lt SM.out.st) (Kd.S_lt SM.out.row gr (by simp [Value.ownBlock]))); replace TU := aM (TU.out.below hb); replace SM := aM (Sm.step (by first | exact SM.out | exact SM.out.step (by repeat (first | exact Below.refl _ _ | apply below_alloc | apply pw_below_drewN | apply below_drew1))) hb); clear hS hb) | ((with_reducible refine gate_callee (f := 16) rfl ?_); refine goesL_ (some 25) rfl rfl Try.func16 (by kernel_rfl) rfl #[.pointer (some ⟨gu, 0, none⟩), .slice bbA 4 bbc] rfl pA ?_; (with_reducible refine (sm_write gt gu gs gr c bbA bbc w _ _ SM.out TU.out bbS.out LT.out.1 LT.out.2).mono ?_); rintro e w_w ⟨rfl, hT, hsm⟩; refine ⟨_, rfl, ?_⟩; clear SM TU bbS LT; have SM := aM hsm; have TU := aM hT; clear hsm hT) | ((with_reducible refine gate_callee (f := 22) rfl ?_); refine goesL_ (some 28) rfl rfl Try.func22 (by kernel_rfl) rfl #[.pointer (some ⟨gt, 0, none⟩)] rfl pA ?_; (with_reducible refine (sm_read gt gs gr c w _ SM.out).mono ?_); rintro e w_r ⟨xA, xc, yA, yc, rfl, hS, hb⟩; refine ⟨_, rfl, ?_⟩; have yS := aM hS; replace TU := aM (TU.out.below hb); replace SM := aM (Sm.step (by first | exact SM.out | exact SM.out.step (by repeat (first | exact Below.refl _ _ | apply below_alloc | apply pw_below_drewN | apply below_drew1))) hb); clear hS hb) | ((with_reducible refine gate_dst (N := 6) rfl ?_); refine box_event ?hg (N := 6) ?hd (cs := #[.slice none 0 0, .slice none 0 0]) (t := 25) ?hr ?_; (case hd => rfl); (case hg => rfl); (case hr => first | (go_simp; done) | (go_simp; rfl)); intro ga hg_ w_a hbox hb; have BA := aM hbox; have GA := aM (Nat.le_of_eq hg_.symm); have HBr := aM hb; have hczs := blk2 BA.out; clear hb hbox hg_))
 clear hczs
 have BB := aM (blk_put (cs := #[.slice xA 2 xc, .slice none 0 0]) (blk_put (cs := #[.slice none 0 0, .slice none 0 0]) BA.out 0 (.slice xA 2 xc) rfl) 1 (.slice yA 4 yc) rfl)
 have HR := aM (below_drew1 (below_set (j := 1) (v := .slice yA 4 yc) (below_set (j := 0) (v := .slice xA 2 xc) HBr.out GA.out) GA.out))
 replace SM := aM (SM.out.step HR.out)
 replace TU := aM (TU.out.below HR.out)
 replace yS := aM (Kd.S_below yS.out HR.out)
 replace BB := aM (bD BB.out)
 clear HBr GA BA HR
 generalize ((w_a.setCell ⟨ga, 0, none⟩ (.slice xA 2 xc)).setCell ⟨ga, 1, none⟩ (.slice yA 4 yc)) = w_b at SM TU yS BB ⊢
 refine start_ (n := 31) (S := fun w' => w'.cell? ⟨ga, 1, none⟩ = some (.slice yA 4 yc)) (ds := []) (bm 31 0) (by kernel_rfl) rfl rfl ((blk_cell BB.out 1).trans rfl) (fun hHeld => ?_); refine with_tabW sm.tab5 sm.bits5 (fun HT_ HW_ => ?_)
 refine pP (i := 0) (N := some 31) (bm 31 1) rfl rfl HT_.out ?_
 refine pP (i := 1) (N := some 32) (bm 31 3) rfl rfl HT_.out ?_
 refine pP (i := 2) (N := some 33) (bm 31 7) rfl rfl HT_.out ?_
 refine pP (i := 3) (N := some 34) (bm 31 15) rfl rfl HT_.out ?_
 refine pP (i := 4) (N := some 35) (bm 31 31) rfl rfl HT_.out ?_
 refine pP (i := 5) (N := some 36) (bm 31 63) rfl rfl HT_.out ?_
 refine pP (i := 6) (N := some 37) (bm 31 127) rfl rfl HT_.out ?_
 refine pP (i := 7) (N := some 38) (bm 31 255) rfl rfl HT_.out ?_
 refine pP (i := 8) (N := some 39) (bm 31 511) rfl rfl HT_.out ?_
 refine pP (i := 9) (N := some 40) (bm 31 1023) rfl rfl HT_.out ?_
 refine pP (i := 10) (N := some 41) (bm 31 2047) rfl rfl HT_.out ?_
 refine pP (i := 11) (N := some 42) (bm 31 4095) rfl rfl HT_.out ?_
 refine pP (i := 12) (N := some 43) (bm 31 8191) rfl rfl HT_.out ?_
 refine pP (i := 13) (N := some 44) (bm 31 16383) rfl rfl HT_.out ?_
 refine pP (i := 14) (N := some 45) (bm 31 32767) rfl rfl HT_.out ?_
 refine pP (i := 15) (N := some 46) (bm 31 65535) rfl rfl HT_.out ?_
 refine pT (i := 16) (N := some 47) (bm 31 131071) rfl rfl HT_.out HW_.out hHeld (by rintro w' s0; go_simp; with_reducible rfl) ?_
 refine one_ (i := 17) (N := some 48) (bm 31 262143) rfl rfl (one_of HT_.out (by kernel_rfl)) (by decide) (fun K hK => ?_)
 refine goes_ Try.func25 (by kernel_rfl) rfl #[.int .u64 5, .int .u64 7, .int .u64 6, .int .u64 8] (by rfl) rfl rfl pA ?_
 with_reducible refine (sm_vals 5 7 6 8 _).mono ?_
 rintro e w_c ⟨zA, zc, rfl, hS, hb⟩
 refine ⟨_, rfl, ?_⟩
 replace SM := aM (SM.out.step hb)
 replace TU := aM (TU.out.below hb)
 replace yS := aM (Kd.S_below yS.out hb)
 replace BB := bK BB hb
 have zS := aM hS
 clear hS hb
 refine hK.out _ _ ((blk_cell BB.out 1).trans rfl) (fun hHeld => ?_)
 clear hK K
 refine norm_ (a' := ?_) ?_ ?_
 rotate_left
 ·show Act.put _ (some 48) _ = _
  simp only [Act.put, sP, i64_w, i32_w]
  rfl
 refine one_ (i := 18) (N := some 49) (bm 31 524287) rfl rfl (one_of HT_.out (by kernel_rfl)) (by decide) (fun K hK => ?_)
 refine goes_ Try.func26 (by kernel_rfl) rfl #[.slice yA 4 yc, .slice zA 4 zc] (by rfl) rfl rfl pA ?_
 with_reducible refine (sm_all yA yc zA zc _ (sm_C rfl yS.out).1 (sm_C rfl yS.out).2 (sm_C rfl zS.out).1 (sm_C rfl zS.out).2).mono ?_
 rintro e w_d ⟨rfl, hb⟩
 refine ⟨_, rfl, ?_⟩
 replace SM := aM (SM.out.step hb)
 replace TU := aM (TU.out.below hb)
 replace yS := aM (Kd.S_below yS.out hb)
 replace BB := bK BB hb
 clear zS hb
 refine hK.out _ _ ((blk_cell BB.out 1).trans rfl) (fun hHeld => ?_)
 clear hK K
 refine norm_ (a' := ?_) ?_ ?_
 rotate_left
 ·show Act.put _ (some 49) _ = _
  simp only [Act.put, sP, i64_w, i32_w]
  rfl
 refine pP (i := 19) (N := some 50) (bm 31 1048575) rfl rfl HT_.out ?_
 refine pP (i := 20) (N := some 51) (bm 31 2097151) rfl rfl HT_.out ?_
 refine pP (i := 21) (N := some 52) (bm 31 4194303) rfl rfl HT_.out ?_
 refine one_ (i := 22) (N := some 53) (bm 31 8388607) rfl rfl (one_of HT_.out (by kernel_rfl)) (by decide) (fun K hK => ?_)
 refine goes_ Try.func23 (by kernel_rfl) rfl #[.pointer (some ⟨gt, 0, none⟩)] (by rfl) rfl rfl pA ?_
 with_reducible refine (times w.heap.size gt gs 0 [2, 2] [2, 1] _ 1 _ SM.out.t SM.out.st).mono ?_
 rintro e w_e ⟨rfl, hb⟩
 refine ⟨_, rfl, ?_⟩
 replace SM := aM (SM.out.step hb)
 replace TU := aM (TU.out.below hb)
 replace yS := aM (Kd.S_below yS.out hb)
 replace BB := bK BB hb
 clear hb
 refine hK.out _ _ ((blk_cell BB.out 1).trans rfl) (fun hHeld => ?_)
 clear hK K
 refine norm_ (a' := ?_) ?_ ?_
 rotate_left
 ·show Act.put _ (some 53) _ = _
  simp only [Act.put, sP, i64_w, i32_w]
  rfl
 refine pP (i := 23) (N := some 54) (bm 31 16777215) rfl rfl HT_.out ?_
 refine pP (i := 24) (N := some 55) (bm 31 33554431) rfl rfl HT_.out ?_
 refine pP (i := 25) (N := some 56) (bm 31 67108863) rfl rfl HT_.out ?_
 refine pP (i := 26) (N := some 57) (bm 31 134217727) rfl rfl HT_.out ?_
 refine pP (i := 27) (N := some 58) (bm 31 268435455) rfl rfl HT_.out ?_
 refine one_ (i := 28) (N := some 59) (bm 31 536870911) rfl rfl (one_of HT_.out (by kernel_rfl)) (by decide) (fun K hK => ?_)
 refine goes_ Try.func14 (by kernel_rfl) rfl #[.pointer (some ⟨gt, 0, none⟩), .pointer (some ⟨gu, 0, none⟩)] (by rfl) rfl rfl pA ?_
 with_reducible refine (sm_meets gt gu gs gr c Lc 1 w _ SM.out TU.out).mono ?_
 rintro e w_f ⟨rfl, hb⟩
 refine ⟨_, rfl, ?_⟩
 replace SM := aM (SM.out.step hb)
 replace TU := aM (TU.out.below hb)
 replace yS := aM (Kd.S_below yS.out hb)
 replace BB := bK BB hb
 clear hb
 refine hK.out _ _ ((blk_cell BB.out 1).trans rfl) (fun hHeld => ?_)
 clear hK K
 refine norm_ (a' := ?_) ?_ ?_
 rotate_left
 ·show Act.put _ (some 59) _ = _
  simp only [Act.put, sP, i64_w, i32_w]
  rfl
 refine pP (i := 29) (N := some 60) (bm 31 1073741823) rfl rfl HT_.out ?_
 refine pP (i := 30) (N := some 0) (bm 31 2147483647) rfl rfl HT_.out ?_
 refine done_ (done_of HT_.out (by kernel_rfl)) ?_
 clear hHeld HT_ HW_
 go_wp2
 go_ret
 exact ⟨pE, SM.out.bel⟩
end Tn
end Go.Proofs.Ytmhikecbajkonaa.Q
namespace Go.Proofs.Ytmhikecbajkonaa.Q
open Go.RowKit Go.Proofs.YtmhikecbajkonaaW.PrintWords Go.Proofs.YtmhikecbajkonaaW.PrintLast Go.Proofs.YtmhikecbajkonaaW.PrintMore
attribute [local go_sem] max2_int min2_int max_two min_two max_three min_three max_four min_four
set_option linter.unusedVariables false
set_option linter.unusedSimpArgs false
namespace Tn
theorem xC {w : World} {g t : Nat} {A1 : Option Addr} {c1 : Nat} {l1 : List Int} {A2 : Option Addr} {c2 : Nat} {l2 : List S80} (h : w.heap[g]? = some (.cells #[.slice A1 l1.length c1, .slice A2 l2.length c2] t (0, 0))) (hc1 : l1.length ≤ c1) (hr1 : Kd.C (Kd.int .i64) w A1 l1.length l1) (hc2 : l2.length ≤ c2) (hr2 : Kd.C k80 w A2 l2.length l2) : Kd.C k25 w (some ⟨g, 0, none⟩) 1 [(⟨l1, l2⟩ : S25)] := by
  refine ⟨rfl, by simp, fun _ => ⟨_, rfl, fun j p hj => ?_⟩⟩
  match j with
  | 0 =>
    obtain rfl : (⟨l1, l2⟩ : S25) = p := by simpa using hj
    refine ⟨_, rfl, k25_mk w ⟨l1, l2⟩ hc1 hr1 hc2 hr2, fun i u hu => ?_⟩
    match i with
    | 0 => obtain rfl := Option.some.inj hu; exact (blk_cell h 0).trans rfl
    | 1 => obtain rfl := Option.some.inj hu; exact (blk_cell h 1).trans rfl
    | i + 2 => simp at hu
  | j + 1 => simp at hj
theorem args1 (A : Option Addr) (x : S25) (r : Bool) (w : World) (h0 : Kd.C k25 w A 1 [x]) (h : gradineplain_Args.f 200 [x] = some r) : Calls Try.prog 5 #[.slice A 1 1] w fun e w' => e = .returned (.bool r) ∧ Below w.heap.size w w' := gradineplain_Args.calls 200 A 1 [x] r w h0 (Nat.le_refl _) h
theorem args_f (d : List Int) (l : List S80) : ∃ b, gradineplain_Args.f 200 [(⟨d, l⟩ : S25)] = some b ∧ (b = false → d.length ≤ 20 ∧ l.length ≤ 100 ∧ ∀ x ∈ l, St.sw x) := by
  have e1 : wrap64 ((0 : Int) + 1) = 1 := w64o (by omega) (by omega)
  have e2 : gradineplain_Args.l0 199 [(⟨d, l⟩ : S25)] 1 1 = some false := by rw [gradineplain_Args.l0]; rfl
  show ∃ b, gradineplain_Args.l0 (199 + 1) [(⟨d, l⟩ : S25)] 1 0 = some b ∧ _
  rw [gradineplain_Args.l0, if_pos (by omega), if_pos (by omega), if_pos (by simp), e1, e2]
  by_cases c1 : (d.length : Int) > 20
  · exact ⟨true, if_pos c1, fun h => by cases h⟩
  by_cases c2 : (l.length : Int) > 100
  · exact ⟨true, (if_neg c1).trans (if_pos c2), fun h => by cases h⟩
  obtain ⟨b, h1, h2⟩ := St.wide_f (l := l) 199 (by omega) (by omega)
  refine ⟨b, (if_neg c1).trans ((if_neg c2).trans ?_), fun h => ⟨by omega, by omega, h2 h⟩⟩
  show (gradineplain_Wide.f 199 l 9).bind _ = _
  rw [h1]
  cases b <;> rfl
theorem many22 (o : Int) (d s : List Int) : ∃ b, gradinelaw22_Many.f o d s = some b ∧ (b = false → d.length ≤ 20 ∧ s.length ≤ 20) := by
  unfold gradinelaw22_Many.f
  by_cases c1 : (d.length : Int) > 20
  · exact ⟨true, if_pos c1, fun h => by cases h⟩
  · rw [if_neg c1]
    exact ⟨_, rfl, fun h => ⟨by omega, by have := of_decide_eq_false h; omega⟩⟩
/-- With New's error at hand: what it answers to any arguments that aren't a tensor's. -/
theorem new_no (A0 : Option Addr) (c0 : Nat) (d : List Int) (A1 : Option Addr) (c1 : Nat) (l : List S80) (r : Int) (w : World) (hd : Kd.C (Kd.int .i64) w A0 d.length d) (hcd : d.length ≤ c0) (h : shape_Check.f d = some r ∧ r ≠ 0 ∨ r = 1 ∧ shape_Check.f d = some 0 ∧ ∃ k n, shape_Count.f k d = some n ∧ (l.length : Int) ≠ n) : Calls Try.prog 8 #[.agg #[.slice A0 d.length c0, .slice A1 l.length c1]] w fun e w' => e = .returned (.tuple #[.pointer none, .int .i64 r]) ∧ Below w.heap.size w w' := by
  rcases h with ⟨h1, h2⟩ | ⟨rfl, h1, k, n, h2, h3⟩
  · exact new_bad1 A0 c0 d A1 c1 l r w hd hcd h1 h2
  · exact new_bad2 k A0 c0 d A1 c1 l n w hd hcd h1 h2 h3
set_option maxHeartbeats 8000000 in
set_option maxRecDepth 100000 in
theorem nil_A (W : World) (A0 : Option Addr) (c0 : Nat) (d : List Int) (hr0 : Kd.C (Kd.int .i64) W A0 d.length d) (hc0 : d.length ≤ c0) (A1 : Option Addr) (c1 : Nat) (l : List S80) (hr1 : Kd.C k80 W A1 l.length l) (hc1 : l.length ≤ c1) (o : Int) (A2 : Option Addr) (c2 : Nat) (dv : List Int) (hr2 : Kd.C (Kd.int .i64) W A2 dv.length dv) (hc2 : dv.length ≤ c2) (A3 : Option Addr) (c3 : Nat) (sv : List Int) (hr3 : Kd.C (Kd.int .i64) W A3 sv.length sv) (hc3 : sv.length ≤ c3) (ha : gradineplain_Args.f 200 [(⟨d, l⟩ : S25)] = some true) :
  Calls Try.prog 4 #[.agg #[.slice A0 d.length c0, .slice A1 l.length c1], .agg #[.int .i64 o, .slice A2 dv.length c2, .slice A3 sv.length c3]] W fun e W' => e = .returned (.bool true) ∧ Below W.heap.size W W' := by
 have AW := aM ha
 clear ha
 have hu25 := Try.underlying25
 have hu43 := Try.underlying43
 have hu68 := Try.underlying68
 have HR0 := aM (And.intro hr0 hc0)
 have HR1 := aM (And.intro hr1 hc1)
 have HR2 := aM (And.intro hr2 hc2)
 have HR3 := aM (And.intro hr3 hc3)
 clear hr0 hc0 hr1 hc1 hr2 hc2 hr3 hc3
 have HB := aM (Below.refl W.heap.size W)
 go_enter Try.func4, Try.ntmps4
 go_wp2_with (first | ((with_reducible refine gate_dst (N := 2) rfl ?_); refine box_event ?hg (N := 2) ?hd (cs := #[.slice A0 d.length c0, .slice A1 l.length c1]) (t := 25) ?hr ?_; (case hd => rfl); (case hg => rfl); (case hr => first | (go_simp; done) | (go_simp; rfl)); intro ga hg_ w2 hbox hb; have BA := aM hbox; have GA := gE (w := W) hg_ (qB HB); replace HB := bS (qB HB) hb; have hza := blk2 BA.out; clear hb hbox hg_) | ((with_reducible refine gate_dst (N := 3) rfl ?_); refine box_event ?hg (N := 3) ?hd (cs := #[.int .i64 o, .slice A2 dv.length c2, .slice A3 sv.length c3]) (t := 43) ?hr ?_; (case hd => rfl); (case hg => rfl); (case hr => first | (go_simp; done) | (go_simp; rfl)); intro gb hg_ w3 hbox hb; have BV := aM hbox; replace BA := bK BA hb; replace HB := bS (qB HB) hb; replace hza := blk2 BA.out; have hzb := blk3 BV.out; clear hb hbox hg_) | ((with_reducible refine gate_dst (N := 16) rfl ?_); refine lit ?hg (N := 16) ?hd (cs := #[.slice A0 d.length c0, .slice A1 l.length c1]) (t := 25) (n := 1) ?hr ?_; (case hd => rfl); (case hg => rfl); (case hr => first | (go_simp; done) | (go_simp; rfl)); intro lx hg w_lx hbox hb; have LX := aM hbox; replace BA := bK BA hb; replace BV := bK BV hb; replace HB := bS (qB HB) hb; replace hza := blk2 BA.out; replace hzb := blk3 BV.out; clear hg hbox hb) | (go_at_call 5; (with_reducible refine (args1 _ (⟨d, l⟩ : S25) true _ (xC LX.out HR0.out.2 (Kd.C_below HR0.out.1 (qB HB)) HR1.out.2 (Kd.C_below HR1.out.1 (qB HB))) AW.out).mono ?_); rintro e w6 ⟨rfl, hb⟩; replace BA := bK BA hb; replace BV := bK BV hb; replace HB := bS (qB HB) hb; replace hza := blk2 BA.out; replace hzb := blk3 BV.out; clear hb LX) | (go_at_call 7; (with_reducible refine (gradinelaw25_same.calls _).mono ?_); rintro e w8 ⟨rfl, hb⟩; replace HB := bS (qB HB) hb; clear hb))
 go_ret
 exact ⟨pE, qB HB⟩
set_option maxHeartbeats 8000000 in
set_option maxRecDepth 100000 in
theorem nil_B (W : World) (A0 : Option Addr) (c0 : Nat) (d : List Int) (hr0 : Kd.C (Kd.int .i64) W A0 d.length d) (hc0 : d.length ≤ c0) (A1 : Option Addr) (c1 : Nat) (l : List S80) (hr1 : Kd.C k80 W A1 l.length l) (hc1 : l.length ≤ c1) (o : Int) (A2 : Option Addr) (c2 : Nat) (dv : List Int) (hr2 : Kd.C (Kd.int .i64) W A2 dv.length dv) (hc2 : dv.length ≤ c2) (A3 : Option Addr) (c3 : Nat) (sv : List Int) (hr3 : Kd.C (Kd.int .i64) W A3 sv.length sv) (hc3 : sv.length ≤ c3) (ha : gradineplain_Args.f 200 [(⟨d, l⟩ : S25)] = some false) (hm : gradinelaw22_Many.f o dv sv = some true) :
  Calls Try.prog 4 #[.agg #[.slice A0 d.length c0, .slice A1 l.length c1], .agg #[.int .i64 o, .slice A2 dv.length c2, .slice A3 sv.length c3]] W fun e W' => e = .returned (.bool true) ∧ Below W.heap.size W W' := by
 have AW := aM ha
 have AM := aM hm
 clear ha hm
 have hu25 := Try.underlying25
 have hu43 := Try.underlying43
 have hu68 := Try.underlying68
 have HR0 := aM (And.intro hr0 hc0)
 have HR1 := aM (And.intro hr1 hc1)
 have HR2 := aM (And.intro hr2 hc2)
 have HR3 := aM (And.intro hr3 hc3)
 clear hr0 hc0 hr1 hc1 hr2 hc2 hr3 hc3
 have HB := aM (Below.refl W.heap.size W)
 go_enter Try.func4, Try.ntmps4
 go_wp2_with (first | ((with_reducible refine gate_dst (N := 2) rfl ?_); refine box_event ?hg (N := 2) ?hd (cs := #[.slice A0 d.length c0, .slice A1 l.length c1]) (t := 25) ?hr ?_; (case hd => rfl); (case hg => rfl); (case hr => first | (go_simp; done) | (go_simp; rfl)); intro ga hg_ w2 hbox hb; have BA := aM hbox; have GA := gE (w := W) hg_ (qB HB); replace HB := bS (qB HB) hb; have hza := blk2 BA.out; clear hb hbox hg_) | ((with_reducible refine gate_dst (N := 3) rfl ?_); refine box_event ?hg (N := 3) ?hd (cs := #[.int .i64 o, .slice A2 dv.length c2, .slice A3 sv.length c3]) (t := 43) ?hr ?_; (case hd => rfl); (case hg => rfl); (case hr => first | (go_simp; done) | (go_simp; rfl)); intro gb hg_ w3 hbox hb; have BV := aM hbox; replace BA := bK BA hb; replace HB := bS (qB HB) hb; replace hza := blk2 BA.out; have hzb := blk3 BV.out; clear hb hbox hg_) | ((with_reducible refine gate_dst (N := 16) rfl ?_); refine lit ?hg (N := 16) ?hd (cs := #[.slice A0 d.length c0, .slice A1 l.length c1]) (t := 25) (n := 1) ?hr ?_; (case hd => rfl); (case hg => rfl); (case hr => first | (go_simp; done) | (go_simp; rfl)); intro lx hg w_lx hbox hb; have LX := aM hbox; replace BA := bK BA hb; replace BV := bK BV hb; replace HB := bS (qB HB) hb; replace hza := blk2 BA.out; replace hzb := blk3 BV.out; clear hg hbox hb) | (go_at_call 5; (with_reducible refine (args1 _ (⟨d, l⟩ : S25) false _ (xC LX.out HR0.out.2 (Kd.C_below HR0.out.1 (qB HB)) HR1.out.2 (Kd.C_below HR1.out.1 (qB HB))) AW.out).mono ?_); rintro e w6 ⟨rfl, hb⟩; replace BA := bK BA hb; replace BV := bK BV hb; replace HB := bS (qB HB) hb; replace hza := blk2 BA.out; replace hzb := blk3 BV.out; clear hb LX) | (go_at_call 21; (with_reducible refine (gradinelaw22_Many.calls o A2 c2 dv A3 c3 sv true _ (Kd.C_below HR2.out.1 (qB HB)) HR2.out.2 (Kd.C_below HR3.out.1 (qB HB)) HR3.out.2 AM.out).mono ?_); rintro e w7 ⟨rfl, hb⟩; replace BA := bK BA hb; replace BV := bK BV hb; replace HB := bS (qB HB) hb; replace hza := blk2 BA.out; replace hzb := blk3 BV.out; clear hb) | (go_at_call 7; (with_reducible refine (gradinelaw25_same.calls _).mono ?_); rintro e w8 ⟨rfl, hb⟩; replace HB := bS (qB HB) hb; clear hb))
 go_ret
 exact ⟨pE, qB HB⟩
def tn.T7 : Bool × List (List Nat × List Nat) := (true, [([], []), ([0], [0]), ([1], [1]), ([2], [2]), ([3, 2], [2, 3]), ([2, 4], [2, 4]), ([5, 2], [5]), ([6], [6]), ([7, 6], [6, 7]), ([6, 8], [6, 8]), ([9, 6], [9]), ([10], [10]), ([11, 10], [10, 11]), ([12, 10], [10, 12]), ([10], [10]), ([14, 10], [10, 14]), ([15, 10], [10, 15]), ([13, 16, 10], [10, 13, 16]), ([10], [10]), ([18, 10], [10, 18]), ([19, 10], [10, 19]), ([17, 20, 10], [10, 17, 20]), ([10], [10]), ([22, 10], [10, 22]), ([23, 10], [10, 23]), ([21, 24, 10], [10, 21, 24]), ([10], [10]), ([26, 10], [10, 26]), ([25, 27, 10], [10, 25, 27]), ([10], [10]), ([29, 10, 10], [10, 29]), ([28, 30, 10], [10, 28, 30]), ([31, 10], [10, 31]), ([10, 32], [10, 32])])
def tn.B7 : List Nat := [0, 1, 3, 7, 15, 31, 63, 127, 255, 511, 1023, 2047, 4095, 8191, 2047, 18431, 51199, 131071, 2047, 264191, 788479, 2097151, 2047, 4196351, 12584959, 33554431, 2047, 67110911, 268435455, 2047, 536872959, 2147483647, 4294967295, 8589934591]
theorem tn.tab7 : rtab .any (opsOf Try.f4 7) = tn.T7 := by kernel_rfl
theorem tn.bits7 : waitsOk tn.T7.2 tn.B7 = true := by kernel_rfl
set_option maxHeartbeats 8000000 in
set_option maxRecDepth 100000 in
theorem nil_C (W : World) (A0 : Option Addr) (c0 : Nat) (d : List Int) (hr0 : Kd.C (Kd.int .i64) W A0 d.length d) (hc0 : d.length ≤ c0) (A1 : Option Addr) (c1 : Nat) (l : List S80) (hr1 : Kd.C k80 W A1 l.length l) (hc1 : l.length ≤ c1) (o : Int) (A2 : Option Addr) (c2 : Nat) (dv : List Int) (hr2 : Kd.C (Kd.int .i64) W A2 dv.length dv) (hc2 : dv.length ≤ c2) (A3 : Option Addr) (c3 : Nat) (sv : List Int) (hr3 : Kd.C (Kd.int .i64) W A3 sv.length sv) (hc3 : sv.length ≤ c3) (ha : gradineplain_Args.f 200 [(⟨d, l⟩ : S25)] = some false) (hm : gradinelaw22_Many.f o dv sv = some false) (r : Int) (h : shape_Check.f d = some r ∧ r ≠ 0 ∨ r = 1 ∧ shape_Check.f d = some 0 ∧ ∃ k n, shape_Count.f k d = some n ∧ (l.length : Int) ≠ n) :
  Calls Try.prog 4 #[.agg #[.slice A0 d.length c0, .slice A1 l.length c1], .agg #[.int .i64 o, .slice A2 dv.length c2, .slice A3 sv.length c3]] W fun e W' => e = .returned (.bool true) ∧ Below W.heap.size W W' := by
 have AW := aM ha
 have AM := aM hm
 clear ha hm
 have HE := aM h
 have hr : r ≠ 0 := by rcases h with h | h; exact h.2; rw [h.1]; decide
 have r1 : (r != r) = false := bne_self_eq_false r
 have r2 : (r == 0) = false := beq_eq_false_iff_ne.mpr hr
 have r3 : decide (r = 0) = false := decide_eq_false hr
 have r4 : (r == r) = true := beq_self_eq_true r
 clear h hr
 have hu25 := Try.underlying25
 have hu43 := Try.underlying43
 have hu68 := Try.underlying68
 have HR0 := aM (And.intro hr0 hc0)
 have HR1 := aM (And.intro hr1 hc1)
 have HR2 := aM (And.intro hr2 hc2)
 have HR3 := aM (And.intro hr3 hc3)
 clear hr0 hc0 hr1 hc1 hr2 hc2 hr3 hc3
 have HB := aM (Below.refl W.heap.size W)
 go_enter Try.func4, Try.ntmps4
 go_upto_region 5 with (first | ((with_reducible refine gate_dst (N := 2) rfl ?_); refine box_event ?hg (N := 2) ?hd (cs := #[.slice A0 d.length c0, .slice A1 l.length c1]) (t := 25) ?hr ?_; (case hd => rfl); (case hg => rfl); (case hr => first | (go_simp; done) | (go_simp; rfl)); intro ga hg_ w2 hbox hb; have BA := aM hbox; have GA := gE (w := W) hg_ (qB HB); replace HB := bS (qB HB) hb; have hza := blk2 BA.out; clear hb hbox hg_) | ((with_reducible refine gate_dst (N := 3) rfl ?_); refine box_event ?hg (N := 3) ?hd (cs := #[.int .i64 o, .slice A2 dv.length c2, .slice A3 sv.length c3]) (t := 43) ?hr ?_; (case hd => rfl); (case hg => rfl); (case hr => first | (go_simp; done) | (go_simp; rfl)); intro gb hg_ w3 hbox hb; have BV := aM hbox; replace BA := bK BA hb; replace HB := bS (qB HB) hb; replace hza := blk2 BA.out; have hzb := blk3 BV.out; clear hb hbox hg_) | ((with_reducible refine gate_dst (N := 16) rfl ?_); refine lit ?hg (N := 16) ?hd (cs := #[.slice A0 d.length c0, .slice A1 l.length c1]) (t := 25) (n := 1) ?hr ?_; (case hd => rfl); (case hg => rfl); (case hr => first | (go_simp; done) | (go_simp; rfl)); intro lx hg w_lx hbox hb; have LX := aM hbox; replace BA := bK BA hb; replace BV := bK BV hb; replace HB := bS (qB HB) hb; replace hza := blk2 BA.out; replace hzb := blk3 BV.out; clear hg hbox hb) | (go_at_call 5; (with_reducible refine (args1 _ (⟨d, l⟩ : S25) false _ (xC LX.out HR0.out.2 (Kd.C_below HR0.out.1 (qB HB)) HR1.out.2 (Kd.C_below HR1.out.1 (qB HB))) AW.out).mono ?_); rintro e w6 ⟨rfl, hb⟩; replace BA := bK BA hb; replace BV := bK BV hb; replace HB := bS (qB HB) hb; replace hza := blk2 BA.out; replace hzb := blk3 BV.out; clear hb LX) | (go_at_call 21; (with_reducible refine (gradinelaw22_Many.calls o A2 c2 dv A3 c3 sv false _ (Kd.C_below HR2.out.1 (qB HB)) HR2.out.2 (Kd.C_below HR3.out.1 (qB HB)) HR3.out.2 AM.out).mono ?_); rintro e w7 ⟨rfl, hb⟩; replace BA := bK BA hb; replace BV := bK BV hb; replace HB := bS (qB HB) hb; replace hza := blk2 BA.out; replace hzb := blk3 BV.out; clear hb) | (go_at_call 12; (with_reducible refine (share_nil o A2 c2 dv A3 c3 sv _).mono ?_); rintro e w10 ⟨rfl, hb⟩; replace BA := bK BA hb; replace BV := bK BV hb; replace HB := bS (qB HB) hb; replace hza := blk2 BA.out; replace hzb := blk3 BV.out; clear hb))
 clear hza hzb
 go_upto_region 6 with (first | (go_at_call 22; (with_reducible refine (read_nil _).mono ?_); rintro e w11 ⟨rfl, hb⟩; replace BA := bK BA hb; replace BV := bK BV hb; replace HB := bS (qB HB) hb; clear hb) | ((with_reducible refine gate_dst (N := 8) rfl ?_); refine box_event ?hg (N := 8) ?hd (cs := #[.slice none 0 0, .slice none 0 0]) (t := 25) ?hr ?_; (case hd => rfl); (case hg => rfl); (case hr => first | (go_simp; done) | (go_simp; rfl)); intro gc hg_ w12 hbox hb; have BC := aM hbox; have GC := gE (w := W) hg_ (qB HB); have LA := aM (And.intro (blk_lt BA.out) (Nat.le_of_eq hg_.symm)); replace BA := bK BA hb; replace BV := bK BV hb; replace HB := bS (qB HB) hb; have hzc := blk2 BC.out; clear hb hbox hg_))
 clear hzc
 replace BC := aM (blk_put (cs := #[.slice none 0 0, .slice none 0 0]) (blk_put (cs := #[.slice none 0 0, .slice none 0 0]) BC.out 0 (.slice none 0 0) rfl) 1 (.slice none 0 0) rfl)
 have NA := aM (show ga ≠ gc from fun e_ => by have := LA.out; omega)
 replace BA := aM (blk_far (p := ⟨gc, 1, none⟩) (blk_far (p := ⟨gc, 0, none⟩) BA.out NA.out (.slice none 0 0)) NA.out (.slice none 0 0))
 replace HB := aM (below_set (j := 1) (v := .slice none 0 0) (below_set (j := 0) (v := .slice none 0 0) HB.out GC.out) GC.out)
 clear BV LA NA
 generalize (w12.setCell ⟨gc, 0, none⟩ (.slice none 0 0)).setCell ⟨gc, 1, none⟩ (.slice none 0 0) = w20 at BA BC HB ⊢
 go_upto_region 7 with (first | (go_at_call 19; (with_reducible refine (view_nil _).mono ?_); rintro e w13 ⟨rfl, hb⟩; replace BA := bK BA hb; replace BC := bK BC hb; replace HB := bS (qB HB) hb; clear hb) | ((with_reducible refine gate_dst (N := 10) rfl ?_); refine box_event ?hg (N := 10) ?hd (cs := #[.int .i64 0, .slice none 0 0, .slice none 0 0]) (t := 43) ?hr ?_; (case hd => rfl); (case hg => rfl); (case hr => first | (go_simp; done) | (go_simp; rfl)); intro gd hg_ w14 hbox hb; have BD := aM hbox; have GD := gE (w := W) hg_ (qB HB); have LA := aM (And.intro (blk_lt BA.out) (And.intro (blk_lt BC.out) (Nat.le_of_eq hg_.symm))); replace BA := bK BA hb; replace BC := bK BC hb; replace HB := bS (qB HB) hb; have hzd := blk3 BD.out; clear hb hbox hg_))
 clear hzd
 replace BD := aM (P3 (u0 := .int .i64 0) (u1 := .slice none 0 0) (u2 := .slice none 0 0) BD)
 have NA := aM (show ga ≠ gd from fun e_ => by have := LA.out; omega)
 have NC := aM (show gc ≠ gd from fun e_ => by have := LA.out; omega)
 replace BA := aM (blk_far (p := ⟨gd, 2, none⟩) (blk_far (p := ⟨gd, 1, none⟩) (blk_far (p := ⟨gd, 0, none⟩) BA.out NA.out (.int .i64 0)) NA.out (.slice none 0 0)) NA.out (.slice none 0 0))
 replace BC := aM (blk_far (p := ⟨gd, 2, none⟩) (blk_far (p := ⟨gd, 1, none⟩) (blk_far (p := ⟨gd, 0, none⟩) BC.out NC.out (.int .i64 0)) NC.out (.slice none 0 0)) NC.out (.slice none 0 0))
 replace HB := aM (below_drew1 (below_set (j := 2) (v := .slice none 0 0) (below_set (j := 1) (v := .slice none 0 0) (below_set (j := 0) (v := .int .i64 0) HB.out GD.out) GD.out) GD.out))
 clear LA NA NC
 replace BA := aM (bD BA.out)
 replace BC := aM (bD BC.out)
 replace BD := aM (bD BD.out)
 generalize ((w14.setCell ⟨gd, 0, none⟩ (.int .i64 0)).setCell ⟨gd, 1, none⟩ (.slice none 0 0)).setCell ⟨gd, 2, none⟩ (.slice none 0 0) = w21 at BA BC BD HB ⊢
 have wz : wrap64 0 = 0 := w64o (by omega) (by omega)
 refine start_ (n := 34) (S := fun w' => w'.cell? ⟨gc, 0, none⟩ = some (.slice none 0 0) ∧ w'.cell? ⟨gc, 1, none⟩ = some (.slice none 0 0) ∧ w'.cell? ⟨gd, 0, none⟩ = some (.int .i64 0) ∧ w'.cell? ⟨gd, 1, none⟩ = some (.slice none 0 0) ∧ w'.cell? ⟨gd, 2, none⟩ = some (.slice none 0 0)) (ds := []) (bm 34 0) (by kernel_rfl) rfl rfl ⟨(blk2 BC.out).1, (blk2 BC.out).2.1, (blk3 BD.out).1, (blk3 BD.out).2.1, (blk3 BD.out).2.2.1⟩ (fun hHeld => ?_); refine with_tabW tn.tab7 tn.bits7 (fun HT_ HW_ => ?_)
 refine pP (i := 0) (N := some 36) (bm 34 1) rfl rfl HT_.out ?_
 refine pP (i := 1) (N := some 37) (bm 34 3) rfl rfl HT_.out ?_
 refine pP (i := 2) (N := some 38) (bm 34 7) rfl rfl HT_.out ?_
 refine pP (i := 3) (N := some 39) (bm 34 15) rfl rfl HT_.out ?_
 refine pP (i := 4) (N := some 40) (bm 34 31) rfl rfl HT_.out ?_
 refine pP (i := 5) (N := some 41) (bm 34 63) rfl rfl HT_.out ?_
 refine pP (i := 6) (N := some 42) (bm 34 127) rfl rfl HT_.out ?_
 refine pP (i := 7) (N := some 43) (bm 34 255) rfl rfl HT_.out ?_
 refine pP (i := 8) (N := some 44) (bm 34 511) rfl rfl HT_.out ?_
 refine pP (i := 9) (N := some 45) (bm 34 1023) rfl rfl HT_.out ?_
 refine pP (i := 10) (N := some 46) (bm 34 2047) rfl rfl HT_.out ?_
 refine pP (i := 11) (N := some 47) (bm 34 4095) rfl rfl HT_.out ?_
 refine pP (i := 14) (N := some 50) (bm 34 20479) rfl rfl HT_.out ?_
 refine pP (i := 18) (N := some 54) (bm 34 282623) rfl rfl HT_.out ?_
 refine pP (i := 22) (N := some 58) (bm 34 4476927) rfl rfl HT_.out ?_
 refine pP (i := 26) (N := some 62) (bm 34 71585791) rfl rfl HT_.out ?_
 refine pP (i := 29) (N := some 65) (bm 34 608456703) rfl rfl HT_.out ?_
 refine pT (i := 12) (N := some 48) (bm 34 608460799) rfl rfl HT_.out HW_.out hHeld (by rintro w' ⟨s0, s1, s2, s3, s4⟩; go_simp; with_reducible rfl) ?_
 refine pP (i := 13) (N := some 49) (bm 34 608468991) rfl rfl HT_.out ?_
 refine pT (i := 15) (N := some 51) (bm 34 608501759) rfl rfl HT_.out HW_.out hHeld (by rintro w' ⟨s0, s1, s2, s3, s4⟩; go_simp; with_reducible rfl) ?_
 refine pP (i := 16) (N := some 52) (bm 34 608567295) rfl rfl HT_.out ?_
 refine pP (i := 17) (N := some 53) (bm 34 608698367) rfl rfl HT_.out ?_
 refine pT (i := 19) (N := some 55) (bm 34 609222655) rfl rfl HT_.out HW_.out hHeld (by rintro w' ⟨s0, s1, s2, s3, s4⟩; go_simp; with_reducible rfl) ?_
 refine pP (i := 20) (N := some 56) (bm 34 610271231) rfl rfl HT_.out ?_
 refine pP (i := 21) (N := some 57) (bm 34 612368383) rfl rfl HT_.out ?_
 refine pT (i := 23) (N := some 59) (bm 34 620756991) rfl rfl HT_.out HW_.out hHeld (by rintro w' ⟨s0, s1, s2, s3, s4⟩; go_simp; with_reducible rfl) ?_
 refine pP (i := 24) (N := some 60) (bm 34 637534207) rfl rfl HT_.out ?_
 refine pP (i := 25) (N := some 61) (bm 34 671088639) rfl rfl HT_.out ?_
 refine pT (i := 27) (N := some 63) (bm 34 805306367) rfl rfl HT_.out HW_.out hHeld (by rintro w' ⟨s0, s1, s2, s3, s4⟩; go_simp; with_reducible rfl) ?_
 refine pP (i := 28) (N := some 64) (bm 34 1073741823) rfl rfl HT_.out ?_
 refine one_ (i := 30) (N := some 66) (bm 34 2147483647) rfl rfl (one_of HT_.out (by kernel_rfl)) (by decide) (fun K hK => ?_)
 refine goes_ Try.func23 (by kernel_rfl) rfl #[.pointer none] (by rfl) rfl rfl pA ?_
 with_reducible refine (times_nil _).mono ?_
 rintro e w22 ⟨rfl, hb⟩
 refine ⟨_, rfl, ?_⟩
 replace BA := bK BA hb
 replace BC := bK BC hb
 replace BD := bK BD hb
 replace HB := bS (qB HB) hb
 clear hb
 refine hK.out _ _ ⟨(blk2 BC.out).1, (blk2 BC.out).2.1, (blk3 BD.out).1, (blk3 BD.out).2.1, (blk3 BD.out).2.2.1⟩ (fun hHeld => ?_)
 clear hK K
 refine norm_ (a' := ?_) ?_ ?_
 rotate_left
 ·show Act.put _ (some 66) _ = _
  simp only [Act.put, sP, i64_w, i32_w]
  rfl
 refine pP (i := 31) (N := some 67) (bm 34 4294967295) rfl rfl HT_.out ?_
 refine pP (i := 32) (N := some 68) (bm 34 8589934591) rfl rfl HT_.out ?_
 refine pP (i := 33) (N := some 69) (bm 34 17179869183) rfl rfl HT_.out ?_
 refine done_ (done_of HT_.out (by kernel_rfl)) ?_
 clear hHeld HT_ HW_ BC BD
 have hza := blk2 BA.out
 go_wp2_with (first | (go_at_call 8; (with_reducible refine (new_no A0 c0 d A1 c1 l r _ (Kd.C_below HR0.out.1 (qB HB)) HR0.out.2 HE.out).mono ?_); rintro e w30 ⟨rfl, hb⟩; replace BA := bK BA hb; replace HB := bS (qB HB) hb; replace hza := blk2 BA.out; clear hb) | (go_at_call 13; (with_reducible refine (with_nl _ _).mono ?_); rintro e w31 ⟨rfl, hb⟩; replace BA := bK BA hb; replace HB := bS (qB HB) hb; replace hza := blk2 BA.out; clear hb) | (go_at_call 14; (with_reducible refine (meets_no _ _ _ (fun w1 _ => with_nl _ w1)).mono ?_); rintro e w32 ⟨rfl, hb⟩; replace BA := bK BA hb; replace HB := bS (qB HB) hb; replace hza := blk2 BA.out; clear hb) | (go_at_call 16; (with_reducible refine (write_nil _ _).mono ?_); rintro e w33 ⟨rfl, hb⟩; replace BA := bK BA hb; replace HB := bS (qB HB) hb; replace hza := blk2 BA.out; clear hb) | (go_at_call 7; (with_reducible refine (gradinelaw25_same.calls _).mono ?_); rintro e w8 ⟨rfl, hb⟩; replace BA := bK BA hb; replace HB := bS (qB HB) hb; replace hza := blk2 BA.out; clear hb))
 go_ret
 exact ⟨pE, HB.out⟩
set_option maxHeartbeats 8000000 in
set_option maxRecDepth 100000 in
theorem nil_D (W : World) (A0 : Option Addr) (c0 : Nat) (d : List Int) (hr0 : Kd.C (Kd.int .i64) W A0 d.length d) (hc0 : d.length ≤ c0) (A1 : Option Addr) (c1 : Nat) (l : List S80) (hr1 : Kd.C k80 W A1 l.length l) (hc1 : l.length ≤ c1) (o : Int) (A2 : Option Addr) (c2 : Nat) (dv : List Int) (hr2 : Kd.C (Kd.int .i64) W A2 dv.length dv) (hc2 : dv.length ≤ c2) (A3 : Option Addr) (c3 : Nat) (sv : List Int) (hr3 : Kd.C (Kd.int .i64) W A3 sv.length sv) (hc3 : sv.length ≤ c3) (ha : gradineplain_Args.f 200 [(⟨d, l⟩ : S25)] = some false) (hm : gradinelaw22_Many.f o dv sv = some false) (k k2 : Nat) (n : Int) (s : List Int) (he : shape_Check.f d = some 0 ∧ shape_Count.f k d = some n ∧ (l.length : Int) = n ∧ view_Whole.f k d = some (0, d, s) ∧ 1 ≤ l.length ∧ l.length ≤ 64 ∧ store_copies.f k l = some l) (hmm : cells_Meet.f k2 0 d s 0 d s = some true) :
  Calls Try.prog 4 #[.agg #[.slice A0 d.length c0, .slice A1 l.length c1], .agg #[.int .i64 o, .slice A2 dv.length c2, .slice A3 sv.length c3]] W fun e W' => e = .returned (.bool true) ∧ Below W.heap.size W W' := by
 have AW := aM ha
 have AM := aM hm
 clear ha hm
 have HE := aM he
 have HM := aM hmm
 clear he hmm
 have hu25 := Try.underlying25
 have hu43 := Try.underlying43
 have hu68 := Try.underlying68
 have HR0 := aM (And.intro hr0 hc0)
 have HR1 := aM (And.intro hr1 hc1)
 have HR2 := aM (And.intro hr2 hc2)
 have HR3 := aM (And.intro hr3 hc3)
 clear hr0 hc0 hr1 hc1 hr2 hc2 hr3 hc3
 have HB := aM (Below.refl W.heap.size W)
 go_enter Try.func4, Try.ntmps4
 go_upto_region 5 with (first | ((with_reducible refine gate_dst (N := 2) rfl ?_); refine box_event ?hg (N := 2) ?hd (cs := #[.slice A0 d.length c0, .slice A1 l.length c1]) (t := 25) ?hr ?_; (case hd => rfl); (case hg => rfl); (case hr => first | (go_simp; done) | (go_simp; rfl)); intro ga hg_ w2 hbox hb; have BA := aM hbox; have GA := gE (w := W) hg_ (qB HB); replace HB := bS (qB HB) hb; have hza := blk2 BA.out; clear hb hbox hg_) | ((with_reducible refine gate_dst (N := 3) rfl ?_); refine box_event ?hg (N := 3) ?hd (cs := #[.int .i64 o, .slice A2 dv.length c2, .slice A3 sv.length c3]) (t := 43) ?hr ?_; (case hd => rfl); (case hg => rfl); (case hr => first | (go_simp; done) | (go_simp; rfl)); intro gb hg_ w3 hbox hb; have BV := aM hbox; replace BA := bK BA hb; replace HB := bS (qB HB) hb; replace hza := blk2 BA.out; have hzb := blk3 BV.out; clear hb hbox hg_) | ((with_reducible refine gate_dst (N := 16) rfl ?_); refine lit ?hg (N := 16) ?hd (cs := #[.slice A0 d.length c0, .slice A1 l.length c1]) (t := 25) (n := 1) ?hr ?_; (case hd => rfl); (case hg => rfl); (case hr => first | (go_simp; done) | (go_simp; rfl)); intro lx hg w_lx hbox hb; have LX := aM hbox; replace BA := bK BA hb; replace BV := bK BV hb; replace HB := bS (qB HB) hb; replace hza := blk2 BA.out; replace hzb := blk3 BV.out; clear hg hbox hb) | (go_at_call 5; (with_reducible refine (args1 _ (⟨d, l⟩ : S25) false _ (xC LX.out HR0.out.2 (Kd.C_below HR0.out.1 (qB HB)) HR1.out.2 (Kd.C_below HR1.out.1 (qB HB))) AW.out).mono ?_); rintro e w6 ⟨rfl, hb⟩; replace BA := bK BA hb; replace BV := bK BV hb; replace HB := bS (qB HB) hb; replace hza := blk2 BA.out; replace hzb := blk3 BV.out; clear hb LX) | (go_at_call 21; (with_reducible refine (gradinelaw22_Many.calls o A2 c2 dv A3 c3 sv false _ (Kd.C_below HR2.out.1 (qB HB)) HR2.out.2 (Kd.C_below HR3.out.1 (qB HB)) HR3.out.2 AM.out).mono ?_); rintro e w7 ⟨rfl, hb⟩; replace BA := bK BA hb; replace BV := bK BV hb; replace HB := bS (qB HB) hb; replace hza := blk2 BA.out; replace hzb := blk3 BV.out; clear hb) | (go_at_call 12; (with_reducible refine (share_nil o A2 c2 dv A3 c3 sv _).mono ?_); rintro e w10 ⟨rfl, hb⟩; replace BA := bK BA hb; replace BV := bK BV hb; replace HB := bS (qB HB) hb; replace hza := blk2 BA.out; replace hzb := blk3 BV.out; clear hb))
 clear hza hzb
 go_upto_region 6 with (first | (go_at_call 22; (with_reducible refine (read_nil _).mono ?_); rintro e w11 ⟨rfl, hb⟩; replace BA := bK BA hb; replace BV := bK BV hb; replace HB := bS (qB HB) hb; clear hb) | ((with_reducible refine gate_dst (N := 8) rfl ?_); refine box_event ?hg (N := 8) ?hd (cs := #[.slice none 0 0, .slice none 0 0]) (t := 25) ?hr ?_; (case hd => rfl); (case hg => rfl); (case hr => first | (go_simp; done) | (go_simp; rfl)); intro gc hg_ w12 hbox hb; have BC := aM hbox; have GC := gE (w := W) hg_ (qB HB); have LA := aM (And.intro (blk_lt BA.out) (Nat.le_of_eq hg_.symm)); replace BA := bK BA hb; replace BV := bK BV hb; replace HB := bS (qB HB) hb; have hzc := blk2 BC.out; clear hb hbox hg_))
 clear hzc
 replace BC := aM (blk_put (cs := #[.slice none 0 0, .slice none 0 0]) (blk_put (cs := #[.slice none 0 0, .slice none 0 0]) BC.out 0 (.slice none 0 0) rfl) 1 (.slice none 0 0) rfl)
 have NA := aM (show ga ≠ gc from fun e_ => by have := LA.out; omega)
 replace BA := aM (blk_far (p := ⟨gc, 1, none⟩) (blk_far (p := ⟨gc, 0, none⟩) BA.out NA.out (.slice none 0 0)) NA.out (.slice none 0 0))
 replace HB := aM (below_set (j := 1) (v := .slice none 0 0) (below_set (j := 0) (v := .slice none 0 0) HB.out GC.out) GC.out)
 clear BV LA NA
 generalize (w12.setCell ⟨gc, 0, none⟩ (.slice none 0 0)).setCell ⟨gc, 1, none⟩ (.slice none 0 0) = w20 at BA BC HB ⊢
 go_upto_region 7 with (first | (go_at_call 19; (with_reducible refine (view_nil _).mono ?_); rintro e w13 ⟨rfl, hb⟩; replace BA := bK BA hb; replace BC := bK BC hb; replace HB := bS (qB HB) hb; clear hb) | ((with_reducible refine gate_dst (N := 10) rfl ?_); refine box_event ?hg (N := 10) ?hd (cs := #[.int .i64 0, .slice none 0 0, .slice none 0 0]) (t := 43) ?hr ?_; (case hd => rfl); (case hg => rfl); (case hr => first | (go_simp; done) | (go_simp; rfl)); intro gd hg_ w14 hbox hb; have BD := aM hbox; have GD := gE (w := W) hg_ (qB HB); have LA := aM (And.intro (blk_lt BA.out) (And.intro (blk_lt BC.out) (Nat.le_of_eq hg_.symm))); replace BA := bK BA hb; replace BC := bK BC hb; replace HB := bS (qB HB) hb; have hzd := blk3 BD.out; clear hb hbox hg_))
 clear hzd
 replace BD := aM (P3 (u0 := .int .i64 0) (u1 := .slice none 0 0) (u2 := .slice none 0 0) BD)
 have NA := aM (show ga ≠ gd from fun e_ => by have := LA.out; omega)
 have NC := aM (show gc ≠ gd from fun e_ => by have := LA.out; omega)
 replace BA := aM (blk_far (p := ⟨gd, 2, none⟩) (blk_far (p := ⟨gd, 1, none⟩) (blk_far (p := ⟨gd, 0, none⟩) BA.out NA.out (.int .i64 0)) NA.out (.slice none 0 0)) NA.out (.slice none 0 0))
 replace BC := aM (blk_far (p := ⟨gd, 2, none⟩) (blk_far (p := ⟨gd, 1, none⟩) (blk_far (p := ⟨gd, 0, none⟩) BC.out NC.out (.int .i64 0)) NC.out (.slice none 0 0)) NC.out (.slice none 0 0))
 replace HB := aM (below_drew1 (below_set (j := 2) (v := .slice none 0 0) (below_set (j := 1) (v := .slice none 0 0) (below_set (j := 0) (v := .int .i64 0) HB.out GD.out) GD.out) GD.out))
 clear LA NA NC
 replace BA := aM (bD BA.out)
 replace BC := aM (bD BC.out)
 replace BD := aM (bD BD.out)
 generalize ((w14.setCell ⟨gd, 0, none⟩ (.int .i64 0)).setCell ⟨gd, 1, none⟩ (.slice none 0 0)).setCell ⟨gd, 2, none⟩ (.slice none 0 0) = w21 at BA BC BD HB ⊢
 have wz : wrap64 0 = 0 := w64o (by omega) (by omega)
 refine start_ (n := 34) (S := fun w' => w'.cell? ⟨gc, 0, none⟩ = some (.slice none 0 0) ∧ w'.cell? ⟨gc, 1, none⟩ = some (.slice none 0 0) ∧ w'.cell? ⟨gd, 0, none⟩ = some (.int .i64 0) ∧ w'.cell? ⟨gd, 1, none⟩ = some (.slice none 0 0) ∧ w'.cell? ⟨gd, 2, none⟩ = some (.slice none 0 0)) (ds := []) (bm 34 0) (by kernel_rfl) rfl rfl ⟨(blk2 BC.out).1, (blk2 BC.out).2.1, (blk3 BD.out).1, (blk3 BD.out).2.1, (blk3 BD.out).2.2.1⟩ (fun hHeld => ?_); refine with_tabW tn.tab7 tn.bits7 (fun HT_ HW_ => ?_)
 refine pP (i := 0) (N := some 36) (bm 34 1) rfl rfl HT_.out ?_
 refine pP (i := 1) (N := some 37) (bm 34 3) rfl rfl HT_.out ?_
 refine pP (i := 2) (N := some 38) (bm 34 7) rfl rfl HT_.out ?_
 refine pP (i := 3) (N := some 39) (bm 34 15) rfl rfl HT_.out ?_
 refine pP (i := 4) (N := some 40) (bm 34 31) rfl rfl HT_.out ?_
 refine pP (i := 5) (N := some 41) (bm 34 63) rfl rfl HT_.out ?_
 refine pP (i := 6) (N := some 42) (bm 34 127) rfl rfl HT_.out ?_
 refine pP (i := 7) (N := some 43) (bm 34 255) rfl rfl HT_.out ?_
 refine pP (i := 8) (N := some 44) (bm 34 511) rfl rfl HT_.out ?_
 refine pP (i := 9) (N := some 45) (bm 34 1023) rfl rfl HT_.out ?_
 refine pP (i := 10) (N := some 46) (bm 34 2047) rfl rfl HT_.out ?_
 refine pP (i := 11) (N := some 47) (bm 34 4095) rfl rfl HT_.out ?_
 refine pP (i := 14) (N := some 50) (bm 34 20479) rfl rfl HT_.out ?_
 refine pP (i := 18) (N := some 54) (bm 34 282623) rfl rfl HT_.out ?_
 refine pP (i := 22) (N := some 58) (bm 34 4476927) rfl rfl HT_.out ?_
 refine pP (i := 26) (N := some 62) (bm 34 71585791) rfl rfl HT_.out ?_
 refine pP (i := 29) (N := some 65) (bm 34 608456703) rfl rfl HT_.out ?_
 refine pT (i := 12) (N := some 48) (bm 34 608460799) rfl rfl HT_.out HW_.out hHeld (by rintro w' ⟨s0, s1, s2, s3, s4⟩; go_simp; with_reducible rfl) ?_
 refine pP (i := 13) (N := some 49) (bm 34 608468991) rfl rfl HT_.out ?_
 refine pT (i := 15) (N := some 51) (bm 34 608501759) rfl rfl HT_.out HW_.out hHeld (by rintro w' ⟨s0, s1, s2, s3, s4⟩; go_simp; with_reducible rfl) ?_
 refine pP (i := 16) (N := some 52) (bm 34 608567295) rfl rfl HT_.out ?_
 refine pP (i := 17) (N := some 53) (bm 34 608698367) rfl rfl HT_.out ?_
 refine pT (i := 19) (N := some 55) (bm 34 609222655) rfl rfl HT_.out HW_.out hHeld (by rintro w' ⟨s0, s1, s2, s3, s4⟩; go_simp; with_reducible rfl) ?_
 refine pP (i := 20) (N := some 56) (bm 34 610271231) rfl rfl HT_.out ?_
 refine pP (i := 21) (N := some 57) (bm 34 612368383) rfl rfl HT_.out ?_
 refine pT (i := 23) (N := some 59) (bm 34 620756991) rfl rfl HT_.out HW_.out hHeld (by rintro w' ⟨s0, s1, s2, s3, s4⟩; go_simp; with_reducible rfl) ?_
 refine pP (i := 24) (N := some 60) (bm 34 637534207) rfl rfl HT_.out ?_
 refine pP (i := 25) (N := some 61) (bm 34 671088639) rfl rfl HT_.out ?_
 refine pT (i := 27) (N := some 63) (bm 34 805306367) rfl rfl HT_.out HW_.out hHeld (by rintro w' ⟨s0, s1, s2, s3, s4⟩; go_simp; with_reducible rfl) ?_
 refine pP (i := 28) (N := some 64) (bm 34 1073741823) rfl rfl HT_.out ?_
 refine one_ (i := 30) (N := some 66) (bm 34 2147483647) rfl rfl (one_of HT_.out (by kernel_rfl)) (by decide) (fun K hK => ?_)
 refine goes_ Try.func23 (by kernel_rfl) rfl #[.pointer none] (by rfl) rfl rfl pA ?_
 with_reducible refine (times_nil _).mono ?_
 rintro e w22 ⟨rfl, hb⟩
 refine ⟨_, rfl, ?_⟩
 replace BA := bK BA hb
 replace BC := bK BC hb
 replace BD := bK BD hb
 replace HB := bS (qB HB) hb
 clear hb
 refine hK.out _ _ ⟨(blk2 BC.out).1, (blk2 BC.out).2.1, (blk3 BD.out).1, (blk3 BD.out).2.1, (blk3 BD.out).2.2.1⟩ (fun hHeld => ?_)
 clear hK K
 refine norm_ (a' := ?_) ?_ ?_
 rotate_left
 ·show Act.put _ (some 66) _ = _
  simp only [Act.put, sP, i64_w, i32_w]
  rfl
 refine pP (i := 31) (N := some 67) (bm 34 4294967295) rfl rfl HT_.out ?_
 refine pP (i := 32) (N := some 68) (bm 34 8589934591) rfl rfl HT_.out ?_
 refine pP (i := 33) (N := some 69) (bm 34 17179869183) rfl rfl HT_.out ?_
 refine done_ (done_of HT_.out (by kernel_rfl)) ?_
 clear hHeld HT_ HW_ BC BD
 have hza := blk2 BA.out
 go_wp2_with (first | ((with_reducible refine gate_callee (f := 8) rfl ?_); refine goesL_ (some 72) rfl rfl Try.func8 (by kernel_rfl) rfl #[.agg #[.slice A0 d.length c0, .slice A1 l.length c1]] rfl pA ?_; (with_reducible refine (new_ok k A0 c0 d A1 c1 l s l n _ (Kd.C_below HR0.out.1 (qB HB)) HR0.out.2 (Kd.C_below HR1.out.1 (qB HB)) HR1.out.2 HE.out.1 HE.out.2.1 HE.out.2.2.1 HE.out.2.2.2.1 HE.out.2.2.2.2.1 HE.out.2.2.2.2.2.1 HE.out.2.2.2.2.2.2 rfl).mono ?_); rintro e w30 ⟨gt, gs, gr, c, rfl, hT, hst, _, hl, _, _, hb⟩; refine ⟨_, rfl, ?_⟩; have TS := aM (And.intro hT hst); skip; replace BA := bK BA hb; replace HB := bS (qB HB) hb; replace hza := blk2 BA.out; clear hb hT hst hl) | ((with_reducible refine gate_callee (f := 8) rfl ?_); refine goesL_ (some 77) rfl rfl Try.func8 (by kernel_rfl) rfl #[.agg #[.slice A0 d.length c0, .slice A1 l.length c1]] rfl pA ?_; (with_reducible refine (new_ok k A0 c0 d A1 c1 l s l n _ (Kd.C_below HR0.out.1 (qB HB)) HR0.out.2 (Kd.C_below HR1.out.1 (qB HB)) HR1.out.2 HE.out.1 HE.out.2.1 HE.out.2.2.1 HE.out.2.2.2.1 HE.out.2.2.2.2.1 HE.out.2.2.2.2.2.1 HE.out.2.2.2.2.2.2 rfl).mono ?_); rintro e w30 ⟨gu, gv, gq, c9, rfl, hT, hst, _, hl, _, _, hb⟩; refine ⟨_, rfl, ?_⟩; have US := aM (And.intro hT hst); have NE := aM (show gs ≠ gv from fun e_ => by have := blk_lt TS.out.2; omega); replace TS := aM (And.intro (TS.out.1.below hb) (blk_below TS.out.2 hb)); replace BA := bK BA hb; replace HB := bS (qB HB) hb; replace hza := blk2 BA.out; clear hb hT hst hl) | (go_at_call 13; (with_reducible refine (with_nr gt _).mono ?_); rintro e w31 ⟨rfl, hb⟩; replace TS := aM (And.intro (TS.out.1.below hb) (blk_below TS.out.2 hb)); replace US := aM (And.intro (US.out.1.below hb) (blk_below US.out.2 hb)); replace BA := bK BA hb; replace HB := bS (qB HB) hb; replace hza := blk2 BA.out; clear hb) | (go_at_call 13; (with_reducible refine (with_nl _ _).mono ?_); rintro e w32 ⟨rfl, hb⟩; replace TS := aM (And.intro (TS.out.1.below hb) (blk_below TS.out.2 hb)); replace US := aM (And.intro (US.out.1.below hb) (blk_below US.out.2 hb)); replace BA := bK BA hb; replace HB := bS (qB HB) hb; replace hza := blk2 BA.out; clear hb) | (go_at_call 13; (with_reducible refine (with_no gt gu gs gv _ _ _ NE.out TS.out.2 US.out.2 TS.out.1.st US.out.1.st).mono ?_); rintro e w33 ⟨rfl, hb⟩; replace TS := aM (And.intro (TS.out.1.below hb) (blk_below TS.out.2 hb)); replace US := aM (And.intro (US.out.1.below hb) (blk_below US.out.2 hb)); replace BA := bK BA hb; replace HB := bS (qB HB) hb; replace hza := blk2 BA.out; clear hb) | (go_at_call 14; (with_reducible refine (meets_no (.pointer (some ⟨gt, 0, none⟩)) (.pointer (some ⟨gu, 0, none⟩)) _ (fun w1 hb => with_no gt gu gs gv _ _ w1 NE.out (blk_below TS.out.2 hb) (blk_below US.out.2 hb) (TS.out.1.below hb).st (US.out.1.below hb).st)).mono ?_); rintro e w34 ⟨rfl, hb⟩; replace TS := aM (And.intro (TS.out.1.below hb) (blk_below TS.out.2 hb)); replace US := aM (And.intro (US.out.1.below hb) (blk_below US.out.2 hb)); replace BA := bK BA hb; replace HB := bS (qB HB) hb; replace hza := blk2 BA.out; clear hb) | (go_at_call 14; (with_reducible refine (meets_yes k2 _ _ gt gt gs 0 d s 0 d s true _ TS.out.1 TS.out.1 HM.out).mono ?_); rintro e w35 ⟨rfl, hb⟩; replace TS := aM (And.intro (TS.out.1.below hb) (blk_below TS.out.2 hb)); replace US := aM (And.intro (US.out.1.below hb) (blk_below US.out.2 hb)); replace BA := bK BA hb; replace HB := bS (qB HB) hb; replace hza := blk2 BA.out; clear hb) | (go_at_call 16; (with_reducible refine (write_nil _ _).mono ?_); rintro e w36 ⟨rfl, hb⟩; replace BA := bK BA hb; replace HB := bS (qB HB) hb; replace hza := blk2 BA.out; clear hb) | (go_at_call 7; (with_reducible refine (gradinelaw25_same.calls _).mono ?_); rintro e w8 ⟨rfl, hb⟩; replace BA := bK BA hb; replace HB := bS (qB HB) hb; replace hza := blk2 BA.out; clear hb))
 go_ret
 exact ⟨pE, HB.out⟩
end Tn
end Go.Proofs.Ytmhikecbajkonaa.Q
namespace Go.Proofs.Ytmhikecbajkonaa.Q
open Go.RowKit Go.Proofs.YtmhikecbajkonaaW.PrintWords Go.Proofs.YtmhikecbajkonaaW.PrintLast Go.Proofs.YtmhikecbajkonaaW.PrintMore
set_option linter.unusedVariables false
set_option linter.unusedSimpArgs false
namespace Tn
/-- An act that is gone through. -/
structure actOk (x : S45) : Prop where
  dl : x.f0.f1.length ≤ 20
  sl : x.f0.f2.length ≤ 20
  vl : x.f1.length ≤ 100
  sw : ∀ y ∈ x.f1, St.sw y
theorem wsuccL {i n : Nat} (h : i < n) (hn : n ≤ 9223372036854775807) : wrap64 ((i : Int) + 1) = ((i + 1 : Nat) : Int) := by
  rw [w64o (by omega) (by omega)]; rfl
theorem many_l {l : List S45} (hl : l.length ≤ 9223372036854775807) : ∀ (q i k : Nat), i + q = l.length → q + 200 ≤ k → ∃ b, gradinelaw25_many.l0 k l (l.length : Int) (i : Int) = some b ∧ (b = false → l.length ≤ 20 ∧ ∀ j, i ≤ j → j < l.length → actOk (rd_T45 l (j : Int)))
  | 0, i, k + 1, h, hk => ⟨decide ((l.length : Int) > 20), by rw [gradinelaw25_many.l0, if_neg (by omega)], fun hb => ⟨by have := of_decide_eq_false hb; omega, fun j h1 h2 => by omega⟩⟩
  | q + 1, i, k + 1, h, hk => by
    rw [gradinelaw25_many.l0, if_pos (by omega), if_pos (by omega), if_pos (by omega), wsuccL (n := l.length) (by omega) hl]
    obtain ⟨m, hm, hm2⟩ := many22 (rd_T45 l (i : Int)).f0.f0 (rd_T45 l (i : Int)).f0.f1 (rd_T45 l (i : Int)).f0.f2
    rw [hm]
    cases m with
    | true => exact ⟨true, rfl, fun h => by cases h⟩
    | false =>
    rw [Option.bind_some, if_neg (by simp)]
    by_cases c2 : ((rd_T45 l (i : Int)).f1.length : Int) > 100
    · exact ⟨true, if_pos c2, fun h => by cases h⟩
    obtain ⟨b, h1, h2⟩ := St.wide_f (l := (rd_T45 l (i : Int)).f1) k (by omega) (by omega)
    obtain ⟨b', h1', h2'⟩ := many_l hl q (i + 1) k (by omega) (by omega)
    rw [if_neg c2, h1]
    cases b with
    | true => exact ⟨true, rfl, fun h => by cases h⟩
    | false =>
      refine ⟨b', h1', fun hf => ⟨(h2' hf).1, fun j a1 a2 => ?_⟩⟩
      by_cases e : j = i
      · subst e; exact ⟨(hm2 rfl).1, (hm2 rfl).2, by omega, h2 rfl⟩
      · exact (h2' hf).2 j (by omega) a2
theorem many25 {l : List S45} (hl : l.length ≤ 9223372036854775807) : ∃ b, gradinelaw25_many.f (l.length + 300) l = some b ∧ (b = false → l.length ≤ 20 ∧ ∀ j, j < l.length → actOk (rd_T45 l (j : Int))) := by
  obtain ⟨b, h1, h2⟩ := many_l hl l.length 0 (l.length + 300) (by omega) (by omega)
  exact ⟨b, h1, fun h => ⟨(h2 h).1, fun j hj => (h2 h).2 j (by omega) hj⟩⟩
end Tn
end Go.Proofs.Ytmhikecbajkonaa.Q
namespace Go.Proofs.Ytmhikecbajkonaa.Q
open Go.RowKit Go.Proofs.YtmhikecbajkonaaW.PrintWords Go.Proofs.YtmhikecbajkonaaW.PrintLast Go.Proofs.YtmhikecbajkonaaW.PrintMore
set_option linter.unusedVariables false
set_option linter.unusedSimpArgs false
namespace Tn
/-- All blocks but those of some types are as they were. -/
def Fr (Q : List Nat) (w w' : World) : Prop := w.heap.size ≤ w'.heap.size ∧ ∀ (k : Nat) (cs : Array Value) (q : Nat), w.heap[k]? = some (Obj.cells cs q (0, 0)) → q ∉ Q → w'.heap[k]? = w.heap[k]?
theorem Fr.of_below {Q : List Nat} {w w' : World} (h : Below w.heap.size w w') : Fr Q w w' := ⟨h.size, fun k _ _ hk _ => h.block k (blk_lt hk)⟩
theorem Fr.blk {Q : List Nat} {w w' : World} {g q : Nat} {cs : Array Value} (h : Fr Q w w') (hb : w.heap[g]? = some (.cells cs q (0, 0))) (hq : q ∉ Q) : w'.heap[g]? = some (.cells cs q (0, 0)) := (h.2 g cs q hb hq).trans hb
section
variable {α : Type} {d : Kd α} {e b : Nat} {ok : Nat → Prop} {v : Value} {xs : List α}
theorem Fr.R {Q : List Nat} {w w' : World} (h : Fr Q w w') (hr : d.R e w b ok v xs) (hq : ∀ q ∈ e :: d.E, q ∉ Q) : d.R e w' b ok v xs :=
  Kd.R_mono (Kd.R_step (Kd.R_bound hr) (fun k hk _ => by
    obtain ⟨_, _, _, q, hqe, cs, hc⟩ := hk
    exact h.2 k cs q hc (hq q hqe))) (fun _ hk => hk.1)
theorem Fr.S {Q : List Nat} {w w' : World} (h : Fr Q w w') (hr : Kd.S d e w b ok v xs) (hq : ∀ q ∈ e :: d.E, q ∉ Q) : Kd.S d e w' b ok v xs :=
  Kd.S_mono (Kd.S_step (Kd.S_bound hr) (fun k hk _ => by
    obtain ⟨_, _, _, q, hqe, cs, hc⟩ := hk
    exact h.2 k cs q hc (hq q hqe))) (fun _ hk => hk.1)
theorem Fr.of_row {w w' : World} (hr : d.R e w b ok v xs) (hg : w.grownBy w' v.ownBlock) : Fr [e] w w' :=
  ⟨hg.size, fun k cs q hk hq => hg.block k (blk_lt hk) (fun he => by
    obtain ⟨cs', hc⟩ := Kd.R_typed hr k he.symm
    rw [hc] at hk
    cases hk
    exact hq (List.mem_singleton.2 rfl))⟩
end
theorem Fr.of_grown0 {Q : List Nat} {w w' : World} (hg : w.grownBy w' none) : Fr Q w w' := ⟨hg.size, fun k _ _ hk _ => hg.block k (blk_lt hk) (by simp)⟩
theorem Fr.of_put {w w' : Go.World} {gs gr : Nat} {c1 c2 : Array Value} (h1 : w.heap[gs]? = some (.cells c1 89 (0, 0))) (h2 : w.heap[gr]? = some (.cells c2 80 (0, 0))) (hs : w.heap.size ≤ w'.heap.size) (hf : ∀ k, k < w.heap.size → k ≠ gs → k ≠ gr → w'.heap[k]? = w.heap[k]?) : Fr [89, 80] w w' :=
  ⟨hs, fun k cs q hk hq => hf k (blk_lt hk) (fun e => by rw [e, h1] at hk; cases hk; simp at hq) (fun e => by rw [e, h2] at hk; cases hk; simp at hq)⟩
theorem Fr.of_ref {w w' : World} {gf : Nat} {c1 : Array Value} (h1 : w.heap[gf]? = some (.cells c1 38 (0, 0))) (hs : w.heap.size ≤ w'.heap.size) (hf : ∀ k, k < w.heap.size → k ≠ gf → w'.heap[k]? = w.heap[k]?) : Fr [38] w w' :=
  ⟨hs, fun k cs q hk hq => hf k (blk_lt hk) (fun e => by rw [e, h1] at hk; cases hk; simp at hq)⟩
theorem Fr.Ten {Q : List Nat} {w w' : World} {b gt gs : Nat} {o : Int} {d s : List Int} (h : Fr Q w w') (ht : Ten w b gt gs o d s) (h3 : 3 ∉ Q) (h68 : 68 ∉ Q) : Ten w' b gt gs o d s := by
  obtain ⟨Ad, cd, As, cs, h1, h2, h3'⟩ := ht
  have hq : ∀ q ∈ 3 :: (Kd.int .i64).E, q ∉ Q := fun q hq => by
    have h1 : q ∈ [3] := hq
    obtain rfl := List.mem_singleton.1 h1
    exact h3
  exact ⟨Ad, cd, As, cs, h.blk h1 h68, h.R h2 hq, h.R h3' hq⟩
theorem Fr.Inv {Q : List Nat} {W w w' : World} {gs gr c gf : Nat} {V : List S80} {ver : Int} {A : Option Addr} {c' : Nat} (h : Fr Q w w') (hi : Sb.Inv W w gs gr c gf V ver A c') (hb : Below W.heap.size W w') (hq : ∀ q ∈ [89, 80, 61, 38], q ∉ Q) : Sb.Inv W w' gs gr c gf V ver A c' := by
  refine ⟨h.blk hi.atS (hq _ (by simp)), h.S hi.row (fun q hq' => hq q ?_), h.blk hi.atF (hq _ (by simp)), ?_, hb⟩
  · have : q ∈ [80, 61, 61] := hq'
    simp at this ⊢
    omega
  · rcases hi.ref with h1 | h1
    · exact Or.inl h1
    · exact Or.inr (h.R h1 (fun q hq' => hq q (by have : q ∈ [80] := hq'; simp at this ⊢; omega)))
/-- Rows of pointers. -/
def kP : Kd Nat := Kd.scalar (fun g => .pointer (some ⟨g, 0, none⟩)) (fun _ => rfl)
theorem at_P {w : World} {A : Option Addr} {n : Nat} {xs : List Nat} (h : kP.C w A n xs) (i : Int) (h0 : 0 ≤ i) (h1 : i < n) : ∃ ad, A = some ad ∧ w.cell? (ad.add i.toNat) = some (.pointer (some ⟨xs.getD i.toNat 0, 0, none⟩)) := by
  obtain ⟨ad, cs, e, hs, hK, hc⟩ := Kd.C_get h 0 i h0 h1
  have hK' : cs = [.pointer (some ⟨xs.getD i.toNat 0, 0, none⟩)] := hK
  refine ⟨ad, e, ?_⟩
  have := hc 0 (.pointer (some ⟨xs.getD i.toNat 0, 0, none⟩)) (by rw [hK']; rfl)
  simpa [kP, Kd.scalar] using this
/-- A tensor among others, and which cells its elements are. -/
structure Tz where
  g : Nat
  o : Int
  d : List Int
  s : List Int
  cl : List Int
structure Tz.ok (w : World) (b gs n : Nat) (x : Tz) : Prop where
  ten : Ten w b x.g gs x.o x.d x.s
  lst : ∃ k, cells_List.f k x.o x.d x.s = some x.cl
  dl : x.d.length ≤ 1000
  cl : x.cl.length ≤ 100 ∧ ∀ c ∈ x.cl, 0 ≤ c ∧ c < (n : Int)
theorem Tz.ok.fr {Q : List Nat} {w w' : World} {b gs n : Nat} {x : Tz} (h : x.ok w b gs n) (hf : Fr Q w w') (h3 : 3 ∉ Q) (h68 : 68 ∉ Q) : x.ok w' b gs n := ⟨hf.Ten h.ten h3 h68, h.lst, h.dl, h.cl⟩
theorem get_ok {V : List S80} {l : List Int} (h : ∀ c ∈ l, 0 ≤ c ∧ c < (V.length : Int)) : ∀ (q i : Nat) (o : List S80), i + q = l.length → (Rf.get.g V l q i o).2 = 0
  | 0, i, o, hq => rfl
  | q + 1, i, o, hq => by
    have hm : rd l (i : Int) ∈ l := by
      unfold rd
      rw [Int.toNat_natCast, List.getD_eq_getElem?_getD, List.getElem?_eq_getElem (show i < l.length by omega)]
      exact List.getElem_mem _
    have := h _ hm
    rw [Rf.get.g, if_neg (by omega), if_neg (by omega)]
    exact get_ok h q (i + 1) _ (by omega)
end Tn
end Go.Proofs.Ytmhikecbajkonaa.Q
namespace Go.Proofs.Ytmhikecbajkonaa.Q
open Go.RowKit Go.Proofs.YtmhikecbajkonaaW.PrintWords Go.Proofs.YtmhikecbajkonaaW.PrintLast Go.Proofs.YtmhikecbajkonaaW.PrintMore
attribute [local go_sem] max2_int min2_int max_two min_two max_three min_three max_four min_four
set_option linter.unusedVariables false
set_option linter.unusedSimpArgs false
namespace Tn
def al.T6 : Bool × List (List Nat × List Nat) := (true, [([], []), ([0], [0]), ([1], [1]), ([2], [2]), ([3, 2], [2, 3]), ([2, 4], [2, 4]), ([5, 2], [5]), ([6], [6]), ([7, 6], [6, 7]), ([6], [6]), ([8, 9, 6, 6], [6, 8, 9]), ([10, 6], [6, 10]), ([6, 11], [6, 11]), ([12, 10], [12]), ([13], [13]), ([13], [13]), ([14, 15, 13], [13, 14, 15]), ([16, 13], [13, 16]), ([17, 13, 13], [13, 17]), ([13], [13]), ([19, 13], [13, 19]), ([20, 13], [13, 20]), ([21, 13], [13, 21]), ([18, 22, 13], [13, 18, 22]), ([13, 23], [13, 23])])
def al.B6 : List Nat := [0, 1, 3, 7, 15, 31, 63, 127, 255, 127, 1023, 2047, 4095, 8191, 16383, 16383, 65535, 131071, 262143, 16383, 540671, 1589247, 3686399, 8388607, 16777215]
theorem al.tab6 : rtab .any (opsOf Try.f18 6) = al.T6 := by kernel_rfl
theorem al.bits6 : waitsOk al.T6.2 al.B6 = true := by kernel_rfl
set_option maxHeartbeats 8000000 in
set_option maxRecDepth 100000 in
theorem all.calls (gs gr c gf : Nat) (V : List S80) (ver : Int) (A : Option Addr) (c' : Nat) (ts : List Tz) (At : Option Addr) (ct : Nat) (Ac : Option Addr) (cc : Nat) (W w : World) (hI : Sb.Inv W w gs gr c gf V ver A c') (hts : ∀ x ∈ ts, x.ok w W.heap.size gs V.length) (hA : kP.C w At ts.length (ts.map Tz.g)) (hC : Kd.C (Kd.slice 3 (Kd.int .i64)) w Ac ts.length (ts.map Tz.cl)) (hn : ts.length ≤ 1000) (hV64 : V.length ≤ 64) (hsw : ∀ x ∈ V, St.sw x) :
  Calls Try.prog 18 #[.slice At ts.length ct, .slice Ac ts.length cc, .pointer (some ⟨gf, 0, none⟩)] w fun e w' => e = .returned (.bool true) ∧ Below w.heap.size w w' := by
 have hu25 := Try.underlying25
 have hu38 := Try.underlying38
 have INV := aM hI
 have HTS := aM hts
 have HA := aM hA
 have HC := aM hC
 have HN := aM (And.intro hn hV64)
 have HSW := aM hsw
 clear hI hts hA hC hn hV64 hsw
 have HB := aM (Below.refl w.heap.size w)
 go_enter Try.func18, Try.ntmps18
 go_wp2
 go_loopg [14] ts.length (fun kq v14 w' => ∃ (i : Nat), v14 = .int .i64 (i : Int) ∧ Aside0 (i + kq = ts.length) ∧ Aside0 (Below w.heap.size w w'))
 case atStart => exact ⟨0, rfl, ⟨by omega⟩, ⟨qB HB⟩⟩
 case round =>
  clear HB
  obtain ⟨i, rfl, HK, HB⟩ := hrel
  cases gk with
  | succ kq =>
   have d1 : decide ((i : Int) < (ts.length : Int)) = true := decide_eq_true (by have := HK.out; omega)
   have d2 : decide (i < ts.length) = true := decide_eq_true (by have := HK.out; omega)
   have p1 : (0 ≤ (i : Int)) = True := eq_true (by omega)
   have q1 : ((i : Int) < (ts.length : Int)) = True := eq_true (by have := HK.out; omega)
   have q2 : (i < ts.length) = True := eq_true (by have := HK.out; omega)
   obtain ⟨x, hm, hg, hcl⟩ : ∃ x ∈ ts, (ts.map Tz.g).getD i 0 = x.g ∧ rd_L6 (ts.map Tz.cl) (i : Int) = x.cl := by
     have hi : i < ts.length := by have := HK.out; omega
     refine ⟨ts[i], List.getElem_mem _, ?_, ?_⟩
     · rw [List.getD_eq_getElem?_getD, List.getElem?_map, List.getElem?_eq_getElem hi]; rfl
     · unfold rd_L6; rw [List.getD_eq_getElem?_getD, Int.toNat_natCast, List.getElem?_map, List.getElem?_eq_getElem hi]; rfl
   obtain ⟨adt, eat, hx⟩ := at_P HA.out (i : Int) (by omega) (by have := HK.out; omega)
   cases eat
   rw [Int.toNat_natCast, hg] at hx
   obtain ⟨adc, B1, b1, eac, hy, hle, hci⟩ := at_L6 HC.out (i : Int) (by omega) (by have := HK.out; omega)
   cases eac
   rw [Int.toNat_natCast] at hy
   rw [hcl] at hy hle hci
   have OX := aM (HTS.out x hm)
   obtain ⟨kx, hkx⟩ := OX.out.lst
   have KX := aM hkx
   have QX := aM hx
   have QY := aM hy
   have HI := aM (And.intro hle hci)
   clear hm hg hcl hx hy hle hci hkx
   obtain ⟨⟨r1, r2⟩, hr⟩ : ∃ r, Rf.get.g V x.cl x.cl.length 0 [] = r := ⟨_, rfl⟩
   obtain rfl : r2 = 0 := by have h_ := get_ok OX.out.cl.2 x.cl.length 0 [] (by omega); rw [hr] at h_; exact h_
   have GR := aM hr
   have GA := aM (show (∀ x ∈ r1, St.sw x) ∧ r1.length ≤ 100 by have h_ := St.getg_all (l1 := x.cl) HSW.out x.cl.length 0 [] (fun x hx => by simp at hx); rw [hr] at h_; exact ⟨h_.1, by have h2 := h_.2; have := OX.out.cl.1; simp at h2; omega⟩)
   have GS := aM (show store_Get.f 200 V x.cl = some (r1, 0) by rw [St.getg_f 200 HSW.out (by have := OX.out.cl.1; omega) (by have := OX.out.cl.1; omega), hr])
   clear hr
   have mv : ∀ {a : Addr} {v : Value}, w.cell? a = some v → wr.cell? a = some v := fun h_ => (HB.out.cell (World.block_lt_of_cell? w _ h_)).trans h_
   have hxr := mv QX.out
   clear mv
   go_upto_region 5 with (first | ((with_reducible refine gate_callee (f := 22) rfl ?_); refine goesL_ (some 22) rfl rfl Try.func22 (by kernel_rfl) rfl #[.pointer (some ⟨x.g, 0, none⟩)] rfl pA ?_; (with_reducible refine (read kx 200 W.heap.size x.g gs c (some ⟨gr, 0, none⟩) x.o x.d x.s V ver x.cl r1 0 _ (OX.out.ten.below (qB HB)) (INV.out.step (qB HB)).atS (INV.out.step (qB HB)).C KX.out GS.out OX.out.dl).mono ?_); rintro e w5 ⟨xA, xc, yA, yc, rfl, _, hS, hb⟩; refine ⟨_, rfl, ?_⟩; have yS := aM hS; replace HB := bS (qB HB) hb; clear hS hb hxr) | ((with_reducible refine gate_dst (N := 8) rfl ?_); refine box_event ?hg (N := 8) ?hd (cs := #[.slice none 0 0, .slice none 0 0]) (t := 25) ?hr ?_; (case hd => rfl); (case hg => rfl); (case hr => first | (go_simp; done) | (go_simp; rfl)); intro ga hg_ w_a hbox hb; have BA := aM hbox; have GB := aM (Nat.le_of_eq hg_.symm); have HBr := aM hb; have hczs := blk2 BA.out; clear hb hbox hg_))
   clear hczs
   have BB := aM (blk_put (cs := #[.slice xA x.d.length xc, .slice none 0 0]) (blk_put (cs := #[.slice none 0 0, .slice none 0 0]) BA.out 0 (.slice xA x.d.length xc) rfl) 1 (.slice yA r1.length yc) rfl)
   have HR := aM (below_set (j := 1) (v := .slice yA r1.length yc) (below_set (j := 0) (v := .slice xA x.d.length xc) HBr.out GB.out) GB.out)
   replace HB := aM (below_step HB.out HR.out)
   replace yS := aM (Kd.S_below yS.out HR.out)
   clear HBr GB BA HR
   generalize ((w_a.setCell ⟨ga, 0, none⟩ (.slice xA x.d.length xc)).setCell ⟨ga, 1, none⟩ (.slice yA r1.length yc)) = w_b at HB yS BB ⊢
   have mv : ∀ {a : Addr} {v : Value}, w.cell? a = some v → w_b.cell? a = some v := fun h_ => (HB.out.cell (World.block_lt_of_cell? w _ h_)).trans h_
   have hyr := mv QY.out
   clear mv
   go_upto_region 6 with (first | ((with_reducible refine gate_callee (f := 39) rfl ?_); refine goesL_ (some 31) rfl rfl Try.func39 (by kernel_rfl) rfl #[.pointer (some ⟨gf, 0, none⟩), .slice B1 x.cl.length b1] rfl pA ?_; (with_reducible refine (Rf.get.calls gf A c' V ver B1 b1 x.cl r1 0 W _ (INV.out.step (qB HB)).atF (INV.out.step (qB HB)).refC (Kd.C_below HI.out.2 (qB HB)) (by have := OX.out.cl.1; omega) GR.out).mono ?_); rintro e w15 ⟨v5, rfl, ho, hb⟩; refine ⟨_, rfl, ?_⟩; obtain ⟨Am, cm, em⟩ := Kd.R_slice ho; subst em; have HC5 := aM (Kd.R_reads' ho); replace yS := aM (Kd.S_below yS.out (by first | exact hb | exact below_step (Below.refl _ _).drew hb)); replace BB := bK BB hb; replace HB := bS (qB HB) hb; clear hb ho hyr))
   have H5 := aM (Rf.C_out HC5.out.2.2 (INV.out.step HB.out).bel)
   replace HB := aM (below_drew1 HB.out)
   replace yS := aM (Kd.S_drew yS.out)
   replace BB := aM (bD BB.out)
   replace H5 := aM (Kd.C_drew H5.out)
   have mv : ∀ {a : Addr} {v : Value}, w.cell? a = some v → w15.drew.cell? a = some v := fun h_ => (HB.out.cell (World.block_lt_of_cell? w _ h_)).trans h_
   refine start_ (n := 25) (S := fun w' => w'.cell? ⟨ga, 1, none⟩ = some (.slice yA r1.length yc) ∧ w'.cell? (adt.add i) = some (.pointer (some ⟨x.g, 0, none⟩)) ∧ w'.cell? ⟨gf, 1, none⟩ = some (.int .i64 ver)) (ds := []) (bm 25 0) (by kernel_rfl) rfl rfl ⟨(blk_cell BB.out 1).trans rfl, mv QX.out, (blk_cell (INV.out.step HB.out).atF 1).trans rfl⟩ (fun hHeld => ?_); refine with_tabW al.tab6 al.bits6 (fun HT_ HW_ => ?_)
   refine pP (i := 0) (N := some 34) (bm 25 1) rfl rfl HT_.out ?_
   refine pP (i := 1) (N := some 35) (bm 25 3) rfl rfl HT_.out ?_
   refine pP (i := 2) (N := some 36) (bm 25 7) rfl rfl HT_.out ?_
   refine pP (i := 3) (N := some 37) (bm 25 15) rfl rfl HT_.out ?_
   refine pP (i := 4) (N := some 38) (bm 25 31) rfl rfl HT_.out ?_
   refine pP (i := 5) (N := some 39) (bm 25 63) rfl rfl HT_.out ?_
   refine pP (i := 6) (N := some 40) (bm 25 127) rfl rfl HT_.out ?_
   refine pP (i := 7) (N := some 41) (bm 25 255) rfl rfl HT_.out ?_
   refine pP (i := 9) (N := some 43) (bm 25 767) rfl rfl HT_.out ?_
   refine pT (i := 8) (N := some 42) (bm 25 1023) rfl rfl HT_.out HW_.out hHeld (by rintro w' ⟨s0, s1, s2⟩; go_simp; with_reducible rfl) ?_
   refine one_ (i := 10) (N := some 44) (bm 25 2047) rfl rfl (one_of HT_.out (by kernel_rfl)) (by decide) (fun K hK => ?_)
   refine goes_ Try.func26 (by kernel_rfl) rfl #[.slice yA r1.length yc, .slice Am r1.length cm] (by rfl) rfl rfl pA ?_
   with_reducible refine (gradineref18_All.calls 200 yA yc r1 Am cm r1 true _ (Kd.S_reads' yS.out).2.2 (Kd.S_reads' yS.out).2.1 H5.out HC5.out.2.1 (St.all_f 200 (by have := GA.out.2; omega) GA.out.1 (by have := GA.out.2; omega))).mono ?_
   rintro e w20 ⟨rfl, hb⟩
   refine ⟨_, rfl, ?_⟩
   replace BB := bK BB hb
   replace HB := bS (qB HB) hb
   clear hb mv
   have mv : ∀ {a : Addr} {v : Value}, w.cell? a = some v → w20.cell? a = some v := fun h_ => (HB.out.cell (World.block_lt_of_cell? w _ h_)).trans h_
   refine hK.out _ _ ⟨(blk_cell BB.out 1).trans rfl, mv QX.out, (blk_cell (INV.out.step HB.out).atF 1).trans rfl⟩ (fun hHeld => ?_)
   clear hK K
   refine norm_ (a' := ?_) ?_ ?_
   rotate_left
   ·show Act.put _ (some 44) _ = _
    simp only [Act.put, sP, i64_w, i32_w]
    rfl
   refine pP (i := 11) (N := some 45) (bm 25 4095) rfl rfl HT_.out ?_
   refine pP (i := 12) (N := some 46) (bm 25 8191) rfl rfl HT_.out ?_
   refine pP (i := 13) (N := some 47) (bm 25 16383) rfl rfl HT_.out ?_
   refine pP (i := 14) (N := some 48) (bm 25 32767) rfl rfl HT_.out ?_
   refine pP (i := 15) (N := some 49) (bm 25 65535) rfl rfl HT_.out ?_
   refine pP (i := 16) (N := some 50) (bm 25 131071) rfl rfl HT_.out ?_
   refine pP (i := 19) (N := some 53) (bm 25 655359) rfl rfl HT_.out ?_
   refine pP (i := 20) (N := some 54) (bm 25 1703935) rfl rfl HT_.out ?_
   refine pP (i := 21) (N := some 55) (bm 25 3801087) rfl rfl HT_.out ?_
   refine pT (i := 17) (N := some 51) (bm 25 3932159) rfl rfl HT_.out HW_.out hHeld (by rintro w' ⟨s0, s1, s2⟩; go_simp; with_reducible rfl) ?_
   refine pT (i := 22) (N := some 56) (bm 25 8126463) rfl rfl HT_.out HW_.out hHeld (by rintro w' ⟨s0, s1, s2⟩; go_simp; with_reducible rfl) ?_
   refine one_ (i := 18) (N := some 52) (bm 25 8388607) rfl rfl (one_of HT_.out (by kernel_rfl)) (by decide) (fun K hK => ?_)
   refine goes_ Try.func23 (by kernel_rfl) rfl #[.pointer (some ⟨x.g, 0, none⟩)] (by rfl) rfl rfl pA ?_
   with_reducible refine (times W.heap.size x.g gs x.o x.d x.s _ ver _ (OX.out.ten.below HB.out) (INV.out.step HB.out).atS).mono ?_
   rintro e w21 ⟨rfl, hb⟩
   refine ⟨_, rfl, ?_⟩
   replace BB := bK BB hb
   replace HB := bS (qB HB) hb
   clear hb mv
   have mv : ∀ {a : Addr} {v : Value}, w.cell? a = some v → w21.cell? a = some v := fun h_ => (HB.out.cell (World.block_lt_of_cell? w _ h_)).trans h_
   refine hK.out _ _ ⟨(blk_cell BB.out 1).trans rfl, mv QX.out, (blk_cell (INV.out.step HB.out).atF 1).trans rfl⟩ (fun hHeld => ?_)
   clear hK K
   refine norm_ (a' := ?_) ?_ ?_
   rotate_left
   ·show Act.put _ (some 52) _ = _
    simp only [Act.put, sP, i64_w, i32_w]
    rfl
   refine pP (i := 23) (N := some 57) (bm 25 16777215) rfl rfl HT_.out ?_
   refine pP (i := 24) (N := some 58) (bm 25 33554431) rfl rfl HT_.out ?_
   refine done_ (done_of HT_.out (by kernel_rfl)) ?_
   clear hHeld HT_ HW_ mv
   try go_wp2
   go_roundg kq
   case measure => omega
   case rel => exact ⟨i + 1, by first | rfl | (rw [w64o (by have := HK.out; have := HN.out.1; omega) (by have := HK.out; have := HN.out.1; omega)]; rfl), ⟨by have := HK.out; omega⟩, ⟨qB HB⟩⟩
  | zero =>
   have hin : i = ts.length := by have := HK.out; omega
   clear HK
   subst hin
   have d1 : decide ((ts.length : Int) < (ts.length : Int)) = false := decide_eq_false (by omega)
   have d2 : decide (ts.length < ts.length) = false := decide_eq_false (by omega)
   go_wp2
   go_ret
   exact ⟨pE, qB HB⟩
end Tn
end Go.Proofs.Ytmhikecbajkonaa.Q
