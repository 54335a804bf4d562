-- Written by this session's program wip/gprint.py, which drives the kit's print.py and puts the session's own texts in for some functions.
import Derived.Test.YtpoldofghcmfnaaQx0
import Derived.Test.YtpoldofghcmfnaaQxfWalkAt
import Derived.Test.YtpoldofghcmfnaaQxfWalkNext
import Derived.LoopIn
import Derived.LoopNIn
import Derived.Maps.AppendAt
import Derived.OwnWalkIn
import Derived.RangeFuncBox
import Derived.RangeFuncLeaves
import Derived.RangeFuncNested
import Derived.Shelf.Abstract
import Derived.Shelf.RegionOpen
import Derived.Sort.LoopGhostIn
import Derived.TacticsInMore
namespace Go.Proofs.Ytpoldofghcmfnaa.Q
open Go.RowKit Go.Proofs.YtpoldofghcmfnaaW.PrintWords Go.Proofs.YtpoldofghcmfnaaW.PrintLast Go.Proofs.YtpoldofghcmfnaaW.PrintMore
attribute [local go_sem] max2_int min2_int max_two min_two max_three min_three max_four min_four   -- for this text's walks alone
set_option linter.unusedVariables false
set_option linter.unusedSimpArgs false

/-! ### walk_All: function 31 (ours) -/
def walk_All.l0 : Nat → List Int → List Int → Bool → List (List Int) → Option (List (List Int))
  | 0, _, _, _, _ => none
  | k + 1, d, x, ok, out => if ok = true then (if out.length < 1099511627776 then ((walk_Next.f k d x).bind fun t => walk_All.l0 k d t.1 t.2 (out ++ [x])) else none) else some out
def walk_All.f (k : Nat) (d : List Int) : Option (List (List Int)) := (walk_At.f k d 0).bind fun t => walk_All.l0 k d t.1 t.2 []

section
attribute [local go_sem] Oper.semAt_some

/-- append(v, x) in a round's frame: 'Kd.N_append' with the fence. -/
theorem walk_All.app {α : Type} (d : Kd α) {F : Fence} {n : Nat} {P : Program} {ops : Array Oper} {rest : List Oper} {o : Oper} {a : Act} {Q : Exit → Act → World → Prop} {W : World} (base : Nat) (hgd : o.guard = none) (s x : Operand) (t e : TypeId) (z : Value) (bytes : Nat)
    (ho : o.op = .call { callee := .builtin .append, args := #[s, x], argTypes := #[t, t] })
    (ht : P.underlying t = some (.slice e)) (hinfo : (P.info? e).map (fun i => (i.zero, i.size, i.bytes)) = some (some z, d.sz, bytes)) (hz : z.cells.size = d.sz) (hs0 : 0 < d.sz) (hb0 : 0 < bytes)
    (v : Value) (xs : List α) (p : α) (cs : List Value) (ok okp : Nat → Prop) (hs : a.eval s = v) (hx : a.eval x = .slice (some ⟨W.heap.size, 0, none⟩) 1 1) (hp : Kd.FK d W okp p cs) (hokp : ∀ k, okp k → ok k ∧ some k ≠ v.ownBlock) (hfresh : ∀ k, W.heap.size ≤ k → ok k)
    (HO : Kd.N d e W base ok v xs) (hbase : base ≤ W.heap.size) (hl : (xs.length + 1) * bytes ≤ 140737488355328)
    (h : ∀ v1 w1, Kd.N d e w1 base ok v1 (xs ++ [p]) → W.grownBy w1 v.ownBlock → (v1.ownBlock = v.ownBlock ∨ ∃ b, v1.ownBlock = some b ∧ W.heap.size ≤ b) → wpListIn F n P ops Q rest (a.put o.dst v1) w1) :
    wpListIn F n P ops Q (o :: rest) a (W.alloc (.cells cs.toArray e)) := by
  obtain ⟨h0, rows, hlr, hR, hf⟩ := HO
  obtain ⟨_, inner, hown, hr⟩ := Kd.raw_any hR
  obtain ⟨i0, hi, hzz⟩ := Option.map_eq_some_iff.1 hinfo
  simp only [Prod.mk.injEq] at hzz
  obtain ⟨hz0, hz1, hz2⟩ := hzz
  have hlen : xs.length + 1 ≤ 140737488355328 := Nat.le_trans (Nat.le_mul_of_pos_right _ hb0) hl
  have hys : cs.length = d.sz := d.K_len (Kd.FK_now hp)
  refine wpListIn_plain hgd fun K hK' => ?_
  obtain ⟨v1, w1, hrun, r1, r2, _, hat⟩ := run_append_own_at (P := P) (w := W.alloc (.cells cs.toArray e)) base t o.type e i0 z d.sz bytes ht hi hz0 hz1 hz2 hz hs0 v rows.length inner (hown.alloc _) ⟨W.heap.size, 0, none⟩ 1 1 cs (by rw [hys]; simp)
    (by simpa using World.news_of_block (cs := cs.toArray) (t := e) (fr := (0, 0)) (heap_alloc_new W (.cells cs.toArray e))) (d.K_one (Kd.FK_now hp)) (by rw [hlr]; simp only [maxLen]; omega) (by rw [hlr]; exact hl) (by simp; omega)
  have hat' : v1.ownBlock = v.ownBlock ∨ ∃ b, v1.ownBlock = some b ∧ W.heap.size ≤ b := by
    rcases hat with hat | hat
    · exact .inl hat
    · exact .inr ⟨_, hat, by simp⟩
  have hg : W.grownBy w1 v.ownBlock := World.grownBy.trans (World.grownBy_alloc W _ _) r2
  have hrow := Kd.R_appended (d := Kd.raw d.sz) (base := base) (ok := fun _ => True) (okp := fun _ => False) (fun _ _ => trivial) hr (Kd.FK_raw hp) (fun _ hk => hk.elim) (fun _ _ => trivial) (W := W) r1 hg hat'
  have hN := Kd.N_appended (ys := [p]) (news := [cs]) h0 hlr hf rfl (fun j y c hy hc => by
    rcases j with _ | j
    · simp only [List.getElem?_cons_zero, Option.some.injEq] at hy hc
      rw [← hy, ← hc]; exact hp
    · simp at hy) hokp hfresh hrow hg hat'
  unfold Oper.wpIn
  refine ⟨?_, ?_⟩
  · simp [Oper.about, ho, resolve, Target.leads, Sem.run_pure]
  · rw [Oper.semAt_plain F _ _ (by rw [ho]; intro c hc'; cases hc')]
    simp [execOp, ho, resolve, invoke, builtin, hs, hx, hrun, Result.andThen]
    exact hK' _ _ (h v1 w1 hN hg hat')

set_option maxRecDepth 100000 in
set_option maxHeartbeats 2000000 in
/-- The iterator, at a body of which J tells. -/
theorem walk_All.iter (m l bd : Nat) (J : List (List Int) → World → Prop) (k : Nat) (A0 : Option Addr) (c0 : Nat) (d : List Int) (hc0 : d.length ≤ c0) (r : List (List Int))
    (hJ : ∀ pre A B, J pre A → Below A.heap.size A B → J pre B)
    (hd : ∀ pre W, J pre W → W.cell? ⟨bd, 0, none⟩ = some (.slice A0 d.length c0) ∧ Kd.C (Kd.int .i64) W A0 d.length d)
    (hY : ∀ pre x u W0 W1, pre.length < 1099511627776 → J pre W0 → Below W0.heap.size W0 W1 → Kd.R (Kd.int .i64) 3 W1 W0.heap.size (fun _ => True) u x →
      YieldAt Fence.wide (m - 1) Try.prog l #[u] W1 fun e W' => e = .returned (.bool true) ∧ J (pre ++ [x]) W' ∧ ∃ A c, u = .slice A x.length c ∧ x.length ≤ c ∧ Kd.C (Kd.int .i64) W' A x.length x)
    (hf : walk_All.f k d = some r) (W : World) (h0 : J [] W) :
    CallsIn Fence.wide m Try.prog 56 #[.func (.yield l) #[] #[], .pointer (some ⟨bd, 0, none⟩)] W fun e W' => (∃ v, e = .returned v) ∧ J r W' := by
  obtain ⟨⟨x0, b0⟩, hAt, hl0⟩ := Option.bind_eq_some_iff.mp hf
  refine callsIn_of_wp Try.func56 rfl trivial ?_ rfl
  simp only [Try.ntmps56, List.size_toArray, List.length_cons, List.length_nil, Nat.reduceAdd, Nat.reduceSub, Array.replicate_succ, Array.replicate_zero, List.push_toArray, List.append_toArray, List.nil_append, List.cons_append]
  obtain ⟨hc, hC⟩ := hd _ _ h0
  gi_wp2_with (refine ⟨trivial, fun h_ => (by cases h_), ?_⟩; gi_at_call 32; refine (callsIn_wide.2 (walk_At.calls k A0 c0 d 0 x0 b0 _ hC hc0 hAt)).mono ?_; rintro e w1 ⟨u, rfl, hR, hB⟩)
  gi_loopg [3, 4] k (fun kq v3 v4 wr => ∃ (x : List Int) (b : Bool) (pre : List (List Int)) (W0 : World), v4 = .bool b ∧ Aside0 (walk_All.l0 kq d x b pre = some r) ∧ Aside0 (J pre W0) ∧ Aside0 (Below W0.heap.size W0 wr) ∧ Aside0 (Kd.R (Kd.int .i64) 3 wr W0.heap.size (fun _ => True) v3 x))
  case atStart => exact ⟨x0, b0, [], W, rfl, ⟨hl0⟩, ⟨h0⟩, ⟨hB⟩, ⟨hR⟩⟩
  case round =>
    obtain ⟨x, b, pre, W0, rfl, H, hJ0, hB0, hR0⟩ := hrel
    cases gk with
    | zero => exact absurd H.out (by simp [walk_All.l0])
    | succ kq =>
      have H1 := H.out
      simp only [walk_All.l0] at H1
      cases b with
      | true =>
        rw [if_pos rfl] at H1
        split at H1
        · rename_i hlen
          obtain ⟨⟨y, more⟩, hN, H2⟩ := Option.bind_eq_some_iff.mp H1
          obtain ⟨fn, tmps, assign, body, hy, hRR⟩ := hY pre x u3 W0 wr hlen hJ0.out hB0.out hR0.out
          gi_wp2
          refine ⟨fun h_ => (by cases h_), hRR.mono ?_⟩
          rintro e W' ⟨rfl, hJ', A, c, rfl, hle, hC'⟩
          obtain ⟨hc1, hC1⟩ := hd _ _ hJ'
          gi_wp2_with (refine ⟨trivial, fun h_ => (by cases h_), ?_⟩; gi_at_call 34; refine (callsIn_wide.2 (walk_Next.calls kq A0 c0 d A c x y more _ hC1 hc0 hC' hle hN)).mono ?_; rintro e w2 ⟨u2, rfl, hR2, hB2⟩)
          gi_roundg kq
          case rel => exact ⟨y, more, pre ++ [x], W', rfl, ⟨H2⟩, ⟨hJ'⟩, ⟨hB2⟩, ⟨hR2⟩⟩
          case measure => omega
        · cases H1
      | false =>
        rw [if_neg (by decide)] at H1
        obtain rfl := Option.some.inj H1
        gi_wp2
        all_goals (refine ⟨fun _ h_ => (by cases h_), ?_⟩; gi_wp2; go_end0; exact ⟨⟨_, rfl⟩, hJ _ _ _ hJ0.out hB0.out⟩)


set_option maxHeartbeats 1000000 in
theorem walk_All.places (m : Nat) (A0 : Option Addr) (c0 k0 : Nat) (w : World) :
    CallsIn Fence.wide m Try.prog 50 #[.slice A0 k0 c0] w fun e w' => e = .returned (.func (.func 56) #[] #[.pointer (some ⟨w.heap.size, 0, none⟩)]) ∧ w' = w.alloc (.cells #[.slice A0 k0 c0] 22) := by
  refine callsIn_of_wp Try.func50 rfl trivial ?_ rfl
  simp only [Try.ntmps50, List.size_toArray, List.length_cons, List.length_nil, Nat.reduceAdd, Nat.reduceSub, Array.replicate_succ, Array.replicate_zero, List.push_toArray, List.append_toArray, List.nil_append, List.cons_append]
  gi_wp2
  go_ret
  exact ⟨rfl, rfl⟩

/-- How a round's body is left. -/
def walk_All.post (B : Nat) (W : World) (R : World → Prop) : Exit → Act → World → Prop
  | .normal, _, W' => W'.heap[B]? = W.heap[B]? ∧ W'.heap[B + 1]? = W.heap[B + 1]? ∧ ∀ o, R (W'.putObj (B + 1) o)
  | _, _, _ => False

/-- The statement 'for x := range seq', where the body never leaves the loop; what is handed over is a row made just now. -/
theorem walk_All.range {P : Program} {Q : Exit → Act → World → Prop} {a : Act} {w : World} {n : Nat} {g : Operand} {p : Tmp} {assign body : Code} {gf : Nat} {lb : Array Value} (hg : a.eval g = .func (.func gf) #[] lb) (eg : ∀ args w, (callFunc gf args).run P w = .ok (.enter gf args) w)
    (I : List (List Int) → World → Prop) (ty N : Nat) (r : List (List Int)) (a₁ : Value → Act) (h0 : ∀ o o', I [] ((w.alloc o).alloc o')) (hIb : ∀ pre A B, I pre A → Below A.heap.size A B → I pre B)
    (hseq : ∀ (l : Nat) (J : List (List Int) → World → Prop) (W : World), (∀ pre A B, J pre A → Below A.heap.size A B → J pre B) → (∀ pre W, J pre W → I pre W) →
      (∀ pre x u W0 W1, pre.length < N → J pre W0 → Below W0.heap.size W0 W1 → Kd.R (Kd.int .i64) ty W1 W0.heap.size (fun _ => True) u x →
        YieldAt Fence.wide (n - 1 - 1) P l #[u] W1 fun e W' => e = .returned (.bool true) ∧ J (pre ++ [x]) W' ∧ ∃ A c, u = .slice A x.length c ∧ x.length ≤ c ∧ Kd.C (Kd.int .i64) W' A x.length x) →
      J [] W → CallsIn Fence.wide (n - 1) P gf (#[.func (.yield l) #[] #[]] ++ lb) W fun e W' => (∃ v, e = .returned v) ∧ J r W')
    (hassign : ∀ (l : Nat) (u : Value) (W : World) (K : Act → World → Prop), K (a₁ u) W → assign.wpIn (Fence.wide.inRound l) (n - 1 - 1) P (Exit.then K (fun _ _ _ => False)) { tmps := a.tmps.setIfInBounds p u, defers := [] } W)
    (hbody : ∀ (l : Nat) pre x u W0 W1 o, pre.length < N → I pre W0 → w.heap.size + 1 < W0.heap.size → Below W0.heap.size W0 W1 → Kd.R (Kd.int .i64) ty W1 W0.heap.size (fun _ => True) u x →
      body.wpIn (Fence.wide.inRound l) (n - 1 - 1) P (walk_All.post w.heap.size (W1.putObj (w.heap.size + 1) o) fun W' => I (pre ++ [x]) W' ∧ ∃ A c, u = .slice A x.length c ∧ x.length ≤ c ∧ Kd.C (Kd.int .i64) W' A x.length x) (a₁ u) (W1.putObj (w.heap.size + 1) o))
    (hdone : ∀ W o, I r W → w.heap.size + 1 < W.heap.size → (W.putObj (w.heap.size + 1) o).heap[w.heap.size]? = some (.deferred (some [])) → Q .normal { a with defers := { target := .collected w.heap.size, args := #[] } :: a.defers } (W.putObj (w.heap.size + 1) o)) :
    (Code.rangeFunc g #[p] assign body).wpIn Fence.wide n P Q a w := by
  refine wpIn_rangeFunc ?_
  intro fn hfn
  obtain ⟨rec, hrec⟩ : ∃ rec : LoopState → Option Code → Loop, rec = fun st pe => { state := st, pending := pe, fn, tmps := a.tmps, params := #[p], assign, body, defers := w.heap.size } := ⟨_, rfl⟩
  obtain ⟨W1, hW1⟩ : ∃ W1, (w.alloc (.deferred (some []))).alloc (.loop (rec .ready none)) = W1 := ⟨_, rfl⟩
  have hL1 : W1.heap[w.heap.size + 1]? = some (.loop (rec .ready none)) := by
    rw [← hW1]; have := World.alloc_heap_new (w.alloc (.deferred (some []))) (.loop (rec .ready none)); rwa [World.size_alloc] at this
  have hK1 : W1.heap[w.heap.size]? = some (.deferred (some [])) := by
    rw [← hW1]; exact (Below.heap_alloc _ _ _ (by simp)).trans (World.alloc_heap_new w _)
  refine ⟨w.heap.size + 1, [{ target := .collected w.heap.size, args := #[] }], W1, { target := .fn (.func gf) lb, args := #[.func (.yield (w.heap.size + 1)) #[] #[]] }, W1, gf,
    #[.func (.yield (w.heap.size + 1)) #[] #[]] ++ lb, W1, ?_, ?_, ?_, ?_, fun h_ => (by cases h_), ?_⟩
  · rw [← hW1, hrec]; exact run_enterLoop_outer _ _ _ _ _
  · simp only [resolve, hg]
    simp [go_sem]
  · intro f' hf'; trivial
  · simp [invoke, go_sem, eg]
  · refine (hseq (w.heap.size + 1) (fun pre W => I pre W ∧ W.heap[w.heap.size + 1]? = some (.loop (rec .ready none)) ∧ W.heap[w.heap.size]? = some (.deferred (some []))) W1
      (fun pre A B h hb => ⟨hIb pre A B h.1 hb, (hb.block _ (Array.getElem?_eq_some_iff.1 h.2.1).1).trans h.2.1, (hb.block _ (Array.getElem?_eq_some_iff.1 h.2.2).1).trans h.2.2⟩) (fun _ _ h => h.1) ?_ ⟨by rw [← hW1]; exact h0 _ _, hL1, hK1⟩).mono ?_
    · rintro pre x u W0 W2 hlen ⟨hi, hl, hk⟩ hb hR
      have hlt0 : w.heap.size + 1 < W0.heap.size := (Array.getElem?_eq_some_iff.1 hl).1
      have hl2 := (hb.block _ hlt0).trans hl
      have hk2 := (hb.block _ (Nat.lt_of_succ_lt hlt0)).trans hk
      have hlt : w.heap.size + 1 < W2.heap.size := Nat.lt_of_lt_of_le hlt0 hb.size
      have hy := run_yield (P := P) (args := #[u]) hl2 (by rw [hrec]; rfl)
      rw [hrec] at hy
      refine ⟨fn, _, assign, body, hy, roundIn_of_wpIn hfn ?_⟩
      have hz_ : (#[p].zip #[u]).foldl (fun (t : Array Value) (x : Tmp × Value) => t.setIfInBounds x.1 x.2) a.tmps = a.tmps.setIfInBounds p u := by simp
      show assign.wpIn _ _ _ _ { tmps := (#[p].zip #[u]).foldl (fun (t : Array Value) (x : Tmp × Value) => t.setIfInBounds x.1 x.2) a.tmps, defers := [] } W2
      rw [hz_]
      refine hassign _ u W2 _ ?_
      refine ⟨_, run_beginRound hl2 (by rw [hrec]), ?_⟩
      have hl3 : (W2.putObj (w.heap.size + 1) (.loop { rec .ready none with state := .busy })).heap[w.heap.size + 1]? = some (.loop { rec .ready none with state := .busy }) := World.putObj_heap_same hlt
      have hk3 : (W2.putObj (w.heap.size + 1) (.loop { rec .ready none with state := .busy })).heap[w.heap.size]? = some (.deferred (some [])) := (World.putObj_heap_other (by omega)).trans hk2
      refine wpIn_mono (hbody _ pre x u W0 W2 _ hlen hi hlt0 hb hR) ?_
      intro e a3 W3 hp
      cases e with
      | normal =>
        obtain ⟨hk4, hl4, hp⟩ := hp
        have hl5 := hl4.trans hl3
        have := run_endRound (P := P) none hl5
        refine ⟨_, _, this, rfl, ⟨(hp _).1, ?_, ?_⟩, (hp _).2⟩
        · rw [hrec]; exact World.putObj_heap_same (Array.getElem?_eq_some_iff.1 hl5).1
        · exact (World.putObj_heap_other (by omega)).trans (hk4.trans hk3)
      | ret => exact hp.elim
      | exit id => exact hp.elim
      | goto t => exact hp.elim
      | panic ch => exact hp.elim
      | outgrown => exact hp.elim
    · rintro e W2 ⟨⟨v, rfl⟩, hi, hl, hk⟩
      have hlt := (Array.getElem?_eq_some_iff.1 hl).1
      have := run_endLoop (P := P) hl (by rw [hrec]; simp)
      rw [hrec] at this
      exact ⟨none, _, this, hdone W2 _ hi hlt ((World.putObj_heap_other (by omega)).trans hk)⟩

set_option maxRecDepth 100000 in
set_option maxHeartbeats 4000000 in
theorem walk_All.calls (k : Nat) (A0 : Option Addr) (c0 : Nat) (l0 : List Int) (r : List (List Int)) (w : World) (hr0 : Kd.C (Kd.int .i64) w A0 l0.length l0) (hc0 : l0.length ≤ c0) (h : walk_All.f k l0 = some r) :
    Calls Try.prog 31 #[.slice A0 l0.length c0] w fun e w' => ∃ v0_ : Value, e = .returned v0_ ∧ Kd.N (Kd.slice 3 (Kd.int .i64)) 22 w' w.heap.size (fun k_ => w.heap.size ≤ k_) v0_ r ∧ Below w.heap.size w w' := by
  refine (callsIn_wide (n := 5)).1 ?_
  refine callsIn_of_wp_marks Try.func31 rfl trivial ?_ rfl
  simp only [Try.ntmps31, List.size_toArray, List.length_cons, List.length_nil, Nat.reduceAdd, Nat.reduceSub, Array.replicate_succ, Array.replicate_zero, List.push_toArray, List.append_toArray, List.nil_append, List.cons_append]
  gi_wp2_with (refine ⟨trivial, ?_⟩; gi_at_call 50; refine (walk_All.places 4 A0 c0 l0.length _).mono ?_; rintro e w' ⟨rfl, rfl⟩)
  obtain ⟨W, hW⟩ : ∃ W, ((w.alloc (.cells #[.slice none 0 0] 44)).alloc (.cells #[.slice A0 l0.length c0] 22)) = W := ⟨_, rfl⟩
  have hsz : W.heap.size = w.heap.size + 2 := by rw [← hW]; simp
  have hBW : Below w.heap.size w W := by rw [← hW]; exact ((Below.refl _ w).alloc (Nat.le_refl _) _).alloc (by simp) _
  have hx0 : Boxed W w.heap.size 44 (.slice none 0 0) := by rw [← hW]; exact (Boxed.new w 44 (.slice none 0 0)).alloc _
  have hx1 : W.heap[w.heap.size + 1]? = some (.cells #[.slice A0 l0.length c0] 22 (0, 0)) := by
    rw [← hW]; have := World.alloc_heap_new (w.alloc (.cells #[.slice none 0 0] 44)) (.cells #[.slice A0 l0.length c0] 22); rwa [World.size_alloc] at this
  rw [hW]
  refine walk_All.range (gf := 56) (lb := #[.pointer (some ⟨w.heap.size + 1, 0, none⟩)]) rfl (enters_of Try.func56 (by kernel_rfl) rfl)
    (fun pre W => (∃ v, Boxed W w.heap.size 44 v ∧ Kd.N (Kd.slice 3 (Kd.int .i64)) 22 W w.heap.size (fun k => w.heap.size + 3 < k) v pre) ∧ Below w.heap.size w W ∧ W.heap[w.heap.size + 1]? = some (.cells #[.slice A0 l0.length c0] 22 (0, 0)))
    3 1099511627776 r (fun u => { tmps := #[.slice A0 l0.length c0, undef, .slice none 0 0, .pointer (some ⟨w.heap.size, 0, none⟩), u, .slice A0 l0.length c0, .func (.func 56) #[] #[.pointer (some ⟨w.heap.size + 1, 0, none⟩)], u, undef, undef, undef, undef, undef], defers := [] }) ?h0 ?hIb ?hseq ?assign ?body ?done
  case h0 =>
    intro o o'
    refine ⟨⟨_, (hx0.alloc o).alloc o', Kd.N_nil _ _ _ _ _⟩, (hBW.alloc hBW.size o).alloc (by simp; have := hBW.size; omega) o', ?_⟩
    exact (Below.heap_alloc _ _ _ (by simp; omega)).trans ((Below.heap_alloc _ _ _ (by omega)).trans hx1)
  case hIb =>
    rintro pre A B ⟨⟨v, hv, hN⟩, hB, hd⟩ hb
    exact ⟨⟨v, (hb.block _ hv.lt).trans hv, Kd.N_below hN hb⟩, hB.trans (hb.mono hB.size), (hb.block _ (Array.getElem?_eq_some_iff.1 hd).1).trans hd⟩
  case hseq =>
    intro l J W' hJ hJI hY h0'
    exact walk_All.iter 4 l (w.heap.size + 1) J k A0 c0 l0 hc0 r hJ (fun pre W'' h'' => ⟨by have := (hJI _ _ h'').2.2; simp [World.cell?, this], Kd.C_below hr0 (hJI _ _ h'').2.1⟩) hY h W' h0'
  case assign =>
    intro l u W' K hK
    gi_wp2
    exact hK
  case body =>
    rintro l pre x u W0 W1 o hlen ⟨⟨v, hv, hN⟩, hB, hd⟩ hlt hb hR
    rw [hsz] at hlt ⊢
    have hput : ∀ (V : World) (j : Nat), j ≠ w.heap.size + 3 → (V.putObj (w.heap.size + 2 + 1) o).heap[j]? = V.heap[j]? := fun V j hj => World.putObj_heap_other (by omega)
    obtain ⟨V, hV⟩ : ∃ V, W1.putObj (w.heap.size + 2 + 1) o = V := ⟨_, rfl⟩
    have hVs : Aside0 (V.heap.size = W1.heap.size) := ⟨by rw [← hV]; simp [World.putObj]⟩
    have hVk : ∀ j, j ≠ w.heap.size + 3 → V.heap[j]? = W1.heap[j]? := fun j hj => by rw [← hV]; exact hput W1 j hj
    rw [hV]
    have hsz1 := hb.size
    have hv1 : Boxed W1 w.heap.size 44 v := (hb.block _ hv.lt).trans hv
    have hv2 : Boxed V w.heap.size 44 v := (hVk _ (by omega)).trans hv1
    have hB1 : Below w.heap.size w W1 := hB.trans (hb.mono hB.size)
    have hB2 : Below w.heap.size w V := by rw [← hV]; exact hB1.grown (grownBy_putObj' W1 _ o) hB1.size (fun k e => by cases e; omega)
    have hN2 : Kd.N (Kd.slice 3 (Kd.int .i64)) 22 V w.heap.size (fun k => w.heap.size + 3 < k) v pre := Kd.N_step (Kd.N_below hN hb) (fun k hk _ => hVk k (by omega))
    have hlv := Kd.N_lt hN
    have hR2 : Kd.R (Kd.int .i64) 3 V W0.heap.size (fun k => W0.heap.size ≤ k) u x := Kd.R_mono (Kd.R_step (Kd.R_mono (Kd.R_bound hR) (fun _ hk => hk.2)) (fun k hk _ => hVk k (by have := hk.1; omega))) (fun _ hk => hk.1)
    have hd1 : V.heap[w.heap.size + 1]? = some (.cells #[.slice A0 l0.length c0] 22 (0, 0)) := (hVk _ (by omega)).trans ((hb.block _ (Array.getElem?_eq_some_iff.1 hd).1).trans hd)
    have hp : Kd.FK (Kd.slice 3 (Kd.int .i64)) V (fun k => W0.heap.size ≤ k) x [u] := Kd.FK_of_M (base := W0.heap.size) ⟨u, rfl, hR2⟩
    obtain ⟨A, c, rfl⟩ := Kd.R_slice hR2
    have hc := hv2.cell
    have hf := hv2.frozen
    gi_wp2_with (gi_at_builtin; refine walk_All.app (Kd.slice 3 (Kd.int .i64)) w.heap.size rfl (.tmp 8) (.tmp 10) 44 22 (.slice none 0 0) 24 rfl Try.underlying44 info22 rfl (Nat.lt_succ_self 0) (by decide) v pre x [.slice A x.length c] (fun k => w.heap.size + 3 < k) (fun k => W0.heap.size ≤ k) rfl rfl hp (fun k hk => ⟨by have := hb.size; omega, fun e => by have := hlv k e.symm; omega⟩) (fun k hk => by have := hVs.out; omega) hN2 (by have := hVs.out; omega) (by omega) ?_; intro v1 w1 hN3 hg hat; obtain ⟨A1, c1, rfl⟩ := Kd.N_slice hN3; have hne : some w.heap.size ≠ v.ownBlock := (fun e => by have := hN2.1 _ e.symm; omega); clear hat; have hv3 : Boxed w1 w.heap.size 44 v := hv2.kept hg hne; have hc1 := hv3.cell; have hf1 := hv3.frozen)
    obtain ⟨v1, hv1_⟩ : ∃ v1, Value.slice A1 (pre ++ [x]).length c1 = v1 := ⟨_, rfl⟩
    have hv1' : Value.slice A1 (pre.length + 1) c1 = v1 := by rw [← hv1_]; simp
    rw [hv1_] at hN3
    rw [hv1']
    have hkeep : ∀ j, j < V.heap.size → some j ≠ v.ownBlock → j ≠ w.heap.size → (w1.setCell ⟨w.heap.size, 0, none⟩ v1).heap[j]? = V.heap[j]? := fun j hj hjv hjb => (Below.heap_setCell _ _ _ _ hjb).trans (hg.block j hj hjv)
    have hvn : ∀ j, j ≤ w.heap.size + 3 → some j ≠ v.ownBlock := fun j hj e => by have := hN2.1 _ e.symm; omega
    have hlt3 : w.heap.size + 3 < V.heap.size := by have := hVs.out; omega
    refine ⟨hkeep _ (by omega) (hvn _ (by omega)) (by omega), hkeep _ (by omega) (hvn _ (by omega)) (by omega), fun o' => ?_⟩
    have hZ : ∀ j, j ≠ w.heap.size + 3 → ((w1.setCell ⟨w.heap.size, 0, none⟩ v1).putObj (w.heap.size + 2 + 1) o').heap[j]? = (w1.setCell ⟨w.heap.size, 0, none⟩ v1).heap[j]? := fun j hj => World.putObj_heap_other (by omega)
    refine ⟨⟨⟨v1, (hZ _ (by omega)).trans (hv3.set v1), Kd.N_step (Kd.N_far hN3 (fun k hk => by simp; omega) v1) (fun k hk _ => hZ k (by omega))⟩, ?_, (hZ _ (by omega)).trans ((hkeep _ (by omega) (hvn _ (by omega)) (by omega)).trans hd1)⟩, A, c, rfl, ?_⟩
    · exact ((hB2.grown hg hB2.size (fun j e => by have := hN2.1 j e; omega)).setCell (p := ⟨w.heap.size, 0, none⟩) (Nat.le_refl _) _).grown (grownBy_putObj' _ _ o') (by simp [World.setCell]; have := hg.size; omega) (fun j e => by cases e; omega)
    · have hR3 := Kd.R_step (w1 := (w1.setCell ⟨w.heap.size, 0, none⟩ v1).putObj (w.heap.size + 2 + 1) o') hR2 (fun j hj hjl => (hZ j (by omega)).trans (hkeep j hjl (fun e => by have := hlv j e.symm; omega) (by omega)))
      exact (Kd.R_reads' hR3).2
  case done =>
    rintro W' o ⟨⟨v, hv, hN⟩, hB, hd⟩ hlt hD
    rw [hsz] at hlt hD ⊢
    have hZ : ∀ j, j ≠ w.heap.size + 3 → (W'.putObj (w.heap.size + 2 + 1) o).heap[j]? = W'.heap[j]? := fun j hj => World.putObj_heap_other (by omega)
    have hv1 : Boxed (W'.putObj (w.heap.size + 2 + 1) o) w.heap.size 44 v := (hZ _ (by omega)).trans hv
    have hc := hv1.cell
    gi_wp2
    refine ⟨by simp, .inl ⟨_, _, rfl, run_takeDeferred hD, ?_⟩⟩
    have hY : ∀ j, j ≠ w.heap.size + 3 → j ≠ w.heap.size + 2 → ((W'.putObj (w.heap.size + 2 + 1) o).putObj (w.heap.size + 2) (.deferred none)).heap[j]? = W'.heap[j]? := fun j hj hj2 => (World.putObj_heap_other (by omega)).trans (hZ j hj)
    refine ⟨_, results_tmp rfl _ _ _, v, rfl, Kd.N_mono (Kd.N_step hN (fun k hk _ => hY k (by omega) (by omega))) (fun k hk => by omega), ?_⟩
    exact (hB.grown (grownBy_putObj' _ _ o) hB.size (fun j e => by cases e; omega)).grown (grownBy_putObj' _ _ _) (by simp [World.putObj]; omega) (fun j e => by cases e; omega)

end

end Go.Proofs.Ytpoldofghcmfnaa.Q
