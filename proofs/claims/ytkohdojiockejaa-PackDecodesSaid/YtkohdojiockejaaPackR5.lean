/- The reader: a command. -/
import Derived.Test.YtkohdojiockejaaQxfPlainBytes
import Derived.Test.YtkohdojiockejaaQxfLaw45Many
import Derived.Test.YtkohdojiockejaaQxfRef45Encode
import Derived.Test.YtkohdojiockejaaPackBits
import Derived.Test.YtkohdojiockejaaPackW0
import Derived.Test.YtkohdojiockejaaPackW1
import Derived.Test.YtkohdojiockejaaPackW2
import Derived.Test.YtkohdojiockejaaPackW3
import Derived.Test.YtkohdojiockejaaPackR0
import Derived.Test.YtkohdojiockejaaPackR1
import Derived.Test.YtkohdojiockejaaPackR4
namespace Go.Proofs.Ytkohdojiockejaa.Q
open Go.RowKit Go.Proofs.YtkohdojiockejaaW.PrintWords Go.Proofs.YtkohdojiockejaaW.PrintLast Go.Proofs.YtkohdojiockejaaW.PrintMore
attribute [local go_sem] max2_int min2_int max_two min_two max_three min_three max_four min_four
set_option linter.unusedVariables false
set_option linter.unusedSimpArgs false
namespace Pk
def rt (bs : List Int) : Rd S71 := (rn bs).next fun a l => (rn l).next fun b l => (rw_ l).next fun c l => .ok ⟨a, b, c⟩ l
def rts : Nat → List Int → Rd (List S71)
  | 0, bs => .ok [] bs
  | k + 1, bs => (rt bs).next fun t l => (rts k l).next fun ts l' => .ok (t :: ts) l'
def rc8 (f s a : List Int) (k : Bool) (t d : List Int) (ts : List S71) (l : List Int) : Rd S45 := (rb l).next fun o l => .ok ⟨f.getD 0 0, f.getD 1 0, f.getD 2 0, s, ⟨a.getD 0 0, a.getD 1 0, a.getD 2 0, a.getD 3 0, a.getD 4 0, a.getD 5 0, a.getD 6 0, a.getD 7 0, k, t⟩, d, ts, o⟩ l
def rc6 (f s a : List Int) (k : Bool) (t d : List Int) (l : List Int) : Rd S45 := (rm 256 l).next fun n l => (rts n.toNat l).next fun ts l => rc8 f s a k t d ts l
def rc5 (f s a : List Int) (k : Bool) (t : List Int) (l : List Int) : Rd S45 := (rl l).next fun d l => rc6 f s a k t d l
def rc4 (f s a : List Int) (k : Bool) (l : List Int) : Rd S45 := (rl l).next fun t l => rc5 f s a k t l
def rc3 (f s a : List Int) (l : List Int) : Rd S45 := (rb l).next fun k l => rc4 f s a k l
def rc2 (f s : List Int) (l : List Int) : Rd S45 := (rns 8 l).next fun a l => rc3 f s a l
def rc1 (f : List Int) (l : List Int) : Rd S45 := (rl l).next fun s l => rc2 f s l
/-- A command. -/
def rc (bs : List Int) : Rd S45 := (rns 3 bs).next fun f l => rc1 f l
abbrev nilv : Value := .slice none 0 0
/-- A command's cells. -/
def c45 (f : List Int) (v3 : Value) (a : List Int) (k : Bool) (v13 v14 v15 : Value) (o : Bool) : Array Value := #[.int .i64 (f.getD 0 0), .int .i64 (f.getD 1 0), .int .i64 (f.getD 2 0), v3, .int .i64 (a.getD 0 0), .int .i64 (a.getD 1 0), .int .i64 (a.getD 2 0), .int .i64 (a.getD 3 0), .int .i64 (a.getD 4 0), .int .i64 (a.getD 5 0), .int .i64 (a.getD 6 0), .int .i64 (a.getD 7 0), .bool k, v13, v14, v15, .bool o]
/-- What holds while a command is read. -/
structure CI (W w w' : World) (gs g2 gc : Nat) (cs : Array Value) (bs : List Int) : Prop where
  src : Sr W w' gs bs
  fq : Fq gs w w'
  res : w'.heap[g2]? = some (.cells (c45 [] nilv [] false nilv nilv nilv false) 45 (0, 0))
  com : w'.heap[gc]? = some (.cells cs 45 (0, 0))
  ge2 : w.heap.size ≤ g2
  gec : w.heap.size ≤ gc
  ne : g2 ≠ gc
  le : W.heap.size ≤ w.heap.size
theorem bel_put {B g j : Nat} {w : World} {v : Value} (hg : B ≤ g) : Below B w (w.setCell ⟨g, j, none⟩ v) := ⟨rfl, rfl, rfl, by rw [World.size_setCell]; exact Nat.le_refl _, fun k hk => Below.heap_setCell w ⟨g, j, none⟩ v k (by show k ≠ g; omega)⟩
section
variable {W w w1 w2 : World} {gs g2 gc : Nat} {cs : Array Value} {bs bs' : List Int}
theorem CI.call (h : CI W w w1 gs g2 gc cs bs) (hs : Sr W w2 gs bs') (hf : Fq gs w1 w2) : CI W w w2 gs g2 gc cs bs' :=
  ⟨hs, h.fq.trans hf, hf.fr.blk h.res (by decide), hf.fr.blk h.com (by decide), h.ge2, h.gec, h.ne, h.le⟩
theorem CI.fr45 (h : CI W w w1 gs g2 gc cs bs) (j : Nat) (v : Value) : Fr [45] w1 (w1.setCell ⟨gc, j, none⟩ v) := Fr.set (Fr.refl [45] w1) h.com (by simp)
theorem CI.put (h : CI W w w1 gs g2 gc cs bs) (j : Nat) (v : Value) {cs' : Array Value} (h1 : v.oneCell' = true) (he : cs.setIfInBounds j v = cs') : CI W w (w1.setCell ⟨gc, j, none⟩ v) gs g2 gc cs' bs := by
  subst he
  exact ⟨h.src.fr (Q := [45]) (h.fr45 j v) (by simp) (by simp) (below_set h.src.bel (Nat.le_trans h.le h.gec)), h.fq.low (bel_put h.gec), blk_far (p := ⟨gc, j, none⟩) h.res h.ne v, blk_put h.com j v rfl, h.ge2, h.gec, h.ne, h.le⟩
theorem CI.R {α : Type} {d : Kd α} {e b : Nat} {ok : Nat → Prop} {u : Value} {xs : List α} (h : CI W w w1 gs g2 gc cs bs) (j : Nat) (v : Value) (hr : d.R e w1 b ok u xs) (hq : ∀ q ∈ e :: d.E, q ∉ [45]) : d.R e (w1.setCell ⟨gc, j, none⟩ v) b ok u xs := R_fr hr (h.fr45 j v) hq
theorem CI.below (h : CI W w w1 gs g2 gc cs bs) (hb : Below w1.heap.size w1 w2) : CI W w w2 gs g2 gc cs bs :=
  ⟨h.src.step hb, h.fq.trans (Fq.of_below hb), blk_below h.res hb, blk_below h.com hb, h.ge2, h.gec, h.ne, h.le⟩
theorem CI.at_ (h : CI W w w1 gs g2 gc cs bs) (j : Nat) {v : Value} (hv : cs[j]? = some v) : w1.cell? ⟨gc, j, none⟩ = some v ∧ w1.frozen? ⟨gc, j, none⟩ = false := ⟨(blk_cell h.com j).trans hv, blk_frozen h.com j⟩
theorem CI.row {α : Type} {d : Kd α} {e : Nat} {ok : Nat → Prop} {v : Value} {xs : List α} (h : CI W w w1 gs g2 gc cs bs) (hr : d.R e w1 w.heap.size ok v xs) (hg : w1.grownBy w2 v.ownBlock) (hb : Below w.heap.size w1 w2) (h5 : e ≠ 5) (h58 : e ≠ 58) (h45 : e ≠ 45) : CI W w w2 gs g2 gc cs bs :=
  ⟨h.src.row hr hg hb h.le h5 h58, h.fq.low hb, blk_grown (g := g2) h.res hg (Kd.R_ne hr h.res h45), blk_grown (g := gc) h.com hg (Kd.R_ne hr h.com h45), h.ge2, h.gec, h.ne, h.le⟩
theorem Fr.setRow {Q : List Nat} {g q : Nat} {old rs : Array Value} (hb : w1.heap[g]? = some (.cells old q (0, 0))) (hq : q ∈ Q) : Fr Q w1 (w1.setRow g rs) :=
  ⟨by rw [setRow_size]; exact Nat.le_refl _, fun k cs' q' hk hq' => setRow_other w1 g k rs (fun e => by subst e; rw [hk] at hb; cases hb; exact hq' hq)⟩
theorem CI.fin (h : CI W w w1 gs g2 gc cs bs) (rs : Array Value) : Fr [45] w1 (w1.setRow g2 rs) ∧ Sr W (w1.setRow g2 rs) gs bs ∧ Fq gs w (w1.setRow g2 rs) := by
  have hf : Fr [45] w1 (w1.setRow g2 rs) := Fr.setRow h.res (by simp)
  exact ⟨hf, h.src.fr (Q := [45]) hf (by simp) (by simp) (bel_row h.src.bel (Nat.le_trans h.le h.ge2) rs), h.fq.low (bel_row (Below.refl _ _) h.ge2 rs)⟩
theorem CI.start (hs : Sr W w1 gs bs) (hf : Fq gs w w1) (h2 : w1.heap[g2]? = some (.cells (c45 [] nilv [] false nilv nilv nilv false) 45 (0, 0))) (hc : w1.heap[gc]? = some (.cells cs 45 (0, 0))) (ge2 : w.heap.size ≤ g2) (gec : w.heap.size ≤ gc) (ne : g2 ≠ gc) (le : W.heap.size ≤ w.heap.size) : CI W w w1 gs g2 gc cs bs := ⟨hs, hf, h2, hc, ge2, gec, ne, le⟩
end
theorem results_cell {fn : Func} {t : Tmp} {ty : TypeId} (h : fn.results = #[.cell t ty]) (tmps : Array Value) (P : Program) (w : World) (p : Addr) (v : Value) (hp : tmps[t]?.getD undef = .pointer (some p)) (hv : (loadVar ty p).run P w = .ok v w) : (results fn tmps).run P w = .ok v w := by
  have ha : (asAddr (.pointer (some p))).run P w = .ok p w := rfl
  simp [results, h, hp, hv, ha]
theorem info71 : (Try.prog.info? 71).map (fun i => (i.zero, i.size, i.bytes)) = some (some (.agg #[.int .i64 0, .int .i64 0, .int .u64 0]), 3, 24) := by kernel_rfl
theorem row17 {w : World} {g t : Nat} {vs : List Value} (h : w.heap[g]? = some (.cells vs.toArray t (0, 0))) (k : Nat) (v : Value) (hv : vs[k]? = some v) : w.cell? ((⟨g, 0, none⟩ : Addr).add k) = some v := by
  rw [add_at, Nat.zero_add]
  exact (blk_cell h k).trans (by simpa using hv)
section
variable {P : Program} {ops : Array Oper} {Q : Exit → Act → World → Prop}
theorem fails_ {oi : Oper} {N : Option Tmp} {a : Act} {w : World} {K : Act → World → Prop} {f : FuncId} {fn : Func} {ar : Array Operand} {ts : Array TypeId} (hf : P.funcs[f]? = some fn) (hname : (fn.name == "runtime.NumGoroutine") = false) (hb : fn.body.isSome = true) (args : Array Value)
    (hw : Region.wanted oi (yielded ops a.tmps) = true) (hN : oi.dst = N) (hop : oi.op = .call { callee := .value (.func f), args := ar, argTypes := ts }) (hargs : ar.map a.eval = args)
    (h : Calls P f args w fun e w' => ∃ c, e = .panicked c ∧ Q (.panic c) a w') : if Region.wanted oi (yielded ops a.tmps) = true then Oper.wp P oi a w K Q else K (a.put N undef) w := by
  have he := enters_ hf hname hb args w
  have hrun : (execOp a.eval oi).run P w = .ok (.enter f args) w := by
    unfold execOp
    simp [hop, resolve, Deferred.ofValue, invoke, Act.eval, hargs, he]
  rw [if_pos hw]
  unfold Oper.wp
  rw [hrun, Oper.upon_enter]
  refine h.mono fun e w'' hh => ?_
  obtain ⟨c, rfl, hk⟩ := hh
  exact hk
end
theorem len0 {l : List Int} (h : l.length = 0) : l = [] := by
  match l, h with
  | [], _ => exact rfl
theorem len1 {l : List Int} (h : l.length = 1) : ∃ a0, l = [a0] := by
  match l, h with
  | [a0], _ => exact ⟨a0, rfl⟩
theorem len2 {l : List Int} (h : l.length = 2) : ∃ a0 a1, l = [a0, a1] := by
  match l, h with
  | [a0, a1], _ => exact ⟨a0, a1, rfl⟩
theorem len3 {l : List Int} (h : l.length = 3) : ∃ a0 a1 a2, l = [a0, a1, a2] := by
  match l, h with
  | [a0, a1, a2], _ => exact ⟨a0, a1, a2, rfl⟩
theorem len4 {l : List Int} (h : l.length = 4) : ∃ a0 a1 a2 a3, l = [a0, a1, a2, a3] := by
  match l, h with
  | [a0, a1, a2, a3], _ => exact ⟨a0, a1, a2, a3, rfl⟩
theorem len5 {l : List Int} (h : l.length = 5) : ∃ a0 a1 a2 a3 a4, l = [a0, a1, a2, a3, a4] := by
  match l, h with
  | [a0, a1, a2, a3, a4], _ => exact ⟨a0, a1, a2, a3, a4, rfl⟩
theorem len6 {l : List Int} (h : l.length = 6) : ∃ a0 a1 a2 a3 a4 a5, l = [a0, a1, a2, a3, a4, a5] := by
  match l, h with
  | [a0, a1, a2, a3, a4, a5], _ => exact ⟨a0, a1, a2, a3, a4, a5, rfl⟩
theorem len7 {l : List Int} (h : l.length = 7) : ∃ a0 a1 a2 a3 a4 a5 a6, l = [a0, a1, a2, a3, a4, a5, a6] := by
  match l, h with
  | [a0, a1, a2, a3, a4, a5, a6], _ => exact ⟨a0, a1, a2, a3, a4, a5, a6, rfl⟩
theorem len8 {l : List Int} (h : l.length = 8) : ∃ a0 a1 a2 a3 a4 a5 a6 a7, l = [a0, a1, a2, a3, a4, a5, a6, a7] := by
  match l, h with
  | [a0, a1, a2, a3, a4, a5, a6, a7], _ => exact ⟨a0, a1, a2, a3, a4, a5, a6, a7, rfl⟩
def cm.T9 : Bool × List (List Nat × List Nat) := (true, [([], []), ([0], [0]), ([1], [1]), ([], []), ([3], [3]), ([4], [4]), ([], []), ([6], [6]), ([7], [7]), ([], []), ([9], [9]), ([10], [10]), ([], []), ([12], [12]), ([13], [13]), ([], []), ([15], [15]), ([16], [16]), ([], []), ([18], [18]), ([19], [19]), ([], []), ([21], [21]), ([22], [22]), ([2, 5, 8, 11, 14, 17, 20, 23], [2, 5, 8, 11, 14, 17, 20, 23]), ([24], [24]), ([], [])])
def cm.B9 : List Nat := [0, 1, 3, 0, 8, 24, 0, 64, 192, 0, 512, 1536, 0, 4096, 12288, 0, 32768, 98304, 0, 262144, 786432, 0, 2097152, 6291456, 16777215, 33554431, 0]
theorem cm.tab9 : rtab .any (opsOf Try.f21 9) = cm.T9 := by kernel_rfl
theorem cm.bits9 : waitsOk cm.T9.2 cm.B9 = true := by kernel_rfl
def cm.T21 : Bool × List (List Nat × List Nat) := (true, [([], []), ([0], [0]), ([], []), ([], []), ([], []), ([4], [4]), ([2, 3, 5], [2, 3, 5]), ([6], [6]), ([1, 7, 5], [1, 7]), ([0, 1, 2, 3, 4, 5, 6, 7, 8], []), ([9, 8, 8, 0, 1, 2, 3, 4, 5, 6, 7, 8], [8, 9])])
def cm.B21 : List Nat := [0, 1, 0, 0, 0, 16, 60, 124, 255, 511, 1023]
theorem cm.tab21 : rtab .any (opsOf Try.f21 21) = cm.T21 := by kernel_rfl
theorem cm.bits21 : waitsOk cm.T21.2 cm.B21 = true := by kernel_rfl
set_option maxHeartbeats 32000000 in
set_option maxRecDepth 100000 in
theorem command.rd (gs : Nat) (bs : List Int) (W w : World) (h : Sr W w gs bs) : Calls Try.prog 21 #[.pointer (some ⟨gs, 0, none⟩)] w (PR W w gs (fun w' x v => ∃ cs : List Value, v = .agg cs.toArray ∧ k45.M w' w.heap.size (fun _ => True) x cs) (rc bs)) := by
 have HS := aM h
 have HW := aM h.bel.size
 clear h
 obtain ⟨r, hr⟩ : ∃ r, rc bs = r := ⟨_, rfl⟩
 rw [hr]
 have HR := aM hr
 clear hr
 have HF := aM (Fq.refl gs w)
 have hu45 := Try.underlying45
 have hu42 := Try.underlying42
 have hu71 := Try.underlying71
 go_enter Try.func21, Try.ntmps21
 go_wp2_with (first
  | ((with_reducible refine gate_dst (N := 2) rfl ?_); refine box_event ?hg (N := 2) ?hd (cs := #[.int .i64 0, .int .i64 0, .int .i64 0, .slice .none 0 0, .int .i64 0, .int .i64 0, .int .i64 0, .int .i64 0, .int .i64 0, .int .i64 0, .int .i64 0, .int .i64 0, .bool false, .slice .none 0 0, .slice .none 0 0, .slice .none 0 0, .bool false]) (t := 45) ?hr ?_; (case hd => rfl); (case hg => rfl); (case hr => first | (go_simp; done) | (go_simp; rfl)); intro g2 hg w1 hbox hb; have B2 : Aside0 (w1.heap[g2]? = some (.cells (c45 [] (.slice .none 0 0) [] false (.slice .none 0 0) (.slice .none 0 0) (.slice .none 0 0) false) 45 (0, 0))) := ⟨hbox⟩; have G2 := gE (w := w) hg (Below.refl _ _); replace HS := aM (HS.out.step hb); replace HF := aM (HF.out.trans (Fq.of_below hb)); clear hb hbox hg)
  | ((with_reducible refine gate_dst (N := 3) rfl ?_); refine box_event ?hg (N := 3) ?hd (cs := #[.int .i64 0, .int .i64 0, .int .i64 0, .slice .none 0 0, .int .i64 0, .int .i64 0, .int .i64 0, .int .i64 0, .int .i64 0, .int .i64 0, .int .i64 0, .int .i64 0, .bool false, .slice .none 0 0, .slice .none 0 0, .slice .none 0 0, .bool false]) (t := 45) ?hr ?_; (case hd => rfl); (case hg => rfl); (case hr => first | (go_simp; done) | (go_simp; rfl)); intro gc hg w2 hbox hb; have G3 := gE (w := w1) hg (Below.refl _ _); have NE : Aside0 (g2 ≠ gc) := ⟨by have h1 := blk_lt B2.out; have h2 := G3.out; omega⟩; have CI0 : Aside0 (CI W w w2 gs g2 gc (c45 [] (.slice .none 0 0) [] false (.slice .none 0 0) (.slice .none 0 0) (.slice .none 0 0) false) bs) := ⟨CI.start (HS.out.step hb) (HF.out.trans (Fq.of_below hb)) (blk_below B2.out hb) hbox G2.out (Nat.le_trans HF.out.fr.1 G3.out) NE.out HW.out⟩; clear hb hbox hg)
  | ((with_reducible refine gate_dst (N := 14) rfl ?_); refine lit ?hg (N := 14) ?hd (cs := #[.pointer (some ⟨gc, 0, .none⟩), .pointer (some ⟨gc, 1, .none⟩), .pointer (some ⟨gc, 2, .none⟩)]) (t := 76) (n := 3) ?hr ?_; (case hd => rfl); (case hg => rfl); (case hr => first | (go_simp; done) | (go_simp; rfl)); intro gp hg w3 hbox hb; have HP := aM hbox; replace CI0 := aM (CI0.out.below hb); clear hg hbox hb))
 clear HS HF B2 G2 G3
 go_loopg [16] 3 (fun kq v16 w' => ∃ (i : Nat) (ns cs : List Int), v16 = .int .i64 (i : Int) ∧ Aside0 (i + kq = 3) ∧ Aside0 (ns.length = i) ∧ Aside0 ((rns kq cs).next (fun ys l => rc1 (ns ++ ys) l) = r) ∧ Aside0 (CI W w w' gs g2 gc (c45 ns (.slice .none 0 0) [] false (.slice .none 0 0) (.slice .none 0 0) (.slice .none 0 0) false) cs) ∧ Aside0 (w'.heap[gp]? = some (.cells #[.pointer (some ⟨gc, 0, .none⟩), .pointer (some ⟨gc, 1, .none⟩), .pointer (some ⟨gc, 2, .none⟩)] 76 (0, 0))))
 case atStart => exact ⟨0, [], bs, rfl, ⟨rfl⟩, ⟨rfl⟩, ⟨HR.out⟩, CI0, HP⟩
 case round =>
  clear CI0 HP HR
  obtain ⟨i, ns, cs, rfl, HI, HLN, HR, CI0, HP⟩ := hrel
  cases gk with
  | succ kq =>
   have hi : i = 0 ∨ i = 1 ∨ i = 2 := by have := HI.out; omega
   have hc := number.rd gs cs W
   have hc' := hc _ CI0.out.src
   have HR' := HR.out
   rw [rns] at HR'
   cases hn : rn cs with
   | bad k =>
    rw [hn] at hc' HR'
    obtain rfl : r = .bad k := HR'.symm
    have HC := aM hc'
    clear HR' HR hn hc hc'
    rcases hi with rfl | rfl | rfl
    ·skip
     have qp : wr.cell? ⟨gp, 0, .none⟩ = some (.pointer (some ⟨gc, 0, .none⟩)) ∧ wr.frozen? ⟨gp, 0, .none⟩ = false := ⟨(blk_cell HP.out 0).trans rfl, blk_frozen HP.out 0⟩
     go_wp2_with (first | (go_at_call 31; refine HC.out.mono ?_; rintro e w9 ⟨rfl, h1, h2⟩; exact ⟨rfl, rfl, h1, CI0.out.fq.fr.trans h2⟩))
    ·skip
     have qp : wr.cell? ⟨gp, 1, .none⟩ = some (.pointer (some ⟨gc, 1, .none⟩)) ∧ wr.frozen? ⟨gp, 1, .none⟩ = false := ⟨(blk_cell HP.out 1).trans rfl, blk_frozen HP.out 1⟩
     go_wp2_with (first | (go_at_call 31; refine HC.out.mono ?_; rintro e w9 ⟨rfl, h1, h2⟩; exact ⟨rfl, rfl, h1, CI0.out.fq.fr.trans h2⟩))
    ·skip
     have qp : wr.cell? ⟨gp, 2, .none⟩ = some (.pointer (some ⟨gc, 2, .none⟩)) ∧ wr.frozen? ⟨gp, 2, .none⟩ = false := ⟨(blk_cell HP.out 2).trans rfl, blk_frozen HP.out 2⟩
     go_wp2_with (first | (go_at_call 31; refine HC.out.mono ?_; rintro e w9 ⟨rfl, h1, h2⟩; exact ⟨rfl, rfl, h1, CI0.out.fq.fr.trans h2⟩))
   | ok y l2 =>
    rw [hn] at hc'
    rw [hn, next_ok] at HR'
    have HC := aM hc'
    have HR2 := aM HR'
    clear HR' HR hn hc hc'
    rcases hi with rfl | rfl | rfl
    ·skip
     obtain rfl := len0 HLN.out
     obtain rfl : kq = 2 := by have := HI.out; omega
     have qp : wr.cell? ⟨gp, 0, .none⟩ = some (.pointer (some ⟨gc, 0, .none⟩)) ∧ wr.frozen? ⟨gp, 0, .none⟩ = false := ⟨(blk_cell HP.out 0).trans rfl, blk_frozen HP.out 0⟩
     go_wp2_with (first | (go_at_call 31; refine HC.out.mono ?_; rintro e w9 ⟨_, rfl, rfl, h1, h2⟩; replace CI0 := aM (CI0.out.call h1 h2); replace HP := aM (h2.fr.blk HP.out (by decide)); have qc : w9.cell? ⟨gc, 0, .none⟩ = some (.int .i64 0) ∧ w9.frozen? ⟨gc, 0, .none⟩ = false := CI0.out.at_ 0 rfl; clear h1 h2))
     have NP : gp ≠ gc := fun e_ => by have h1 := HP.out; rw [e_, CI0.out.com] at h1; cases h1
     go_roundg 2
     case measure => omega
     case rel => exact ⟨1, [y], l2, by first | rfl | (rw [w64o (by decide) (by decide)]; rfl), ⟨rfl⟩, ⟨rfl⟩, ⟨by rw [← HR2.out]; cases rns 2 l2 <;> simp⟩, ⟨CI0.out.put 0 (.int .i64 y) rfl rfl⟩, ⟨blk_far (p := ⟨gc, 0, .none⟩) HP.out NP _⟩⟩
    ·skip
     obtain ⟨x0, rfl⟩ := len1 HLN.out
     obtain rfl : kq = 1 := by have := HI.out; omega
     have qp : wr.cell? ⟨gp, 1, .none⟩ = some (.pointer (some ⟨gc, 1, .none⟩)) ∧ wr.frozen? ⟨gp, 1, .none⟩ = false := ⟨(blk_cell HP.out 1).trans rfl, blk_frozen HP.out 1⟩
     go_wp2_with (first | (go_at_call 31; refine HC.out.mono ?_; rintro e w9 ⟨_, rfl, rfl, h1, h2⟩; replace CI0 := aM (CI0.out.call h1 h2); replace HP := aM (h2.fr.blk HP.out (by decide)); have qc : w9.cell? ⟨gc, 1, .none⟩ = some (.int .i64 0) ∧ w9.frozen? ⟨gc, 1, .none⟩ = false := CI0.out.at_ 1 rfl; clear h1 h2))
     have NP : gp ≠ gc := fun e_ => by have h1 := HP.out; rw [e_, CI0.out.com] at h1; cases h1
     go_roundg 1
     case measure => omega
     case rel => exact ⟨2, [x0, y], l2, by first | rfl | (rw [w64o (by decide) (by decide)]; rfl), ⟨rfl⟩, ⟨rfl⟩, ⟨by rw [← HR2.out]; cases rns 1 l2 <;> simp⟩, ⟨CI0.out.put 1 (.int .i64 y) rfl rfl⟩, ⟨blk_far (p := ⟨gc, 1, .none⟩) HP.out NP _⟩⟩
    ·skip
     obtain ⟨x0, x1, rfl⟩ := len2 HLN.out
     obtain rfl : kq = 0 := by have := HI.out; omega
     have qp : wr.cell? ⟨gp, 2, .none⟩ = some (.pointer (some ⟨gc, 2, .none⟩)) ∧ wr.frozen? ⟨gp, 2, .none⟩ = false := ⟨(blk_cell HP.out 2).trans rfl, blk_frozen HP.out 2⟩
     go_wp2_with (first | (go_at_call 31; refine HC.out.mono ?_; rintro e w9 ⟨_, rfl, rfl, h1, h2⟩; replace CI0 := aM (CI0.out.call h1 h2); replace HP := aM (h2.fr.blk HP.out (by decide)); have qc : w9.cell? ⟨gc, 2, .none⟩ = some (.int .i64 0) ∧ w9.frozen? ⟨gc, 2, .none⟩ = false := CI0.out.at_ 2 rfl; clear h1 h2))
     have NP : gp ≠ gc := fun e_ => by have h1 := HP.out; rw [e_, CI0.out.com] at h1; cases h1
     go_roundg 0
     case measure => omega
     case rel => exact ⟨3, [x0, x1, y], l2, by first | rfl | (rw [w64o (by decide) (by decide)]; rfl), ⟨rfl⟩, ⟨rfl⟩, ⟨by rw [← HR2.out]; cases rns 0 l2 <;> simp⟩, ⟨CI0.out.put 2 (.int .i64 y) rfl rfl⟩, ⟨blk_far (p := ⟨gc, 2, .none⟩) HP.out NP _⟩⟩
  | zero =>
   obtain rfl : i = 3 := by have := HI.out; omega
   obtain ⟨f0, f1, f2, rfl⟩ := len3 HLN.out
   have HR1 : rc1 [f0, f1, f2] cs = r := by have h_ := HR.out; rw [rns, next_ok, List.append_nil] at h_; exact h_
   clear HR HI HLN HP
   rw [rc1] at HR1
   have hc := list.rd gs cs W _ CI0.out.src
   cases hl : rl cs with
   | bad k =>
    rw [hl] at hc HR1
    obtain rfl : r = .bad k := HR1.symm
    have HC := aM hc
    clear HR1 hl hc
    go_wp2_with (first | (go_at_call 32; refine HC.out.mono ?_; rintro e w9 ⟨rfl, h1, h2⟩; exact ⟨rfl, rfl, h1, CI0.out.fq.fr.trans h2⟩))
   | ok s l1 =>
    rw [hl] at hc
    rw [hl, next_ok, rc2] at HR1
    have HC := aM hc
    have HR2 := aM HR1
    clear HR1 hl hc
    go_wp2_with (first | (go_at_call 32; refine HC.out.mono ?_; rintro e w5 ⟨v3, rfl, h0, h1, h2⟩; have H3 := aM (Kd.R_lower h0 CI0.out.fq.fr.1); replace CI0 := aM (CI0.out.call h1 h2); obtain ⟨A3, c3, e3⟩ := Kd.R_slice H3.out; subst e3; have qc : w5.cell? ⟨gc, 3, .none⟩ = some (.slice .none 0 0) ∧ w5.frozen? ⟨gc, 3, .none⟩ = false := CI0.out.at_ 3 rfl; clear h0 h1 h2))
    replace H3 := aM (CI0.out.R 3 (.slice A3 s.length c3) H3.out (by decide))
    replace CI0 := aM (CI0.out.put 3 (.slice A3 s.length c3) (cs' := c45 [f0, f1, f2] (.slice A3 s.length c3) [] false (.slice .none 0 0) (.slice .none 0 0) (.slice .none 0 0) false) rfl rfl)
    clear qc
    replace H3 := aM (Kd.R_below H3.out (Below.refl _ _).drew)
    replace CI0 := aM (CI0.out.below (Below.refl _ _).drew)
    refine start_ (n := 27) (S := fun w' => True) (ds := []) (bm 27 0) (by kernel_rfl) rfl rfl (trivial) (fun hHeld => ?_); refine with_tabW cm.tab9 cm.bits9 (fun HT_ HW_ => ?_)
    generalize (w5.setCell ⟨gc, 3, .none⟩ (.slice A3 s.length c3)).drew = wd at CI0 H3 hHeld ⊢
    refine pP (i := 0) (N := some 29) (bm 27 1) rfl rfl HT_.out ?_
    refine pP (i := 1) (N := some 30) (bm 27 3) rfl rfl HT_.out ?_
    refine pP (i := 2) (N := some 31) (bm 27 7) rfl rfl HT_.out ?_
    refine pP (i := 3) (N := some 32) (bm 27 15) rfl rfl HT_.out ?_
    refine pP (i := 4) (N := some 33) (bm 27 31) rfl rfl HT_.out ?_
    refine pP (i := 5) (N := some 34) (bm 27 63) rfl rfl HT_.out ?_
    refine pP (i := 6) (N := some 35) (bm 27 127) rfl rfl HT_.out ?_
    refine pP (i := 7) (N := some 36) (bm 27 255) rfl rfl HT_.out ?_
    refine pP (i := 8) (N := some 37) (bm 27 511) rfl rfl HT_.out ?_
    refine pP (i := 9) (N := some 38) (bm 27 1023) rfl rfl HT_.out ?_
    refine pP (i := 10) (N := some 39) (bm 27 2047) rfl rfl HT_.out ?_
    refine pP (i := 11) (N := some 40) (bm 27 4095) rfl rfl HT_.out ?_
    refine pP (i := 12) (N := some 41) (bm 27 8191) rfl rfl HT_.out ?_
    refine pP (i := 13) (N := some 42) (bm 27 16383) rfl rfl HT_.out ?_
    refine pP (i := 14) (N := some 43) (bm 27 32767) rfl rfl HT_.out ?_
    refine pP (i := 15) (N := some 44) (bm 27 65535) rfl rfl HT_.out ?_
    refine pP (i := 16) (N := some 45) (bm 27 131071) rfl rfl HT_.out ?_
    refine pP (i := 17) (N := some 46) (bm 27 262143) rfl rfl HT_.out ?_
    refine pP (i := 18) (N := some 47) (bm 27 524287) rfl rfl HT_.out ?_
    refine pP (i := 19) (N := some 48) (bm 27 1048575) rfl rfl HT_.out ?_
    refine pP (i := 20) (N := some 49) (bm 27 2097151) rfl rfl HT_.out ?_
    refine pP (i := 21) (N := some 50) (bm 27 4194303) rfl rfl HT_.out ?_
    refine pP (i := 22) (N := some 51) (bm 27 8388607) rfl rfl HT_.out ?_
    refine pP (i := 23) (N := some 52) (bm 27 16777215) rfl rfl HT_.out ?_
    refine pP (i := 26) (N := some 55) (bm 27 83886079) rfl rfl HT_.out ?_
    refine one_ (i := 24) (N := some 53) (bm 27 100663295) rfl rfl (one_of HT_.out (by kernel_rfl)) (by decide) (fun K hK => ?_)
    refine value_ (w1 := wd.alloc (.cells #[.pointer (some ⟨gc, 4, .none⟩), .pointer (some ⟨gc, 5, .none⟩), .pointer (some ⟨gc, 6, .none⟩), .pointer (some ⟨gc, 7, .none⟩), .pointer (some ⟨gc, 8, .none⟩), .pointer (some ⟨gc, 9, .none⟩), .pointer (some ⟨gc, 10, .none⟩), .pointer (some ⟨gc, 11, .none⟩)] 76 (0, 0))) (v := .slice (some ⟨wd.heap.size, 0, .none⟩) 8 8) (by rfl) rfl (by first | (go_simp; done) | (go_simp; rfl)) ?_
    have HP := aM (blk_new wd (.cells #[.pointer (some ⟨gc, 4, .none⟩), .pointer (some ⟨gc, 5, .none⟩), .pointer (some ⟨gc, 6, .none⟩), .pointer (some ⟨gc, 7, .none⟩), .pointer (some ⟨gc, 8, .none⟩), .pointer (some ⟨gc, 9, .none⟩), .pointer (some ⟨gc, 10, .none⟩), .pointer (some ⟨gc, 11, .none⟩)] 76 (0, 0)))
    replace H3 := aM (Kd.R_below H3.out (below_alloc (Below.refl _ _) (.cells #[.pointer (some ⟨gc, 4, .none⟩), .pointer (some ⟨gc, 5, .none⟩), .pointer (some ⟨gc, 6, .none⟩), .pointer (some ⟨gc, 7, .none⟩), .pointer (some ⟨gc, 8, .none⟩), .pointer (some ⟨gc, 9, .none⟩), .pointer (some ⟨gc, 10, .none⟩), .pointer (some ⟨gc, 11, .none⟩)] 76 (0, 0))))
    replace CI0 := aM (CI0.out.below (below_alloc (Below.refl _ _) (.cells #[.pointer (some ⟨gc, 4, .none⟩), .pointer (some ⟨gc, 5, .none⟩), .pointer (some ⟨gc, 6, .none⟩), .pointer (some ⟨gc, 7, .none⟩), .pointer (some ⟨gc, 8, .none⟩), .pointer (some ⟨gc, 9, .none⟩), .pointer (some ⟨gc, 10, .none⟩), .pointer (some ⟨gc, 11, .none⟩)] 76 (0, 0))))
    refine hK.out _ _ (trivial) (fun hHeld => ?_)
    clear hK K
    refine norm_ (a' := ?_) ?_ ?_
    rotate_left
    ·show Act.put _ (some 53) _ = _
     simp only [Act.put, sP, i64_w, i32_w]
     rfl
    refine pP (i := 25) (N := some 54) (bm 27 134217727) rfl rfl HT_.out ?_
    refine done_ (done_of HT_.out (by kernel_rfl)) ?_
    clear hHeld HT_ HW_
    generalize hgp : wd.heap.size = gp at HP ⊢
    generalize wd.alloc (.cells #[.pointer (some ⟨gc, 4, .none⟩), .pointer (some ⟨gc, 5, .none⟩), .pointer (some ⟨gc, 6, .none⟩), .pointer (some ⟨gc, 7, .none⟩), .pointer (some ⟨gc, 8, .none⟩), .pointer (some ⟨gc, 9, .none⟩), .pointer (some ⟨gc, 10, .none⟩), .pointer (some ⟨gc, 11, .none⟩)] 76 (0, 0)) = we at CI0 H3 HP ⊢
    try go_wp2
    go_loopg [55] 8 (fun kq v55 w' => ∃ (i : Nat) (ns cs : List Int), v55 = .int .i64 (i : Int) ∧ Aside0 (i + kq = 8) ∧ Aside0 (ns.length = i) ∧ Aside0 ((rns kq cs).next (fun ys l => rc3 [f0, f1, f2] s (ns ++ ys) l) = r) ∧ Aside0 (CI W w w' gs g2 gc (c45 [f0, f1, f2] (.slice A3 s.length c3) ns false (.slice .none 0 0) (.slice .none 0 0) (.slice .none 0 0) false) cs) ∧ Aside0 (w'.heap[gp]? = some (.cells #[.pointer (some ⟨gc, 4, .none⟩), .pointer (some ⟨gc, 5, .none⟩), .pointer (some ⟨gc, 6, .none⟩), .pointer (some ⟨gc, 7, .none⟩), .pointer (some ⟨gc, 8, .none⟩), .pointer (some ⟨gc, 9, .none⟩), .pointer (some ⟨gc, 10, .none⟩), .pointer (some ⟨gc, 11, .none⟩)] 76 (0, 0))) ∧ Aside0 (Kd.R (Kd.int .i64) 3 w' w.heap.size (fun _ => True) (.slice A3 s.length c3) s))
    case atStart => exact ⟨0, [], l1, rfl, ⟨rfl⟩, ⟨rfl⟩, ⟨HR2.out⟩, CI0, HP, H3⟩
    case round =>
     clear CI0 HP HR2 H3 HC
     obtain ⟨i, ns, cs, rfl, HI, HLN, HR, CI0, HP, H3⟩ := hrel
     cases gk with
     | succ kq =>
      have hi : i = 0 ∨ i = 1 ∨ i = 2 ∨ i = 3 ∨ i = 4 ∨ i = 5 ∨ i = 6 ∨ i = 7 := by have := HI.out; omega
      have hc := number.rd gs cs W
      have hc' := hc _ CI0.out.src
      have HR' := HR.out
      rw [rns] at HR'
      cases hn : rn cs with
      | bad k =>
       rw [hn] at hc' HR'
       obtain rfl : r = .bad k := HR'.symm
       have HC := aM hc'
       clear HR' HR hn hc hc'
       rcases hi with rfl | rfl | rfl | rfl | rfl | rfl | rfl | rfl
       ·skip
        have qp : wr.cell? ⟨gp, 0, .none⟩ = some (.pointer (some ⟨gc, 4, .none⟩)) ∧ wr.frozen? ⟨gp, 0, .none⟩ = false := ⟨(blk_cell HP.out 0).trans rfl, blk_frozen HP.out 0⟩
        go_wp2_with (first | (go_at_call 31; refine HC.out.mono ?_; rintro e w9 ⟨rfl, h1, h2⟩; exact ⟨rfl, rfl, h1, CI0.out.fq.fr.trans h2⟩))
       ·skip
        have qp : wr.cell? ⟨gp, 1, .none⟩ = some (.pointer (some ⟨gc, 5, .none⟩)) ∧ wr.frozen? ⟨gp, 1, .none⟩ = false := ⟨(blk_cell HP.out 1).trans rfl, blk_frozen HP.out 1⟩
        go_wp2_with (first | (go_at_call 31; refine HC.out.mono ?_; rintro e w9 ⟨rfl, h1, h2⟩; exact ⟨rfl, rfl, h1, CI0.out.fq.fr.trans h2⟩))
       ·skip
        have qp : wr.cell? ⟨gp, 2, .none⟩ = some (.pointer (some ⟨gc, 6, .none⟩)) ∧ wr.frozen? ⟨gp, 2, .none⟩ = false := ⟨(blk_cell HP.out 2).trans rfl, blk_frozen HP.out 2⟩
        go_wp2_with (first | (go_at_call 31; refine HC.out.mono ?_; rintro e w9 ⟨rfl, h1, h2⟩; exact ⟨rfl, rfl, h1, CI0.out.fq.fr.trans h2⟩))
       ·skip
        have qp : wr.cell? ⟨gp, 3, .none⟩ = some (.pointer (some ⟨gc, 7, .none⟩)) ∧ wr.frozen? ⟨gp, 3, .none⟩ = false := ⟨(blk_cell HP.out 3).trans rfl, blk_frozen HP.out 3⟩
        go_wp2_with (first | (go_at_call 31; refine HC.out.mono ?_; rintro e w9 ⟨rfl, h1, h2⟩; exact ⟨rfl, rfl, h1, CI0.out.fq.fr.trans h2⟩))
       ·skip
        have qp : wr.cell? ⟨gp, 4, .none⟩ = some (.pointer (some ⟨gc, 8, .none⟩)) ∧ wr.frozen? ⟨gp, 4, .none⟩ = false := ⟨(blk_cell HP.out 4).trans rfl, blk_frozen HP.out 4⟩
        go_wp2_with (first | (go_at_call 31; refine HC.out.mono ?_; rintro e w9 ⟨rfl, h1, h2⟩; exact ⟨rfl, rfl, h1, CI0.out.fq.fr.trans h2⟩))
       ·skip
        have qp : wr.cell? ⟨gp, 5, .none⟩ = some (.pointer (some ⟨gc, 9, .none⟩)) ∧ wr.frozen? ⟨gp, 5, .none⟩ = false := ⟨(blk_cell HP.out 5).trans rfl, blk_frozen HP.out 5⟩
        go_wp2_with (first | (go_at_call 31; refine HC.out.mono ?_; rintro e w9 ⟨rfl, h1, h2⟩; exact ⟨rfl, rfl, h1, CI0.out.fq.fr.trans h2⟩))
       ·skip
        have qp : wr.cell? ⟨gp, 6, .none⟩ = some (.pointer (some ⟨gc, 10, .none⟩)) ∧ wr.frozen? ⟨gp, 6, .none⟩ = false := ⟨(blk_cell HP.out 6).trans rfl, blk_frozen HP.out 6⟩
        go_wp2_with (first | (go_at_call 31; refine HC.out.mono ?_; rintro e w9 ⟨rfl, h1, h2⟩; exact ⟨rfl, rfl, h1, CI0.out.fq.fr.trans h2⟩))
       ·skip
        have qp : wr.cell? ⟨gp, 7, .none⟩ = some (.pointer (some ⟨gc, 11, .none⟩)) ∧ wr.frozen? ⟨gp, 7, .none⟩ = false := ⟨(blk_cell HP.out 7).trans rfl, blk_frozen HP.out 7⟩
        go_wp2_with (first | (go_at_call 31; refine HC.out.mono ?_; rintro e w9 ⟨rfl, h1, h2⟩; exact ⟨rfl, rfl, h1, CI0.out.fq.fr.trans h2⟩))
      | ok y l2 =>
       rw [hn] at hc'
       rw [hn, next_ok] at HR'
       have HC := aM hc'
       have HR2 := aM HR'
       clear HR' HR hn hc hc'
       rcases hi with rfl | rfl | rfl | rfl | rfl | rfl | rfl | rfl
       ·skip
        obtain rfl := len0 HLN.out
        obtain rfl : kq = 7 := by have := HI.out; omega
        have qp : wr.cell? ⟨gp, 0, .none⟩ = some (.pointer (some ⟨gc, 4, .none⟩)) ∧ wr.frozen? ⟨gp, 0, .none⟩ = false := ⟨(blk_cell HP.out 0).trans rfl, blk_frozen HP.out 0⟩
        go_wp2_with (first | (go_at_call 31; refine HC.out.mono ?_; rintro e w9 ⟨_, rfl, rfl, h1, h2⟩; replace CI0 := aM (CI0.out.call h1 h2); replace HP := aM (h2.fr.blk HP.out (by decide)); replace H3 := aM (R_fr H3.out h2.fr (by decide)); have qc : w9.cell? ⟨gc, 4, .none⟩ = some (.int .i64 0) ∧ w9.frozen? ⟨gc, 4, .none⟩ = false := CI0.out.at_ 4 rfl; clear h1 h2))
        have NP : gp ≠ gc := fun e_ => by have h1 := HP.out; rw [e_, CI0.out.com] at h1; cases h1
        go_roundg 7
        case measure => omega
        case rel => exact ⟨1, [y], l2, by first | rfl | (rw [w64o (by decide) (by decide)]; rfl), ⟨rfl⟩, ⟨rfl⟩, ⟨by rw [← HR2.out]; cases rns 7 l2 <;> simp⟩, ⟨CI0.out.put 4 (.int .i64 y) rfl rfl⟩, ⟨blk_far (p := ⟨gc, 4, .none⟩) HP.out NP _⟩, ⟨CI0.out.R 4 _ H3.out (by decide)⟩⟩
       ·skip
        obtain ⟨x0, rfl⟩ := len1 HLN.out
        obtain rfl : kq = 6 := by have := HI.out; omega
        have qp : wr.cell? ⟨gp, 1, .none⟩ = some (.pointer (some ⟨gc, 5, .none⟩)) ∧ wr.frozen? ⟨gp, 1, .none⟩ = false := ⟨(blk_cell HP.out 1).trans rfl, blk_frozen HP.out 1⟩
        go_wp2_with (first | (go_at_call 31; refine HC.out.mono ?_; rintro e w9 ⟨_, rfl, rfl, h1, h2⟩; replace CI0 := aM (CI0.out.call h1 h2); replace HP := aM (h2.fr.blk HP.out (by decide)); replace H3 := aM (R_fr H3.out h2.fr (by decide)); have qc : w9.cell? ⟨gc, 5, .none⟩ = some (.int .i64 0) ∧ w9.frozen? ⟨gc, 5, .none⟩ = false := CI0.out.at_ 5 rfl; clear h1 h2))
        have NP : gp ≠ gc := fun e_ => by have h1 := HP.out; rw [e_, CI0.out.com] at h1; cases h1
        go_roundg 6
        case measure => omega
        case rel => exact ⟨2, [x0, y], l2, by first | rfl | (rw [w64o (by decide) (by decide)]; rfl), ⟨rfl⟩, ⟨rfl⟩, ⟨by rw [← HR2.out]; cases rns 6 l2 <;> simp⟩, ⟨CI0.out.put 5 (.int .i64 y) rfl rfl⟩, ⟨blk_far (p := ⟨gc, 5, .none⟩) HP.out NP _⟩, ⟨CI0.out.R 5 _ H3.out (by decide)⟩⟩
       ·skip
        obtain ⟨x0, x1, rfl⟩ := len2 HLN.out
        obtain rfl : kq = 5 := by have := HI.out; omega
        have qp : wr.cell? ⟨gp, 2, .none⟩ = some (.pointer (some ⟨gc, 6, .none⟩)) ∧ wr.frozen? ⟨gp, 2, .none⟩ = false := ⟨(blk_cell HP.out 2).trans rfl, blk_frozen HP.out 2⟩
        go_wp2_with (first | (go_at_call 31; refine HC.out.mono ?_; rintro e w9 ⟨_, rfl, rfl, h1, h2⟩; replace CI0 := aM (CI0.out.call h1 h2); replace HP := aM (h2.fr.blk HP.out (by decide)); replace H3 := aM (R_fr H3.out h2.fr (by decide)); have qc : w9.cell? ⟨gc, 6, .none⟩ = some (.int .i64 0) ∧ w9.frozen? ⟨gc, 6, .none⟩ = false := CI0.out.at_ 6 rfl; clear h1 h2))
        have NP : gp ≠ gc := fun e_ => by have h1 := HP.out; rw [e_, CI0.out.com] at h1; cases h1
        go_roundg 5
        case measure => omega
        case rel => exact ⟨3, [x0, x1, y], l2, by first | rfl | (rw [w64o (by decide) (by decide)]; rfl), ⟨rfl⟩, ⟨rfl⟩, ⟨by rw [← HR2.out]; cases rns 5 l2 <;> simp⟩, ⟨CI0.out.put 6 (.int .i64 y) rfl rfl⟩, ⟨blk_far (p := ⟨gc, 6, .none⟩) HP.out NP _⟩, ⟨CI0.out.R 6 _ H3.out (by decide)⟩⟩
       ·skip
        obtain ⟨x0, x1, x2, rfl⟩ := len3 HLN.out
        obtain rfl : kq = 4 := by have := HI.out; omega
        have qp : wr.cell? ⟨gp, 3, .none⟩ = some (.pointer (some ⟨gc, 7, .none⟩)) ∧ wr.frozen? ⟨gp, 3, .none⟩ = false := ⟨(blk_cell HP.out 3).trans rfl, blk_frozen HP.out 3⟩
        go_wp2_with (first | (go_at_call 31; refine HC.out.mono ?_; rintro e w9 ⟨_, rfl, rfl, h1, h2⟩; replace CI0 := aM (CI0.out.call h1 h2); replace HP := aM (h2.fr.blk HP.out (by decide)); replace H3 := aM (R_fr H3.out h2.fr (by decide)); have qc : w9.cell? ⟨gc, 7, .none⟩ = some (.int .i64 0) ∧ w9.frozen? ⟨gc, 7, .none⟩ = false := CI0.out.at_ 7 rfl; clear h1 h2))
        have NP : gp ≠ gc := fun e_ => by have h1 := HP.out; rw [e_, CI0.out.com] at h1; cases h1
        go_roundg 4
        case measure => omega
        case rel => exact ⟨4, [x0, x1, x2, y], l2, by first | rfl | (rw [w64o (by decide) (by decide)]; rfl), ⟨rfl⟩, ⟨rfl⟩, ⟨by rw [← HR2.out]; cases rns 4 l2 <;> simp⟩, ⟨CI0.out.put 7 (.int .i64 y) rfl rfl⟩, ⟨blk_far (p := ⟨gc, 7, .none⟩) HP.out NP _⟩, ⟨CI0.out.R 7 _ H3.out (by decide)⟩⟩
       ·skip
        obtain ⟨x0, x1, x2, x3, rfl⟩ := len4 HLN.out
        obtain rfl : kq = 3 := by have := HI.out; omega
        have qp : wr.cell? ⟨gp, 4, .none⟩ = some (.pointer (some ⟨gc, 8, .none⟩)) ∧ wr.frozen? ⟨gp, 4, .none⟩ = false := ⟨(blk_cell HP.out 4).trans rfl, blk_frozen HP.out 4⟩
        go_wp2_with (first | (go_at_call 31; refine HC.out.mono ?_; rintro e w9 ⟨_, rfl, rfl, h1, h2⟩; replace CI0 := aM (CI0.out.call h1 h2); replace HP := aM (h2.fr.blk HP.out (by decide)); replace H3 := aM (R_fr H3.out h2.fr (by decide)); have qc : w9.cell? ⟨gc, 8, .none⟩ = some (.int .i64 0) ∧ w9.frozen? ⟨gc, 8, .none⟩ = false := CI0.out.at_ 8 rfl; clear h1 h2))
        have NP : gp ≠ gc := fun e_ => by have h1 := HP.out; rw [e_, CI0.out.com] at h1; cases h1
        go_roundg 3
        case measure => omega
        case rel => exact ⟨5, [x0, x1, x2, x3, y], l2, by first | rfl | (rw [w64o (by decide) (by decide)]; rfl), ⟨rfl⟩, ⟨rfl⟩, ⟨by rw [← HR2.out]; cases rns 3 l2 <;> simp⟩, ⟨CI0.out.put 8 (.int .i64 y) rfl rfl⟩, ⟨blk_far (p := ⟨gc, 8, .none⟩) HP.out NP _⟩, ⟨CI0.out.R 8 _ H3.out (by decide)⟩⟩
       ·skip
        obtain ⟨x0, x1, x2, x3, x4, rfl⟩ := len5 HLN.out
        obtain rfl : kq = 2 := by have := HI.out; omega
        have qp : wr.cell? ⟨gp, 5, .none⟩ = some (.pointer (some ⟨gc, 9, .none⟩)) ∧ wr.frozen? ⟨gp, 5, .none⟩ = false := ⟨(blk_cell HP.out 5).trans rfl, blk_frozen HP.out 5⟩
        go_wp2_with (first | (go_at_call 31; refine HC.out.mono ?_; rintro e w9 ⟨_, rfl, rfl, h1, h2⟩; replace CI0 := aM (CI0.out.call h1 h2); replace HP := aM (h2.fr.blk HP.out (by decide)); replace H3 := aM (R_fr H3.out h2.fr (by decide)); have qc : w9.cell? ⟨gc, 9, .none⟩ = some (.int .i64 0) ∧ w9.frozen? ⟨gc, 9, .none⟩ = false := CI0.out.at_ 9 rfl; clear h1 h2))
        have NP : gp ≠ gc := fun e_ => by have h1 := HP.out; rw [e_, CI0.out.com] at h1; cases h1
        go_roundg 2
        case measure => omega
        case rel => exact ⟨6, [x0, x1, x2, x3, x4, y], l2, by first | rfl | (rw [w64o (by decide) (by decide)]; rfl), ⟨rfl⟩, ⟨rfl⟩, ⟨by rw [← HR2.out]; cases rns 2 l2 <;> simp⟩, ⟨CI0.out.put 9 (.int .i64 y) rfl rfl⟩, ⟨blk_far (p := ⟨gc, 9, .none⟩) HP.out NP _⟩, ⟨CI0.out.R 9 _ H3.out (by decide)⟩⟩
       ·skip
        obtain ⟨x0, x1, x2, x3, x4, x5, rfl⟩ := len6 HLN.out
        obtain rfl : kq = 1 := by have := HI.out; omega
        have qp : wr.cell? ⟨gp, 6, .none⟩ = some (.pointer (some ⟨gc, 10, .none⟩)) ∧ wr.frozen? ⟨gp, 6, .none⟩ = false := ⟨(blk_cell HP.out 6).trans rfl, blk_frozen HP.out 6⟩
        go_wp2_with (first | (go_at_call 31; refine HC.out.mono ?_; rintro e w9 ⟨_, rfl, rfl, h1, h2⟩; replace CI0 := aM (CI0.out.call h1 h2); replace HP := aM (h2.fr.blk HP.out (by decide)); replace H3 := aM (R_fr H3.out h2.fr (by decide)); have qc : w9.cell? ⟨gc, 10, .none⟩ = some (.int .i64 0) ∧ w9.frozen? ⟨gc, 10, .none⟩ = false := CI0.out.at_ 10 rfl; clear h1 h2))
        have NP : gp ≠ gc := fun e_ => by have h1 := HP.out; rw [e_, CI0.out.com] at h1; cases h1
        go_roundg 1
        case measure => omega
        case rel => exact ⟨7, [x0, x1, x2, x3, x4, x5, y], l2, by first | rfl | (rw [w64o (by decide) (by decide)]; rfl), ⟨rfl⟩, ⟨rfl⟩, ⟨by rw [← HR2.out]; cases rns 1 l2 <;> simp⟩, ⟨CI0.out.put 10 (.int .i64 y) rfl rfl⟩, ⟨blk_far (p := ⟨gc, 10, .none⟩) HP.out NP _⟩, ⟨CI0.out.R 10 _ H3.out (by decide)⟩⟩
       ·skip
        obtain ⟨x0, x1, x2, x3, x4, x5, x6, rfl⟩ := len7 HLN.out
        obtain rfl : kq = 0 := by have := HI.out; omega
        have qp : wr.cell? ⟨gp, 7, .none⟩ = some (.pointer (some ⟨gc, 11, .none⟩)) ∧ wr.frozen? ⟨gp, 7, .none⟩ = false := ⟨(blk_cell HP.out 7).trans rfl, blk_frozen HP.out 7⟩
        go_wp2_with (first | (go_at_call 31; refine HC.out.mono ?_; rintro e w9 ⟨_, rfl, rfl, h1, h2⟩; replace CI0 := aM (CI0.out.call h1 h2); replace HP := aM (h2.fr.blk HP.out (by decide)); replace H3 := aM (R_fr H3.out h2.fr (by decide)); have qc : w9.cell? ⟨gc, 11, .none⟩ = some (.int .i64 0) ∧ w9.frozen? ⟨gc, 11, .none⟩ = false := CI0.out.at_ 11 rfl; clear h1 h2))
        have NP : gp ≠ gc := fun e_ => by have h1 := HP.out; rw [e_, CI0.out.com] at h1; cases h1
        go_roundg 0
        case measure => omega
        case rel => exact ⟨8, [x0, x1, x2, x3, x4, x5, x6, y], l2, by first | rfl | (rw [w64o (by decide) (by decide)]; rfl), ⟨rfl⟩, ⟨rfl⟩, ⟨by rw [← HR2.out]; cases rns 0 l2 <;> simp⟩, ⟨CI0.out.put 11 (.int .i64 y) rfl rfl⟩, ⟨blk_far (p := ⟨gc, 11, .none⟩) HP.out NP _⟩, ⟨CI0.out.R 11 _ H3.out (by decide)⟩⟩
     | zero =>
      obtain rfl : i = 8 := by have := HI.out; omega
      obtain ⟨n0, n1, n2, n3, n4, n5, n6, n7, rfl⟩ := len8 HLN.out
      have HR1 : rc3 [f0, f1, f2] s [n0, n1, n2, n3, n4, n5, n6, n7] cs = r := by have h_ := HR.out; rw [rns, next_ok, List.append_nil] at h_; exact h_
      clear HR HI HLN HP
      rw [rc3] at HR1
      have hc0 := fun w_ => truth.rd gs cs W w_
      cases hl0 : rb cs with
      | bad kk =>
       rw [hl0] at hc0 HR1
       obtain rfl : r = .bad kk := HR1.symm
       have HC0 := aM hc0
       clear HR1 hl0 hc0
       have M0 : Aside0 True := ⟨trivial⟩
       go_wp2_with (first | (go_at_call 33; clear M0; refine (HC0.out _ CI0.out.src).mono ?_; rintro e w9 ⟨rfl, h1, h2⟩; exact ⟨rfl, rfl, h1, CI0.out.fq.fr.trans h2⟩))
      | ok k lq0 =>
       rw [hl0] at hc0
       rw [hl0, next_ok, rc4] at HR1
       have HC0 := aM hc0
       clear hl0 hc0
       have hc1 := fun w_ => list.rd gs lq0 W w_
       cases hl1 : rl lq0 with
       | bad kk =>
        rw [hl1] at hc1 HR1
        obtain rfl : r = .bad kk := HR1.symm
        have HC1 := aM hc1
        clear HR1 hl1 hc1
        have M0 : Aside0 True := ⟨trivial⟩
        have M1 : Aside0 True := ⟨trivial⟩
        go_wp2_with (first | (go_at_call 33; clear M0; refine (HC0.out _ CI0.out.src).mono ?_; rintro e wq0 ⟨_, rfl, rfl, h1, h2⟩; replace H3 := aM (R_fr H3.out h2.fr (by decide)); replace CI0 := aM (CI0.out.call h1 h2); have qc0 : wq0.cell? ⟨gc, 12, .none⟩ = some (.bool false) ∧ wq0.frozen? ⟨gc, 12, .none⟩ = false := CI0.out.at_ 12 rfl; clear h1 h2) | (go_at_call 32; clear M1; replace H3 := aM (CI0.out.R 12 (.bool k) H3.out (by decide)); replace CI0 := aM (CI0.out.put 12 (.bool k) (cs' := c45 [f0, f1, f2] (.slice A3 s.length c3) [n0, n1, n2, n3, n4, n5, n6, n7] k (.slice .none 0 0) (.slice .none 0 0) (.slice .none 0 0) false) rfl rfl); refine (HC1.out _ CI0.out.src).mono ?_; rintro e w9 ⟨rfl, h1, h2⟩; exact ⟨rfl, rfl, h1, CI0.out.fq.fr.trans h2⟩))
       | ok t lq1 =>
        rw [hl1] at hc1
        rw [hl1, next_ok, rc5] at HR1
        have HC1 := aM hc1
        clear hl1 hc1
        have hc2 := fun w_ => list.rd gs lq1 W w_
        cases hl2 : rl lq1 with
        | bad kk =>
         rw [hl2] at hc2 HR1
         obtain rfl : r = .bad kk := HR1.symm
         have HC2 := aM hc2
         clear HR1 hl2 hc2
         have M0 : Aside0 True := ⟨trivial⟩
         have M1 : Aside0 True := ⟨trivial⟩
         have M2 : Aside0 True := ⟨trivial⟩
         go_wp2_with (first | (go_at_call 33; clear M0; refine (HC0.out _ CI0.out.src).mono ?_; rintro e wq0 ⟨_, rfl, rfl, h1, h2⟩; replace H3 := aM (R_fr H3.out h2.fr (by decide)); replace CI0 := aM (CI0.out.call h1 h2); have qc0 : wq0.cell? ⟨gc, 12, .none⟩ = some (.bool false) ∧ wq0.frozen? ⟨gc, 12, .none⟩ = false := CI0.out.at_ 12 rfl; clear h1 h2) | (go_at_call 32; clear M1; replace H3 := aM (CI0.out.R 12 (.bool k) H3.out (by decide)); replace CI0 := aM (CI0.out.put 12 (.bool k) (cs' := c45 [f0, f1, f2] (.slice A3 s.length c3) [n0, n1, n2, n3, n4, n5, n6, n7] k (.slice .none 0 0) (.slice .none 0 0) (.slice .none 0 0) false) rfl rfl); refine (HC1.out _ CI0.out.src).mono ?_; rintro e wq1 ⟨vv, rfl, h0, h1, h2⟩; have H13 := aM (Kd.R_lower h0 CI0.out.fq.fr.1); obtain ⟨A13, c13, ee⟩ := Kd.R_slice H13.out; subst ee; replace H3 := aM (R_fr H3.out h2.fr (by decide)); replace CI0 := aM (CI0.out.call h1 h2); have qc1 : wq1.cell? ⟨gc, 13, .none⟩ = some (.slice .none 0 0) ∧ wq1.frozen? ⟨gc, 13, .none⟩ = false := CI0.out.at_ 13 rfl; clear h1 h2 h0) | (go_at_call 32; clear M2; replace H3 := aM (CI0.out.R 13 (.slice A13 t.length c13) H3.out (by decide)); replace H13 := aM (CI0.out.R 13 (.slice A13 t.length c13) H13.out (by decide)); replace CI0 := aM (CI0.out.put 13 (.slice A13 t.length c13) (cs' := c45 [f0, f1, f2] (.slice A3 s.length c3) [n0, n1, n2, n3, n4, n5, n6, n7] k (.slice A13 t.length c13) (.slice .none 0 0) (.slice .none 0 0) false) rfl rfl); refine (HC2.out _ CI0.out.src).mono ?_; rintro e w9 ⟨rfl, h1, h2⟩; exact ⟨rfl, rfl, h1, CI0.out.fq.fr.trans h2⟩))
        | ok dd lq2 =>
         rw [hl2] at hc2
         rw [hl2, next_ok, rc6] at HR1
         have HC2 := aM hc2
         clear hl2 hc2
         have hc3 := fun w_ => many.rd gs 256 lq2 W w_
         cases hl3 : rm 256 lq2 with
         | bad kk =>
          rw [hl3] at hc3 HR1
          obtain rfl : r = .bad kk := HR1.symm
          have HC3 := aM hc3
          clear HR1 hl3 hc3
          have M0 : Aside0 True := ⟨trivial⟩
          have M1 : Aside0 True := ⟨trivial⟩
          have M2 : Aside0 True := ⟨trivial⟩
          have M3 : Aside0 True := ⟨trivial⟩
          go_wp2_with (first | (go_at_call 33; clear M0; refine (HC0.out _ CI0.out.src).mono ?_; rintro e wq0 ⟨_, rfl, rfl, h1, h2⟩; replace H3 := aM (R_fr H3.out h2.fr (by decide)); replace CI0 := aM (CI0.out.call h1 h2); have qc0 : wq0.cell? ⟨gc, 12, .none⟩ = some (.bool false) ∧ wq0.frozen? ⟨gc, 12, .none⟩ = false := CI0.out.at_ 12 rfl; clear h1 h2) | (go_at_call 32; clear M1; replace H3 := aM (CI0.out.R 12 (.bool k) H3.out (by decide)); replace CI0 := aM (CI0.out.put 12 (.bool k) (cs' := c45 [f0, f1, f2] (.slice A3 s.length c3) [n0, n1, n2, n3, n4, n5, n6, n7] k (.slice .none 0 0) (.slice .none 0 0) (.slice .none 0 0) false) rfl rfl); refine (HC1.out _ CI0.out.src).mono ?_; rintro e wq1 ⟨vv, rfl, h0, h1, h2⟩; have H13 := aM (Kd.R_lower h0 CI0.out.fq.fr.1); obtain ⟨A13, c13, ee⟩ := Kd.R_slice H13.out; subst ee; replace H3 := aM (R_fr H3.out h2.fr (by decide)); replace CI0 := aM (CI0.out.call h1 h2); have qc1 : wq1.cell? ⟨gc, 13, .none⟩ = some (.slice .none 0 0) ∧ wq1.frozen? ⟨gc, 13, .none⟩ = false := CI0.out.at_ 13 rfl; clear h1 h2 h0) | (go_at_call 32; clear M2; replace H3 := aM (CI0.out.R 13 (.slice A13 t.length c13) H3.out (by decide)); replace H13 := aM (CI0.out.R 13 (.slice A13 t.length c13) H13.out (by decide)); replace CI0 := aM (CI0.out.put 13 (.slice A13 t.length c13) (cs' := c45 [f0, f1, f2] (.slice A3 s.length c3) [n0, n1, n2, n3, n4, n5, n6, n7] k (.slice A13 t.length c13) (.slice .none 0 0) (.slice .none 0 0) false) rfl rfl); refine (HC2.out _ CI0.out.src).mono ?_; rintro e wq2 ⟨vv, rfl, h0, h1, h2⟩; have H14 := aM (Kd.R_lower h0 CI0.out.fq.fr.1); obtain ⟨A14, c14, ee⟩ := Kd.R_slice H14.out; subst ee; replace H3 := aM (R_fr H3.out h2.fr (by decide)); replace H13 := aM (R_fr H13.out h2.fr (by decide)); replace CI0 := aM (CI0.out.call h1 h2); have qc2 : wq2.cell? ⟨gc, 14, .none⟩ = some (.slice .none 0 0) ∧ wq2.frozen? ⟨gc, 14, .none⟩ = false := CI0.out.at_ 14 rfl; clear h1 h2 h0) | (go_at_call 20; clear M3; replace H3 := aM (CI0.out.R 14 (.slice A14 dd.length c14) H3.out (by decide)); replace H13 := aM (CI0.out.R 14 (.slice A14 dd.length c14) H13.out (by decide)); replace H14 := aM (CI0.out.R 14 (.slice A14 dd.length c14) H14.out (by decide)); replace CI0 := aM (CI0.out.put 14 (.slice A14 dd.length c14) (cs' := c45 [f0, f1, f2] (.slice A3 s.length c3) [n0, n1, n2, n3, n4, n5, n6, n7] k (.slice A13 t.length c13) (.slice A14 dd.length c14) (.slice .none 0 0) false) rfl rfl); refine (HC3.out _ CI0.out.src).mono ?_; rintro e w9 ⟨rfl, h1, h2⟩; exact ⟨rfl, rfl, h1, CI0.out.fq.fr.trans h2⟩))
         | ok n lq3 =>
          rw [hl3] at hc3
          rw [hl3, next_ok] at HR1
          have HC3 := aM hc3
          have HN := aM (rm_range hl3)
          clear hl3 hc3
          obtain ⟨m, rfl⟩ : ∃ m : Nat, n = (m : Int) := ⟨n.toNat, by have := HN.out.1; omega⟩
          have HM : Aside0 (m ≤ 256) := ⟨by have := HN.out.2; omega⟩
          rw [Int.toNat_natCast] at HR1
          have HR2 := aM HR1
          clear HR1 HN
          have M0 : Aside0 True := ⟨trivial⟩
          have M1 : Aside0 True := ⟨trivial⟩
          have M2 : Aside0 True := ⟨trivial⟩
          have M3 : Aside0 True := ⟨trivial⟩
          go_wp2_with (first | (go_at_call 33; clear M0; refine (HC0.out _ CI0.out.src).mono ?_; rintro e wq0 ⟨_, rfl, rfl, h1, h2⟩; replace H3 := aM (R_fr H3.out h2.fr (by decide)); replace CI0 := aM (CI0.out.call h1 h2); have qc0 : wq0.cell? ⟨gc, 12, .none⟩ = some (.bool false) ∧ wq0.frozen? ⟨gc, 12, .none⟩ = false := CI0.out.at_ 12 rfl; clear h1 h2) | (go_at_call 32; clear M1; replace H3 := aM (CI0.out.R 12 (.bool k) H3.out (by decide)); replace CI0 := aM (CI0.out.put 12 (.bool k) (cs' := c45 [f0, f1, f2] (.slice A3 s.length c3) [n0, n1, n2, n3, n4, n5, n6, n7] k (.slice .none 0 0) (.slice .none 0 0) (.slice .none 0 0) false) rfl rfl); refine (HC1.out _ CI0.out.src).mono ?_; rintro e wq1 ⟨vv, rfl, h0, h1, h2⟩; have H13 := aM (Kd.R_lower h0 CI0.out.fq.fr.1); obtain ⟨A13, c13, ee⟩ := Kd.R_slice H13.out; subst ee; replace H3 := aM (R_fr H3.out h2.fr (by decide)); replace CI0 := aM (CI0.out.call h1 h2); have qc1 : wq1.cell? ⟨gc, 13, .none⟩ = some (.slice .none 0 0) ∧ wq1.frozen? ⟨gc, 13, .none⟩ = false := CI0.out.at_ 13 rfl; clear h1 h2 h0) | (go_at_call 32; clear M2; replace H3 := aM (CI0.out.R 13 (.slice A13 t.length c13) H3.out (by decide)); replace H13 := aM (CI0.out.R 13 (.slice A13 t.length c13) H13.out (by decide)); replace CI0 := aM (CI0.out.put 13 (.slice A13 t.length c13) (cs' := c45 [f0, f1, f2] (.slice A3 s.length c3) [n0, n1, n2, n3, n4, n5, n6, n7] k (.slice A13 t.length c13) (.slice .none 0 0) (.slice .none 0 0) false) rfl rfl); refine (HC2.out _ CI0.out.src).mono ?_; rintro e wq2 ⟨vv, rfl, h0, h1, h2⟩; have H14 := aM (Kd.R_lower h0 CI0.out.fq.fr.1); obtain ⟨A14, c14, ee⟩ := Kd.R_slice H14.out; subst ee; replace H3 := aM (R_fr H3.out h2.fr (by decide)); replace H13 := aM (R_fr H13.out h2.fr (by decide)); replace CI0 := aM (CI0.out.call h1 h2); have qc2 : wq2.cell? ⟨gc, 14, .none⟩ = some (.slice .none 0 0) ∧ wq2.frozen? ⟨gc, 14, .none⟩ = false := CI0.out.at_ 14 rfl; clear h1 h2 h0) | (go_at_call 20; clear M3; replace H3 := aM (CI0.out.R 14 (.slice A14 dd.length c14) H3.out (by decide)); replace H13 := aM (CI0.out.R 14 (.slice A14 dd.length c14) H13.out (by decide)); replace H14 := aM (CI0.out.R 14 (.slice A14 dd.length c14) H14.out (by decide)); replace CI0 := aM (CI0.out.put 14 (.slice A14 dd.length c14) (cs' := c45 [f0, f1, f2] (.slice A3 s.length c3) [n0, n1, n2, n3, n4, n5, n6, n7] k (.slice A13 t.length c13) (.slice A14 dd.length c14) (.slice .none 0 0) false) rfl rfl); refine (HC3.out _ CI0.out.src).mono ?_; rintro e wq3 ⟨_, rfl, rfl, h1, h2⟩; replace H3 := aM (R_fr H3.out h2.fr (by decide)); replace H13 := aM (R_fr H13.out h2.fr (by decide)); replace H14 := aM (R_fr H14.out h2.fr (by decide)); replace CI0 := aM (CI0.out.call h1 h2); clear h1 h2))
          clear HC0 HC1 HC2 HC3
          go_loopg [79] m (fun kq v79 w' => ∃ (i : Nat) (ts : List S71) (cs : List Int) (v15 : Value), v79 = .int .i64 (i : Int) ∧ Aside0 (i + kq = m) ∧ Aside0 (ts.length = i) ∧ Aside0 ((rts kq cs).next (fun ys l => rc8 [f0, f1, f2] s [n0, n1, n2, n3, n4, n5, n6, n7] k t dd (ts ++ ys) l) = r) ∧ Aside0 (CI W w w' gs g2 gc (c45 [f0, f1, f2] (.slice A3 s.length c3) [n0, n1, n2, n3, n4, n5, n6, n7] k (.slice A13 t.length c13) (.slice A14 dd.length c14) (v15) false) cs) ∧ Aside0 (Kd.R (Kd.int .i64) 3 w' w.heap.size (fun _ => True) (.slice A3 s.length c3) s) ∧ Aside0 (Kd.R (Kd.int .i64) 3 w' w.heap.size (fun _ => True) (.slice A13 t.length c13) t) ∧ Aside0 (Kd.R (Kd.int .i64) 3 w' w.heap.size (fun _ => True) (.slice A14 dd.length c14) dd) ∧ Aside0 (Kd.R k71 71 w' w.heap.size (fun _ => True) v15 ts))
          case atStart => exact ⟨0, [], lq3, .slice .none 0 0, rfl, ⟨by omega⟩, ⟨rfl⟩, ⟨HR2.out⟩, CI0, H3, H13, H14, ⟨pN⟩⟩
          case round =>
           clear CI0 H3 H13 H14 HR2
           obtain ⟨i, ts, cs, v15, rfl, HI, HLN, HR, CI0, H3, H13, H14, H15⟩ := hrel
           obtain ⟨A15, c15, e15⟩ := Kd.R_slice H15.out
           subst e15
           cases gk with
           | succ kq =>
            have d1 : decide ((i : Int) < (m : Int)) = true := decide_eq_true (by have := HI.out; omega)
            have d2 : decide (i < m) = true := decide_eq_true (by have := HI.out; omega)
            have HR1 := HR.out
            rw [rts, rt] at HR1
            have hc0 := fun w_ => number.rd gs cs W w_
            cases hl0 : rn cs with
            | bad kk =>
             rw [hl0] at hc0 HR1
             obtain rfl : r = .bad kk := HR1.symm
             have HC0 := aM hc0
             clear HR1 HR hl0 hc0
             have M0 : Aside0 True := ⟨trivial⟩
             go_wp2_with (first | (go_at_call 31; clear M0; refine (HC0.out _ CI0.out.src).mono ?_; rintro e w9 ⟨rfl, h1, h2⟩; exact ⟨rfl, rfl, h1, CI0.out.fq.fr.trans h2⟩))
            | ok pa lq0 =>
             rw [hl0] at hc0
             rw [hl0, next_ok] at HR1
             have HC0 := aM hc0
             clear hl0 hc0
             have hc1 := fun w_ => number.rd gs lq0 W w_
             cases hl1 : rn lq0 with
             | bad kk =>
              rw [hl1] at hc1 HR1
              obtain rfl : r = .bad kk := HR1.symm
              have HC1 := aM hc1
              clear HR1 HR hl1 hc1
              have M0 : Aside0 True := ⟨trivial⟩
              have M1 : Aside0 True := ⟨trivial⟩
              go_wp2_with (first | (go_at_call 31; clear M0; refine (HC0.out _ CI0.out.src).mono ?_; rintro e wn0 ⟨_, rfl, rfl, h1, h2⟩; replace H3 := aM (R_fr H3.out h2.fr (by decide)); replace H13 := aM (R_fr H13.out h2.fr (by decide)); replace H14 := aM (R_fr H14.out h2.fr (by decide)); replace H15 := aM (R_fr H15.out h2.fr (by decide)); replace CI0 := aM (CI0.out.call h1 h2); clear h1 h2) | (go_at_call 31; clear M1; refine (HC1.out _ CI0.out.src).mono ?_; rintro e w9 ⟨rfl, h1, h2⟩; exact ⟨rfl, rfl, h1, CI0.out.fq.fr.trans h2⟩))
             | ok pb lq1 =>
              rw [hl1] at hc1
              rw [hl1, next_ok] at HR1
              have HC1 := aM hc1
              clear hl1 hc1
              have hc2 := fun w_ => word.rd gs lq1 W w_
              cases hl2 : rw_ lq1 with
              | bad kk =>
               rw [hl2] at hc2 HR1
               obtain rfl : r = .bad kk := HR1.symm
               have HC2 := aM hc2
               clear HR1 HR hl2 hc2
               have M0 : Aside0 True := ⟨trivial⟩
               have M1 : Aside0 True := ⟨trivial⟩
               go_wp2_with (first | (go_at_call 31; clear M0; refine (HC0.out _ CI0.out.src).mono ?_; rintro e wn0 ⟨_, rfl, rfl, h1, h2⟩; replace H3 := aM (R_fr H3.out h2.fr (by decide)); replace H13 := aM (R_fr H13.out h2.fr (by decide)); replace H14 := aM (R_fr H14.out h2.fr (by decide)); replace H15 := aM (R_fr H15.out h2.fr (by decide)); replace CI0 := aM (CI0.out.call h1 h2); clear h1 h2) | (go_at_call 31; clear M1; refine (HC1.out _ CI0.out.src).mono ?_; rintro e wn1 ⟨_, rfl, rfl, h1, h2⟩; replace H3 := aM (R_fr H3.out h2.fr (by decide)); replace H13 := aM (R_fr H13.out h2.fr (by decide)); replace H14 := aM (R_fr H14.out h2.fr (by decide)); replace H15 := aM (R_fr H15.out h2.fr (by decide)); replace CI0 := aM (CI0.out.call h1 h2); clear h1 h2))
               replace H3 := aM (Kd.R_below H3.out (Below.refl _ _).drew)
               replace H13 := aM (Kd.R_below H13.out (Below.refl _ _).drew)
               replace H14 := aM (Kd.R_below H14.out (Below.refl _ _).drew)
               replace H15 := aM (Kd.R_below H15.out (Below.refl _ _).drew)
               replace CI0 := aM (CI0.out.below (Below.refl _ _).drew)
               refine start_ (n := 11) (S := fun w' => w'.cell? ⟨gc, 15, .none⟩ = some (.slice A15 ts.length c15)) (ds := [10]) (bm 11 0) (by kernel_rfl) rfl rfl ((CI0.out.at_ 15 rfl).1) (fun hHeld => ?_); refine with_tabW cm.tab21 cm.bits21 (fun HT_ HW_ => ?_)
               generalize wn1.drew = wd at CI0 H3 H13 H14 H15 hHeld ⊢
               refine pP (i := 0) (N := some 85) (bm 11 1) rfl rfl HT_.out ?_
               refine pP (i := 2) (N := some 87) (bm 11 5) rfl rfl HT_.out ?_
               refine pP (i := 3) (N := some 88) (bm 11 13) rfl rfl HT_.out ?_
               refine pP (i := 4) (N := some 89) (bm 11 29) rfl rfl HT_.out ?_
               refine pT (i := 1) (N := some 86) (bm 11 31) rfl rfl HT_.out HW_.out hHeld (by rintro w' s0; go_simp; with_reducible rfl) ?_
               refine one_ (i := 5) (N := some 90) (bm 11 63) rfl rfl (one_of HT_.out (by kernel_rfl)) (by decide) (fun K hK => ?_)
               refine fails_ Try.func34 (by kernel_rfl) rfl #[.pointer (some ⟨gs, 0, .none⟩)] (by rfl) rfl rfl (by first | rfl | (simp [Act.eval]; done)) ?_
               refine (HC2.out _ CI0.out.src).mono ?_
               rintro e w9 ⟨rfl, h1, h2⟩
               exact ⟨_, rfl, rfl, rfl, h1, CI0.out.fq.fr.trans h2⟩
              | ok pc lq2 =>
               rw [hl2] at hc2
               rw [hl2, next_ok, next_ok] at HR1
               have HC2 := aM hc2
               have HR2 := aM HR1
               clear HR1 HR hl2 hc2
               have M0 : Aside0 True := ⟨trivial⟩
               have M1 : Aside0 True := ⟨trivial⟩
               go_wp2_with (first | (go_at_call 31; clear M0; refine (HC0.out _ CI0.out.src).mono ?_; rintro e wn0 ⟨_, rfl, rfl, h1, h2⟩; replace H3 := aM (R_fr H3.out h2.fr (by decide)); replace H13 := aM (R_fr H13.out h2.fr (by decide)); replace H14 := aM (R_fr H14.out h2.fr (by decide)); replace H15 := aM (R_fr H15.out h2.fr (by decide)); replace CI0 := aM (CI0.out.call h1 h2); clear h1 h2) | (go_at_call 31; clear M1; refine (HC1.out _ CI0.out.src).mono ?_; rintro e wn1 ⟨_, rfl, rfl, h1, h2⟩; replace H3 := aM (R_fr H3.out h2.fr (by decide)); replace H13 := aM (R_fr H13.out h2.fr (by decide)); replace H14 := aM (R_fr H14.out h2.fr (by decide)); replace H15 := aM (R_fr H15.out h2.fr (by decide)); replace CI0 := aM (CI0.out.call h1 h2); clear h1 h2))
               replace H3 := aM (Kd.R_below H3.out (Below.refl _ _).drew)
               replace H13 := aM (Kd.R_below H13.out (Below.refl _ _).drew)
               replace H14 := aM (Kd.R_below H14.out (Below.refl _ _).drew)
               replace H15 := aM (Kd.R_below H15.out (Below.refl _ _).drew)
               replace CI0 := aM (CI0.out.below (Below.refl _ _).drew)
               refine start_ (n := 11) (S := fun w' => w'.cell? ⟨gc, 15, .none⟩ = some (.slice A15 ts.length c15)) (ds := [10]) (bm 11 0) (by kernel_rfl) rfl rfl ((CI0.out.at_ 15 rfl).1) (fun hHeld => ?_); refine with_tabW cm.tab21 cm.bits21 (fun HT_ HW_ => ?_)
               generalize wn1.drew = wd at CI0 H3 H13 H14 H15 hHeld ⊢
               refine pP (i := 0) (N := some 85) (bm 11 1) rfl rfl HT_.out ?_
               refine pP (i := 2) (N := some 87) (bm 11 5) rfl rfl HT_.out ?_
               refine pP (i := 3) (N := some 88) (bm 11 13) rfl rfl HT_.out ?_
               refine pP (i := 4) (N := some 89) (bm 11 29) rfl rfl HT_.out ?_
               refine pT (i := 1) (N := some 86) (bm 11 31) rfl rfl HT_.out HW_.out hHeld (by rintro w' s0; go_simp; with_reducible rfl) ?_
               refine one_ (i := 5) (N := some 90) (bm 11 63) rfl rfl (one_of HT_.out (by kernel_rfl)) (by decide) (fun K hK => ?_)
               refine goes_ Try.func34 (by kernel_rfl) rfl #[.pointer (some ⟨gs, 0, .none⟩)] (by rfl) rfl rfl pA ?_
               refine (HC2.out _ CI0.out.src).mono ?_
               rintro e w5 ⟨_, rfl, rfl, h1, h2⟩
               refine ⟨_, rfl, ?_⟩
               replace H3 := aM (R_fr H3.out h2.fr (by decide))
               replace H13 := aM (R_fr H13.out h2.fr (by decide))
               replace H14 := aM (R_fr H14.out h2.fr (by decide))
               replace H15 := aM (R_fr H15.out h2.fr (by decide))
               replace CI0 := aM (CI0.out.call h1 h2)
               clear h1 h2
               refine hK.out _ _ ((CI0.out.at_ 15 rfl).1) (fun hHeld => ?_)
               clear hK K
               refine norm_ (a' := ?_) ?_ ?_
               rotate_left
               ·show Act.put _ (some 90) _ = _
                simp only [Act.put, sP, i64_w, i32_w]
                rfl
               refine pP (i := 6) (N := some 91) (bm 11 127) rfl rfl HT_.out ?_
               refine one_ (i := 7) (N := some 92) (bm 11 255) rfl rfl (one_of HT_.out (by kernel_rfl)) (by decide) (fun K hK => ?_)
               refine value_ (w1 := w5.alloc (.cells #[.int .i64 pa, .int .i64 pb, .int .u64 pc] 71 (0, 0))) (v := .slice (some ⟨w5.heap.size, 0, .none⟩) 1 1) (by rfl) rfl (by first | (go_simp; done) | (go_simp; rfl)) ?_
               have CIa := aM (CI0.out.below (below_alloc (Below.refl _ _) (.cells #[.int .i64 pa, .int .i64 pb, .int .u64 pc] 71 (0, 0))))
               refine hK.out _ _ ((CIa.out.at_ 15 rfl).1) (fun hHeld => ?_)
               clear hK K
               refine norm_ (a' := ?_) ?_ ?_
               rotate_left
               ·show Act.put _ (some 92) _ = _
                simp only [Act.put, sP, i64_w, i32_w]
                rfl
               refine one_ (i := 8) (N := some 93) (bm 11 511) rfl rfl (one_of HT_.out (by kernel_rfl)) (by decide) (fun K hK => ?_)
               refine Kd.R_append_step k71 (w0 := w5) w.heap.size (by rfl) (.tmp 86) (.tmp 92) 43 71 (.agg #[.int .i64 0, .int .i64 0, .int .u64 0]) 24 rfl Try.underlying43 info71 rfl (by show 0 < 3; decide) (by omega) (.slice A15 ts.length c15) ts (⟨pa, pb, pc⟩ : S71) [.int .i64 pa, .int .i64 pb, .int .u64 pc] (fun _ => True) (fun _ => False) rfl rfl (k71_mkM _ _ _ (⟨pa, pb, pc⟩ : S71)) (fun _ h_ => h_.elim) (fun _ _ => trivial) H15.out (Below.refl _ _) CI0.out.fq.fr.1 (by have := HLN.out; have := HI.out; have := HM.out; omega) ?_
               intro v1 w6 ho hb hg hat
               replace H3 := aM (R_fr H3.out (Fr.row (Q := [71]) H15.out hg (by simp)) (by decide))
               replace H13 := aM (R_fr H13.out (Fr.row (Q := [71]) H15.out hg (by simp)) (by decide))
               replace H14 := aM (R_fr H14.out (Fr.row (Q := [71]) H15.out hg (by simp)) (by decide))
               replace CI0 := aM (CI0.out.row H15.out hg hb (by decide) (by decide) (by decide))
               replace H15 := aM ho
               clear ho hb hg hat CIa
               obtain ⟨An, cn, en⟩ := Kd.R_slice H15.out
               subst en
               have h15 := H15.out
               rw [List.length_append, List.length_singleton] at h15
               replace H15 := aM h15
               clear h15
               refine hK.out _ _ ((CI0.out.at_ 15 rfl).1) (fun hHeld => ?_)
               clear hK K
               refine norm_ (a' := ?_) ?_ ?_
               rotate_left
               ·show Act.put _ (some 93) _ = _
                simp only [Act.put, sP, i64_w, i32_w]
                rfl
               refine pP (i := 9) (N := some 94) (bm 11 1023) rfl rfl HT_.out ?_
               refine last_ (i := 10) (N := none) (bm 11 2047) rfl rfl (one_of HT_.out (by kernel_rfl)) (by decide) (fun K hK => ?_)
               have qs := CI0.out.at_ 15 (v := .slice A15 ts.length c15) rfl
               refine skip_ (w1 := w6.setCell ⟨gc, 15, .none⟩ (.slice An (ts.length + 1) cn)) (by rfl) rfl (by first | (go_simp; done) | (go_simp; rfl)) ?_
               refine hK.out _ _ ?_
               clear hK K qs
               refine done_ (done_of HT_.out (by kernel_rfl)) ?_
               clear HT_ HW_
               try go_wp2
               go_roundg kq
               case measure => omega
               case rel => exact ⟨i + 1, ts ++ [(⟨pa, pb, pc⟩ : S71)], lq2, .slice An (ts.length + 1) cn, by first | rfl | (rw [w64o (by omega) (by have := HI.out; have := HM.out; omega)]; rfl), ⟨by have := HI.out; omega⟩, ⟨by rw [List.length_append, HLN.out]; rfl⟩, ⟨by rw [← HR2.out]; cases rts kq lq2 <;> simp⟩, ⟨CI0.out.put 15 (.slice An (ts.length + 1) cn) rfl rfl⟩, ⟨CI0.out.R 15 _ H3.out (by decide)⟩, ⟨CI0.out.R 15 _ H13.out (by decide)⟩, ⟨CI0.out.R 15 _ H14.out (by decide)⟩, ⟨CI0.out.R 15 _ H15.out (by decide)⟩⟩
           | zero =>
            obtain rfl : i = m := by have := HI.out; omega
            have d1 : decide ((i : Int) < (i : Int)) = false := decide_eq_false (by omega)
            have d2 : decide (i < i) = false := decide_eq_false (by omega)
            have HR1 := HR.out
            rw [rts, next_ok, List.append_nil, rc8] at HR1
            clear HR HI
            have hc := fun w_ => truth.rd gs cs W w_
            cases hl : rb cs with
            | bad kk =>
             rw [hl] at hc HR1
             obtain rfl : r = .bad kk := HR1.symm
             have HC := aM hc
             clear HR1 hl hc
             go_wp2_with (first | (go_at_call 33; refine (HC.out _ CI0.out.src).mono ?_; rintro e w9 ⟨rfl, h1, h2⟩; exact ⟨rfl, rfl, h1, CI0.out.fq.fr.trans h2⟩))
            | ok o lz =>
             rw [hl] at hc
             obtain rfl : r = .ok ⟨f0, f1, f2, s, ⟨n0, n1, n2, n3, n4, n5, n6, n7, k, t⟩, dd, ts, o⟩ lz := by rw [hl, next_ok] at HR1; exact HR1.symm
             have HC := aM hc
             clear HR1 hl hc
             have M0 : Aside0 True := ⟨trivial⟩
             go_wp2_with (first
              | (go_at_call 33; refine (HC.out _ CI0.out.src).mono ?_; rintro e w9 ⟨_, rfl, rfl, h1, h2⟩; replace H3 := aM (R_fr H3.out h2.fr (by decide)); replace H13 := aM (R_fr H13.out h2.fr (by decide)); replace H14 := aM (R_fr H14.out h2.fr (by decide)); replace H15 := aM (R_fr H15.out h2.fr (by decide)); replace CI0 := aM (CI0.out.call h1 h2); have qc : w9.cell? ⟨gc, 16, .none⟩ = some (.bool false) ∧ w9.frozen? ⟨gc, 16, .none⟩ = false := CI0.out.at_ 16 rfl; clear h1 h2)
              | ((with_reducible refine gate_dst (N := 99) rfl ?_); clear M0; replace H3 := aM (CI0.out.R 16 (.bool o) H3.out (by decide)); replace H13 := aM (CI0.out.R 16 (.bool o) H13.out (by decide)); replace H14 := aM (CI0.out.R 16 (.bool o) H14.out (by decide)); replace H15 := aM (CI0.out.R 16 (.bool o) H15.out (by decide)); replace CI0 := aM (CI0.out.put 16 (.bool o) (cs' := c45 [f0, f1, f2] (.slice A3 s.length c3) [n0, n1, n2, n3, n4, n5, n6, n7] k (.slice A13 t.length c13) (.slice A14 dd.length c14) (.slice A15 ts.length c15) o) rfl rfl); refine ev_load rfl 45 (.tmp 3) rfl ⟨gc, 0, .none⟩ ?hx [.int .i64 f0, .int .i64 f1, .int .i64 f2, .slice A3 s.length c3, .int .i64 n0, .int .i64 n1, .int .i64 n2, .int .i64 n3, .int .i64 n4, .int .i64 n5, .int .i64 n6, .int .i64 n7, .bool k, .slice A13 t.length c13, .slice A14 dd.length c14, .slice A15 ts.length c15, .bool o] _ Try.underlying45 rfl (info45s.trans rfl) (row17 CI0.out.com) ?_; (case hx => first | rfl | (go_simp; done)); generalize w9.setCell ⟨gc, 16, .none⟩ (.bool o) = wz at CI0 H3 H13 H14 H15 ⊢)
              | ((with_reducible refine gate_store (x := .tmp 2) (y := .tmp 99) rfl ?_); refine wpList_store_row rfl 45 (.tmp 2) (.tmp 99) rfl ?hg ?hcs ?hx ?hy ?hty ?hold0 ?hbx ?hi ?hold ?h1 ?_; (case hbx => exact CI0.out.res); (case hx => rfl); (case hy => rfl); (case hold => rfl); (case hi => exact info45s.trans rfl); (case h1 => first | rfl | (simp [Value.oneCell']; done) | (go_simp; done))))
             have hfin := CI0.out.fin #[.int .i64 f0, .int .i64 f1, .int .i64 f2, .slice A3 s.length c3, .int .i64 n0, .int .i64 n1, .int .i64 n2, .int .i64 n3, .int .i64 n4, .int .i64 n5, .int .i64 n6, .int .i64 n7, .bool k, .slice A13 t.length c13, .slice A14 dd.length c14, .slice A15 ts.length c15, .bool o]
             have BX := setRow_heap _ g2 _ #[.int .i64 f0, .int .i64 f1, .int .i64 f2, .slice A3 s.length c3, .int .i64 n0, .int .i64 n1, .int .i64 n2, .int .i64 n3, .int .i64 n4, .int .i64 n5, .int .i64 n6, .int .i64 n7, .bool k, .slice A13 t.length c13, .slice A14 dd.length c14, .slice A15 ts.length c15, .bool o] _ _ CI0.out.res
             have hv := run_loadVar_at (P := Try.prog) _ 45 ⟨g2, 0, .none⟩ [.int .i64 f0, .int .i64 f1, .int .i64 f2, .slice A3 s.length c3, .int .i64 n0, .int .i64 n1, .int .i64 n2, .int .i64 n3, .int .i64 n4, .int .i64 n5, .int .i64 n6, .int .i64 n7, .bool k, .slice A13 t.length c13, .slice A14 dd.length c14, .slice A15 ts.length c15, .bool o] _ Try.underlying45 rfl (info45s.trans rfl) (row17 BX)
             refine ⟨rfl, .agg #[.int .i64 f0, .int .i64 f1, .int .i64 f2, .slice A3 s.length c3, .int .i64 n0, .int .i64 n1, .int .i64 n2, .int .i64 n3, .int .i64 n4, .int .i64 n5, .int .i64 n6, .int .i64 n7, .bool k, .slice A13 t.length c13, .slice A14 dd.length c14, .slice A15 ts.length c15, .bool o], ?_, _, rfl, ⟨[.int .i64 f0, .int .i64 f1, .int .i64 f2, .slice A3 s.length c3, .int .i64 n0, .int .i64 n1, .int .i64 n2, .int .i64 n3, .int .i64 n4, .int .i64 n5, .int .i64 n6, .int .i64 n7, .bool k, .slice A13 t.length c13, .slice A14 dd.length c14, .slice A15 ts.length c15, .bool o], rfl, ?_⟩, hfin.2.1, hfin.2.2⟩
             ·exact results_cell rfl _ _ _ _ _ rfl hv
             ·exact k45_mkM _ _ _ ⟨f0, f1, f2, s, ⟨n0, n1, n2, n3, n4, n5, n6, n7, k, t⟩, dd, ts, o⟩ (R_fr H3.out hfin.1 (by decide)) (R_fr H13.out hfin.1 (by decide)) (R_fr H14.out hfin.1 (by decide)) (R_fr H15.out hfin.1 (by decide))
end Pk
end Go.Proofs.Ytkohdojiockejaa.Q
